/- What the functions do to the memories and procs that they are given: their contracts. The conditions stand in each. -/
import Derived.Test.YtipbbnoepphdkaaGreatSpA
set_option linter.unusedVariables false
set_option linter.unusedSimpArgs false

set_option linter.unusedVariables false
set_option linter.unusedSimpArgs false
namespace Go.Proofs.YtipbbnoepphdkaaGreat
open Go Go.CM
attribute [local irreducible] AsBool AsWant AsNat AsInt AsCnt AsPtr AsSlc AsLen AsStr AsAgg AsTup AsFn AsIfc Nth Sc NotNil IsNil Must Cd codeW funW Sat SatL wrapN subM mkRow ltZ leZ ltN leN
variable {con : CallT}

def longB (prs : List (List Value)) : Bool := prs.any fun l => decide (4096 < l.length)

theorem containsP_ok (hc : Con con lives) {L : List HP} {H : CH} {v : Value} {lvs : List Value} {prs : List (List Value)} {K : KP} (hs : Sat L H) (hq : Has L (Vec v 39 1 (lvs.map fun x => [x]))) (hA : Has L (SatL (procsL lvs prs))) (hlen : lvs.length = prs.length) (hl : lvs.length ≤ 1000000000)
    (k : K (.bool (longB prs)) H) : Call1 Tryz.prog con 56 [v, .func (.func 57) ⟨[]⟩ ⟨[]⟩] H K := by
  refine call_of (hc _ _ _ rfl) ?_
  rw [containsP_W]
  refine call_of (hc _ _ _ rfl) ?_
  rw [indexP_W]
  obtain ⟨pv, ev⟩ := (hs.has hq).shape
  rw [List.length_map] at ev
  subst ev
  repeat (first | refine run ?_ | refine Cd.t rfl ?_ | refine Cd.f rfl ?_ | refine Cd.t (by decide +kernel) ?_ | refine Cd.f (by decide +kernel) ?_ | refine Sc.mk rfl ?_ | refine ld (by assumption) rfl ?_ | refine nw (by assumption) fun _ _ _ => ?_ | refine stB (by assumption) rfl rfl fun _ _ => ?_)
  refine LoopC.ind (n := 100) (by kernel_rfl) (fun (i : Nat) σ H1 => σ 0 = .slice pv lvs.length lvs.length ∧ σ 1 = .func (.func 57) ⟨[]⟩ ⟨[]⟩ ∧ σ 7 = iN lvs.length ∧ σ 8 = iN i ∧ i ≤ lvs.length ∧ (prs.take i).any (fun l => decide (4096 < l.length)) = false ∧ H1 = H) (fun i => lvs.length - i) (fun i σ H1 hI => ?_) 0 _ _ ⟨rfl, rfl, rfl, rfl, Nat.zero_le _, rfl, rfl⟩
  obtain ⟨e0, e1, e7, e8, hi, hno, rfl⟩ := hI
  rw [indexPL_W]
  simp only [e0, e1, e7, e8]
  repeat (first | refine run ?_ | refine Cd.t rfl ?_ | refine Cd.f rfl ?_ | refine Cd.t (by decide +kernel) ?_ | refine Cd.f (by decide +kernel) ?_ | refine Sc.mk rfl ?_ | refine ld (by assumption) rfl ?_ | refine nw (by assumption) fun _ _ _ => ?_ | refine stB (by assumption) rfl rfl fun _ _ => ?_)
  rcases Nat.lt_or_ge i lvs.length with hlt | hge
  · refine Cd.t (ltZ_t (by omega)) ?_
    obtain ⟨x, hx⟩ : ∃ x, lvs[i]? = some x := ⟨_, List.getElem?_eq_getElem hlt⟩
    obtain ⟨l, hl'⟩ : ∃ x, prs[i]? = some x := ⟨_, List.getElem?_eq_getElem (by omega)⟩
    have hr : (lvs.map fun x => [x])[i]? = some [x] := by rw [List.getElem?_map, hx]; rfl
    obtain ⟨b, eb, _⟩ := (hs.has hq).slot hr
    rw [List.length_map] at eb
    injection eb with eb _ _
    subst eb
    obtain ⟨px, ex⟩ := (hs.has (hA.all (procs_get hx hl') fun a s => a.mono s)).shape
    rw [List.length_map] at ex
    subst ex
    repeat (first | refine run ?_ | refine Cd.t rfl ?_ | refine Cd.f rfl ?_ | refine Cd.t (by decide +kernel) ?_ | refine Cd.f (by decide +kernel) ?_ | refine Sc.mk rfl ?_ | refine ld (by assumption) rfl ?_ | refine nw (by assumption) fun _ _ _ => ?_ | refine stB (by assumption) rfl rfl fun _ _ => ?_)
    refine Must.mk (ltN_t hlt) ?_
    refine ldVec hs hq rfl hr (j := 0) (by show 0 + i * 1 = _; omega) (by omega) rfl ?_
    repeat (first | refine run ?_ | refine Cd.t rfl ?_ | refine Cd.f rfl ?_ | refine Cd.t (by decide +kernel) ?_ | refine Cd.f (by decide +kernel) ?_ | refine Sc.mk rfl ?_ | refine ld (by assumption) rfl ?_ | refine nw (by assumption) fun _ _ _ => ?_ | refine stB (by assumption) rfl rfl fun _ _ => ?_)
    refine Must.mk (by kernel_rfl) ?_
    refine call_of (hc _ _ _ rfl) ?_
    show funW Tryz.prog con 57 [.slice px l.length l.length] _ _
    rw [stepNewC_W]
    repeat (first | refine run ?_ | refine Cd.t rfl ?_ | refine Cd.f rfl ?_ | refine Cd.t (by decide +kernel) ?_ | refine Cd.f (by decide +kernel) ?_ | refine Sc.mk rfl ?_ | refine ld (by assumption) rfl ?_ | refine nw (by assumption) fun _ _ _ => ?_ | refine stB (by assumption) rfl rfl fun _ _ => ?_)
    refine Cd.of (fun hy => ?_) (fun hn => ?_)
    · show AsInt _ _ _
      refine AsInt.mk ?_
      have : longB prs = true := by exact List.any_eq_true.2 ⟨l, List.mem_of_getElem? hl', decide_eq_true (ltZ_e hy)⟩
      rw [this] at k
      show K (.bool (leZ (Int.ofNat 0) (Int.ofNat i))) _
      rw [leZ_t (Nat.zero_le i)]
      exact k
    · repeat (first | refine run ?_ | refine Cd.t rfl ?_ | refine Cd.f rfl ?_ | refine Cd.t (by decide +kernel) ?_ | refine Cd.f (by decide +kernel) ?_ | refine Sc.mk rfl ?_ | refine ld (by assumption) rfl ?_ | refine nw (by assumption) fun _ _ _ => ?_ | refine stB (by assumption) rfl rfl fun _ _ => ?_)
      refine inR_nat (n := i + 1) (by omega) ?_
      show ∃ y, _ ∧ _
      refine ⟨i + 1, by omega, e0, e1, e7, rfl, hlt, ?_, rfl⟩
      rw [List.take_add_one, hl', List.any_append, hno]
      simp
      have := ltZ_n hn
      omega
  · refine Cd.f (ltZ_f (by omega)) ?_
    show Cd _ _ _
    refine Cd.t (eqN_self 0) ?_
    refine AsInt.mk ?_
    rw [List.take_of_length_le (by omega)] at hno
    have : longB prs = false := hno
    rw [this] at k
    rw [show leZ (Int.ofNat 0) (Int.negSucc 0) = false by decide +kernel]
    exact k

theorem cloneP_ok (hc : Con con lives) {L : List HP} {H : CH} {v : Value} {e : Nat} {l : List (List Value)} {K : KP} (hs : Sat L H) (hq : Has L (Vec v e 1 l)) (hl : l.length ≤ 1000000000) (hcell : l.flatten.all isCell = true) (k : ∀ v' H1, Sat (Vec v' 42 1 l :: L) H1 → K v' H1) : Call1 Tryz.prog con 58 [v] H K := by
  refine call_of (hc _ _ _ rfl) ?_
  rw [cloneP_W]
  rcases (hs.has hq) with ⟨h8, ⟨rfl, rfl⟩ | ⟨b, h1, rfl, h3⟩⟩
  · repeat (first | refine run ?_ | refine Cd.t rfl ?_ | refine Cd.f rfl ?_ | refine Cd.t (by decide +kernel) ?_ | refine Cd.f (by decide +kernel) ?_ | refine Sc.mk rfl ?_ | refine ld (by assumption) rfl ?_ | refine nw (by assumption) fun _ _ _ => ?_ | refine stB (by assumption) rfl rfl fun _ _ => ?_)
    exact k _ _ (hs.nilV)
  · refine IsNil.slc (Cd.f rfl ?_)
    refine nwR hs fun p H1 h1 => ?_
    have hpos : 0 < l.length := by cases l with | nil => contradiction | cons _ _ => simp
    exact app_clone (new := l) h1 el_pr (by omega) sl_pr (hq.vecSrc rfl) rfl h8 hl hpos k

/-- Views, each with how many accesses it has made. -/
def viewsL (m : Nat) : Nat → List (Nat × Nat) → List HP
  | _, [] => []
  | i, (q, n) :: r => ViewAt q m (Int.ofNat i) n :: viewsL m (i + 1) r
theorem viewsL_get {m : Nat} : ∀ {i0 j : Nat} {qs : List (Nat × Nat)} {q n : Nat}, qs[j]? = some (q, n) → (viewsL m i0 qs)[j]? = some (ViewAt q m (Int.ofNat (i0 + j)) n)
  | i0, j, [], q, n, h => by simp at h
  | i0, 0, x :: r, q, n, h => by simp at h; subst h; rfl
  | i0, j + 1, x :: r, q, n, h => by
    show (viewsL m (i0 + 1) r)[j]? = _
    rw [viewsL_get (by simpa using h), show i0 + 1 + j = i0 + (j + 1) by omega]
theorem viewsL_set {m : Nat} : ∀ {i0 j : Nat} {qs : List (Nat × Nat)} {q n : Nat}, (viewsL m i0 qs).set j (ViewAt q m (Int.ofNat (i0 + j)) n) = viewsL m i0 (qs.set j (q, n))
  | i0, j, [], q, n => rfl
  | i0, 0, x :: r, q, n => rfl
  | i0, j + 1, x :: r, q, n => by
    show ViewAt _ _ _ _ :: (viewsL m (i0 + 1) r).set j _ = ViewAt _ _ _ _ :: viewsL m (i0 + 1) (r.set j (q, n))
    rw [show i0 + (j + 1) = i0 + 1 + j by omega, viewsL_set]
theorem viewsL_len {m : Nat} : ∀ {i0 : Nat} {qs : List (Nat × Nat)}, (viewsL m i0 qs).length = qs.length
  | i0, [] => rfl
  | i0, x :: r => by show (viewsL m (i0 + 1) r).length + 1 = r.length + 1; rw [viewsL_len]
theorem viewsL_app {m : Nat} : ∀ {i0 : Nat} {qs : List (Nat × Nat)} {q n : Nat}, viewsL m i0 (qs ++ [(q, n)]) = viewsL m i0 qs ++ [ViewAt q m (Int.ofNat (i0 + qs.length)) n]
  | i0, [], q, n => rfl
  | i0, x :: r, q, n => by
    show _ :: viewsL m (i0 + 1) (r ++ [(q, n)]) = _ :: (viewsL m (i0 + 1) r ++ _)
    rw [viewsL_app, show i0 + 1 + r.length = i0 + (r.length + 1) by omega]; rfl

def vwsOf (qs : List Nat) : List Value := qs.map (fun q => ptr q 0) ++ List.replicate (64 - qs.length) (.pointer none)
theorem vwsOf_len {qs : List Nat} (h : qs.length ≤ 64) : (vwsOf qs).length = 64 := by simp [vwsOf]; omega
theorem vwsOf_snoc {qs : List Nat} {q : Nat} (h : qs.length < 64) : (vwsOf qs).set qs.length (ptr q 0) = vwsOf (qs ++ [q]) := by
  unfold vwsOf
  rw [List.set_append_right _ _ (by simp), List.length_map, Nat.sub_self, List.map_append, List.length_append]
  obtain ⟨k, hk⟩ : ∃ k, 64 - qs.length = k + 1 := ⟨63 - qs.length, by omega⟩
  rw [hk, show 64 - (qs.length + [q].length) = k by simp; omega, List.replicate_succ, List.set_cons_zero]
  simp
theorem vwsOf_get {qs : List Nat} {i q : Nat} (h : qs[i]? = some q) : (vwsOf qs)[i]? = some (ptr q 0) := by
  unfold vwsOf
  have := (List.getElem?_eq_some_iff.1 h).1
  rw [List.getElem?_append_left (by simpa using this), List.getElem?_map, h]; rfl
theorem procsL_snoc {pv : List Value} {prs : List (List Value)} {p : Value} {l : List Value} (h : pv.length = prs.length) : procsL (pv ++ [p]) (prs ++ [l]) = procsL pv prs ++ [Vec p 42 1 (l.map fun x => [x])] := by
  unfold procsL; rw [List.zipWith_append h]; rfl
theorem thrRows_snoc {pv : List Value} {ths : List (Nat × Bool)} {p : Value} {t : Nat × Bool} (h : pv.length = ths.length) : thrRows (pv ++ [p]) (ths ++ [t]) = thrRows pv ths ++ [[p, iN t.1, .bool t.2]] := by
  unfold thrRows; rw [List.zipWith_append h]; rfl
theorem flat1v (l : List Value) : (l.map fun x => [x]).flatten = l := by
  induction l with
  | nil => rfl
  | cons a l ih => rw [List.map_cons, List.flatten_cons, ih]; rfl

theorem stepNew_ok (hc : Con con lives) {L : List HP} {H : CH} {m : Nat} {v : Value} {lvs : List Value} {prs : List (List Value)} {K : KP} (hs : Sat L H) (hq : Has L (Vec v 39 1 (lvs.map fun x => [x]))) (hA : Has L (SatL (procsL lvs prs))) (hlen : lvs.length = prs.length) (hl : lvs.length ≤ 1000000000)
    (hcell : ∀ l ∈ prs, l.all isCell = true)
    (kbad : 64 < prs.length ∨ longB prs = true → K (.tuple ⟨[.pointer none, iN 6]⟩) H)
    (k : prs.length ≤ 64 → longB prs = false → ∀ r tv pv qs H1, qs.length = prs.length → Sat (RunAt r m tv pv prs (List.replicate prs.length (0, false)) (vwsOf qs) 0 0 :: SatL (viewsL m 0 (qs.map fun q => (q, 0))) :: L) H1 → K (.tuple ⟨[ptr r 0, iN 0]⟩) H1) :
    Call1 Tryz.prog con 14 [ptr m 0, v] H K := by
  refine call_of (hc _ _ _ rfl) ?_
  rw [stepNew_W]
  obtain ⟨pv0, ev⟩ := (hs.has hq).shape
  rw [List.length_map] at ev
  subst ev
  repeat (first | refine run ?_ | refine Cd.t rfl ?_ | refine Cd.f rfl ?_ | refine Cd.t (by decide +kernel) ?_ | refine Cd.f (by decide +kernel) ?_ | refine Sc.mk rfl ?_ | refine ld (by assumption) rfl ?_ | refine nw (by assumption) fun _ _ _ => ?_ | refine stB (by assumption) rfl rfl fun _ _ => ?_)
  refine Cd.of (fun h => ?_) (fun h => ?_)
  · exact kbad (.inl (by have := ltZ_e h; omega))
  have h64 : prs.length ≤ 64 := by have := ltZ_n h; omega
  refine containsP_ok hc hs hq hA hlen hl ?_
  repeat (first | refine run ?_ | refine Cd.t rfl ?_ | refine Cd.f rfl ?_ | refine Cd.t (by decide +kernel) ?_ | refine Cd.f (by decide +kernel) ?_ | refine Sc.mk rfl ?_ | refine ld (by assumption) rfl ?_ | refine nw (by assumption) fun _ _ _ => ?_ | refine stB (by assumption) rfl rfl fun _ _ => ?_)
  cases hlong : longB prs with
  | true => exact Cd.t rfl (kbad (.inr hlong))
  | false =>
    refine Cd.f rfl ?_
    refine nw hs fun r H1 h1 => ?_
    repeat (first | refine run ?_ | refine Cd.t rfl ?_ | refine Cd.f rfl ?_ | refine Cd.t (by decide +kernel) ?_ | refine Cd.f (by decide +kernel) ?_ | refine Sc.mk rfl ?_ | refine ld (by assumption) rfl ?_ | refine nw (by assumption) fun _ _ _ => ?_ | refine stB (by assumption) rfl rfl fun _ _ => ?_)
    refine LoopC.indP (n := 100) (id := 0) (fun σ H => ∃ tv pv qs, σ 6 = ptr r 0 ∧ pv.length = prs.length ∧ qs.length = prs.length ∧ Sat (Own r (runC m tv (vwsOf qs) 0 snil snil) :: Vec tv 178 3 (thrRows pv (List.replicate prs.length (0, false))) :: SatL (procsL pv prs) :: SatL (viewsL m 0 (qs.map fun q => (q, 0))) :: L) H) (by kernel_rfl)
      (fun (i : Nat) σ H => σ 0 = ptr m 0 ∧ σ 6 = ptr r 0 ∧ σ 21 = .slice pv0 lvs.length lvs.length ∧ σ 22 = iN lvs.length ∧ σ 23 = iN i ∧ i ≤ prs.length ∧ ∃ tv pv qs, pv.length = i ∧ qs.length = i ∧
        Sat (Own r (runC m tv (vwsOf qs) 0 snil snil) :: Vec tv 178 3 (thrRows pv (List.replicate i (0, false))) :: SatL (procsL pv (prs.take i)) :: SatL (viewsL m 0 (qs.map fun q => (q, 0))) :: L) H) (fun i => prs.length - i) (fun i σ H hI => ?_) (fun σ H hP => ?_) 0 _ _
      ⟨rfl, rfl, rfl, rfl, rfl, Nat.zero_le _, snil, [], [], rfl, rfl, ?_⟩
    · obtain ⟨e0, e6, e21, e22, e23, hi, tv, pv, qs, hpv, hqs, hs1⟩ := hI
      rw [stepNewL_W]
      simp only [e0, e6, e21, e22, e23]
      repeat (first | refine run ?_ | refine Cd.t rfl ?_ | refine Cd.f rfl ?_ | refine Cd.t (by decide +kernel) ?_ | refine Cd.f (by decide +kernel) ?_ | refine Sc.mk rfl ?_ | refine ld (by assumption) rfl ?_ | refine nw (by assumption) fun _ _ _ => ?_ | refine stB (by assumption) rfl rfl fun _ _ => ?_)
      by_cases hlt : i < prs.length
      · refine Cd.t (ltZ_t (by omega)) ?_
        have hqL : Has (Own r (runC m tv (vwsOf qs) 0 snil snil) :: Vec tv 178 3 (thrRows pv (List.replicate i (0, false))) :: SatL (procsL pv (prs.take i)) :: SatL (viewsL m 0 (qs.map fun q => (q, 0))) :: L) (Vec (.slice pv0 lvs.length lvs.length) 39 1 (lvs.map fun x => [x])) := Has.skip (Has.skip (Has.skip (Has.skip hq)))
        obtain ⟨x, hx⟩ : ∃ x, lvs[i]? = some x := ⟨_, List.getElem?_eq_getElem (by omega)⟩
        obtain ⟨l, hl'⟩ : ∃ x, prs[i]? = some x := ⟨_, List.getElem?_eq_getElem hlt⟩
        have hr : (lvs.map fun x => [x])[i]? = some [x] := by rw [List.getElem?_map, hx]; rfl
        obtain ⟨b, eb, _⟩ := (hs1.has hqL).slot hr
        rw [List.length_map] at eb
        injection eb with eb _ _
        subst eb
        have hv64 : (vwsOf qs).length = 64 := vwsOf_len (by omega)
        repeat (first | refine run ?_ | refine Cd.t rfl ?_ | refine Cd.f rfl ?_ | refine Cd.t (by decide +kernel) ?_ | refine Cd.f (by decide +kernel) ?_ | refine Sc.mk rfl ?_ | refine ld (by assumption) rfl ?_ | refine nw (by assumption) fun _ _ _ => ?_ | refine stB (by assumption) rfl rfl fun _ _ => ?_)
        refine Must.mk (ltN_t (by omega)) ?_
        refine ldVec hs1 hqL rfl hr (j := 0) (by show 0 + i * 1 = _; omega) (by omega) rfl ?_
        refine NotNil.ptr (AsPtr.mk (ld hs1 rfl ?_))
        have hll : l.length ≤ 4096 := by
          have h1 : ¬ (4096 < l.length) := fun h => by
            have : longB prs = true := List.any_eq_true.2 ⟨l, List.mem_of_getElem? hl', decide_eq_true h⟩
            rw [hlong] at this; cases this
          omega
        refine cloneP_ok hc hs1 (Has.skip (Has.skip (Has.skip (Has.skip (hA.all (procs_get hx hl') fun a s => a.mono s))))) (by simp; omega) (by rw [flat1v]; exact hcell l (List.mem_of_getElem? hl')) fun v' H2 h2 => ?_
        obtain ⟨pv', ev'⟩ := (h2.has Has.vec).shape
        rw [List.length_map] at ev'
        refine Sc.mk (by rw [ev']; rfl) ?_
        refine nw h2 fun pb H3 h3 => ?_
        have hth : (thrRows pv (List.replicate i (0, false))).length = i := by rw [rows_len _ _ (by simp [hpv]), List.length_replicate]
        refine app_vec (new := [[v', iN 0, .bool false]]) h3 (by repeat (first | exact Pull.here | apply Pull.there)) el_thr (by omega) sl_thr (Src.cell (n := 3) (by rfl)) rfl (by simp) (by rw [hth]; omega) (by rw [ev']; rfl) fun tv' H4 h4 => ?_
        obtain ⟨pt, et⟩ := (h4.has Has.vec).shape
        refine NotNil.ptr (AsPtr.mk (Sc.mk (by rw [et]; rfl) (stB h4 rfl (by rw [et]; rfl) fun H5 h5 => ?_)))
        obtain ⟨pt0, et0⟩ := (hs1.has (Has.skip Has.vec)).shape
        refine ld hs1 rfl ?_
        rw [et0]
        refine Same.slc ?_
        refine ld h2 (by rw [et0]; rfl) ?_
        refine Same.slc ?_
        refine ld h3 (by rw [et0]; rfl) ?_
        refine Same.slc ?_
        refine memView_ok hc h5 fun q H6 h6 => ?_
        refine NotNil.ptr (AsPtr.mk (AsCnt.mk (Must.mk (ltN_t (by omega)) ?_)))
        have h6 : Sat (ViewAt q m (Int.ofNat i) 0 :: Vec tv' 178 3 (thrRows pv (List.replicate i (0, false)) ++ [[v', iN 0, .bool false]]) :: Own r (runC m tv' (vwsOf qs) 0 snil snil) :: Vec v' 42 1 (l.map fun x => [x]) :: SatL (procsL pv (prs.take i)) :: SatL (viewsL m 0 (qs.map fun q => (q, 0))) :: L) H6 := h6.ent (by repeat (first | exact Ent.refl _ | exact Ent.none | apply Ent.cons (by repeat (first | exact Pull.here | apply Pull.there)) | refine Ent.drop ?_))
        refine Sc.mk rfl (st h6 (by rw [runC_len hv64]; show 2 + i * 1 < 69; omega) rfl fun H7 h7 => ?_)
        rw [show (Nat.add (Nat.add 0 2) (Nat.mul i 1)) = Nat.add 2 (Nat.mul i 1) from rfl, setV (by omega), show (vwsOf qs).set i (ptr q 0) = vwsOf (qs ++ [q]) by rw [← hqs]; exact vwsOf_snoc (by omega)] at h7
        repeat (first | refine run ?_ | refine Cd.t rfl ?_ | refine Cd.f rfl ?_ | refine Cd.t (by decide +kernel) ?_ | refine Cd.f (by decide +kernel) ?_ | refine Sc.mk rfl ?_ | refine ld (by assumption) rfl ?_ | refine nw (by assumption) fun _ _ _ => ?_ | refine stB (by assumption) rfl rfl fun _ _ => ?_)
        rw [addInt]
        refine inR_nat (n := i + 1) (by omega) ?_
        show ∃ y, _ ∧ _
        refine ⟨i + 1, by omega, e0, e6, e21, e22, rfl, hlt, tv', pv ++ [v'], qs ++ [q], by simp [hpv], by simp [hqs], ?_⟩
        have hv' : thrRows pv (List.replicate i (0, false)) ++ [[v', iN 0, .bool false]] = thrRows (pv ++ [v']) (List.replicate (i + 1) (0, false)) := by
          rw [List.replicate_succ', thrRows_snoc (by simp [hpv])]
        have hp' : procsL pv (prs.take i) ++ [Vec v' 42 1 (l.map fun x => [x])] = procsL (pv ++ [v']) (prs.take (i + 1)) := by
          rw [List.take_add_one, hl']
          show _ = procsL (pv ++ [v']) (prs.take i ++ [l])
          rw [procsL_snoc (by simp [hpv]; omega)]
        have hw' : viewsL m 0 (qs.map fun q => (q, 0)) ++ [ViewAt q m (Int.ofNat i) 0] = viewsL m 0 ((qs ++ [q]).map fun q => (q, 0)) := by
          rw [List.map_append, List.map_singleton, viewsL_app, List.length_map, Nat.zero_add, hqs]
        rw [hv'] at h7
        have h8 : Sat (ViewAt q m (Int.ofNat i) 0 :: SatL (viewsL m 0 (qs.map fun q => (q, 0))) :: Vec v' 42 1 (l.map fun x => [x]) :: SatL (procsL pv (prs.take i)) :: Vec tv' 178 3 (thrRows (pv ++ [v']) (List.replicate (i + 1) (0, false))) :: Own r (runC m tv' (vwsOf (qs ++ [q])) 0 snil snil) :: L) H7 := h7.ent (by repeat (first | exact Ent.refl _ | exact Ent.none | apply Ent.cons (by repeat (first | exact Pull.here | apply Pull.there)) | refine Ent.drop ?_))
        have h9 := h8.snoc
        rw [hw'] at h9
        have h10 : Sat (Vec v' 42 1 (l.map fun x => [x]) :: SatL (procsL pv (prs.take i)) :: SatL (viewsL m 0 ((qs ++ [q]).map fun q => (q, 0))) :: Vec tv' 178 3 (thrRows (pv ++ [v']) (List.replicate (i + 1) (0, false))) :: Own r (runC m tv' (vwsOf (qs ++ [q])) 0 snil snil) :: L) H7 := h9.ent (by repeat (first | exact Ent.refl _ | exact Ent.none | apply Ent.cons (by repeat (first | exact Pull.here | apply Pull.there)) | refine Ent.drop ?_))
        have h11 := h10.snoc
        rw [hp'] at h11
        exact h11.ent (by repeat (first | exact Ent.refl _ | exact Ent.none | apply Ent.cons (by repeat (first | exact Pull.here | apply Pull.there)) | refine Ent.drop ?_))
      · refine Cd.f (ltZ_f (by omega)) ?_
        show _ = _ ∧ _
        have : i = prs.length := by omega
        subst this
        rw [List.take_of_length_le (Nat.le_refl _)] at hs1
        exact ⟨rfl, tv, pv, qs, e6, hpv, hqs, hs1⟩
    · obtain ⟨tv, pv, qs, e6, hpv, hqs, hs1⟩ := hP
      show Cd _ _ _
      refine Cd.t (eqN_self 0) ?_
      rw [e6]
      refine k h64 hlong r tv pv qs _ hqs ?_
      have h2 : Sat (Vec snil 3 1 [] :: Vec snil 233 4 [] :: Own r (runC m tv (vwsOf qs) 0 snil snil) :: Vec tv 178 3 (thrRows pv (List.replicate prs.length (0, false))) :: SatL (procsL pv prs) :: SatL (viewsL m 0 (qs.map fun q => (q, 0))) :: L) H := hs1.nilV.nilV
      exact Sat.close (L1 := [Own r (runC m tv (vwsOf qs) 0 snil snil), Vec tv 178 3 (thrRows pv (List.replicate prs.length (0, false))), Vec snil 233 4 [], Vec snil 3 1 [], SatL (procsL pv prs)]) (h2.ent (by repeat (first | exact Ent.refl _ | exact Ent.none | apply Ent.cons (by repeat (first | exact Pull.here | apply Pull.there)) | refine Ent.drop ?_))) fun g a => ⟨snil, snil, [], [], ⟨Nat.zero_le _, Nat.zero_le _, vwsOf_len (by omega), by simp [hpv], by simp⟩, a⟩
    · exact (Sat.none (Sat.none (Sat.nilV (by assumption)))).ent (by repeat (first | exact Ent.refl _ | exact Ent.none | apply Ent.cons (by repeat (first | exact Pull.here | apply Pull.there)) | refine Ent.drop ?_))
end Go.Proofs.YtipbbnoepphdkaaGreat

set_option linter.unusedVariables false
set_option linter.unusedSimpArgs false
namespace Go.Proofs.YtipbbnoepphdkaaGreat
open Go Go.CM
attribute [local irreducible] AsBool AsWant AsNat AsInt AsCnt AsPtr AsSlc AsLen AsStr AsAgg AsTup AsFn AsIfc Nth Sc NotNil IsNil Must Cd codeW funW Sat SatL wrapN subM mkRow ltZ leZ ltN leN
variable {con : CallT}

/-! ### any of the procs -/
inductive PrS where
  | cas (s : CasS)
  | take (s : TakeS)
  | cut (s : CutS)
  | past (s : PastS)
def PrS.step (s : PrS) (M : Mem) (th : Int) : PrS × Mem :=
  match s with
  | .cas s => (.cas (s.step M th).1, (s.step M th).2)
  | .take s => (.take (s.step M th).1, (s.step M th).2)
  | .cut s => (.cut (s.step M th).1, (s.step M th).2)
  | .past s => (.past (s.step M th).1, (s.step M th).2)
def PrS.over (s : PrS) : Bool :=
  match s with
  | .cas s => eqN s.at_ 8
  | .take s => eqN s.at_ 2
  | .cut s => eqZ (Int.ofNat s.at_) (Int.ofNat 7)
  | .past s => eqN s.at_ 5
/-- Under way, and as it may be. -/
def PrS.Ok (s : PrS) : Prop :=
  match s with
  | .cas s => s.at_ < 8 ∧ (s.at_ = 1 ∨ s.at_ = 5 ∨ s.at_ = 7 → s.ini.at_ < 3)
  | .take s => s.at_ < 2
  | .cut s => s.at_ < 7 ∧ s.st.length ≤ 1000000000
  | .past s => s.at_ < 5 ∧ (s.at_ = 1 → s.ini.at_ < 3)
/-- A proc of the program's, behind an interface. -/
def PrcAt (v : Value) (s : PrS) : HP := fun h =>
  match s with
  | .cas s => ∃ p, v = .iface 163 (ptr p 0) ∧ CasAt p s h
  | .take s => ∃ p, v = .iface 165 (ptr p 0) ∧ TakeAt p s h
  | .cut s => ∃ p v', v = .iface 151 (ptr p 0) ∧ SatL [Own p (cutC s v'), Nums v' s.st] h
  | .past s => ∃ p, v = .iface 167 (ptr p 0) ∧ PastAt p s h
def IfcOk (v : Value) : Prop := ∃ t p, v = .iface t (ptr p 0) ∧ (t = 163 ∨ t = 165 ∨ t = 151 ∨ t = 167)
theorem PrcAt.ifc {v : Value} {s : PrS} {h : PH} (a : PrcAt v s h) : IfcOk v := by
  cases s with
  | cas s => obtain ⟨p, rfl, _⟩ := a; exact ⟨_, p, rfl, .inl rfl⟩
  | take s => obtain ⟨p, rfl, _⟩ := a; exact ⟨_, p, rfl, .inr (.inl rfl)⟩
  | cut s => obtain ⟨p, v', rfl, _⟩ := a; exact ⟨_, p, rfl, .inr (.inr (.inl rfl))⟩
  | past s => obtain ⟨p, rfl, _⟩ := a; exact ⟨_, p, rfl, .inr (.inr (.inr rfl))⟩
theorem CasAt.mono {p : Nat} {s : CasS} {g h : PH} (a : CasAt p s g) (t : Subh g h) : CasAt p s h := by
  obtain ⟨cam, obj, old, now, at_, x, n, ini⟩ := s
  match at_ with
  | 0 => obtain ⟨x0, x1, x2, x3, x4, x5, x6, a⟩ := a; exact ⟨x0, x1, x2, x3, x4, x5, x6, a.mono t⟩
  | 1 => obtain ⟨x0, x1, x2, x3, x4, x5, a⟩ := a; exact ⟨x0, x1, x2, x3, x4, x5, a.mono t⟩
  | 2 => obtain ⟨x0, x1, x2, x3, x4, x5, a⟩ := a; exact ⟨x0, x1, x2, x3, x4, x5, a.mono t⟩
  | 3 => obtain ⟨x0, x1, x2, x3, x4, x5, x6, a⟩ := a; exact ⟨x0, x1, x2, x3, x4, x5, x6, a.mono t⟩
  | 4 => obtain ⟨x0, x1, x2, x3, x4, x5, a⟩ := a; exact ⟨x0, x1, x2, x3, x4, x5, a.mono t⟩
  | 5 => obtain ⟨x0, x1, x2, x3, x4, x5, x6, x7, x8, a⟩ := a; exact ⟨x0, x1, x2, x3, x4, x5, x6, x7, x8, a.mono t⟩
  | 6 => obtain ⟨x0, x1, x2, x3, x4, x5, x6, x7, a⟩ := a; exact ⟨x0, x1, x2, x3, x4, x5, x6, x7, a.mono t⟩
  | 7 => obtain ⟨x0, x1, x2, x3, x4, x5, x6, x7, x8, a⟩ := a; exact ⟨x0, x1, x2, x3, x4, x5, x6, x7, x8, a.mono t⟩
  | k + 8 => trivial
theorem PastAt.mono {p : Nat} {s : PastS} {g h : PH} (a : PastAt p s g) (t : Subh g h) : PastAt p s h := by
  obtain ⟨cam, obj, stamp, at_, x, ini⟩ := s
  match at_ with
  | 0 => obtain ⟨x0, x1, x2, x3, a⟩ := a; exact ⟨x0, x1, x2, x3, a.mono t⟩
  | 1 => obtain ⟨x0, x1, x2, a⟩ := a; exact ⟨x0, x1, x2, a.mono t⟩
  | 2 => obtain ⟨x0, x1, x2, x3, a⟩ := a; exact ⟨x0, x1, x2, x3, a.mono t⟩
  | 3 => obtain ⟨x0, x1, x2, x3, a⟩ := a; exact ⟨x0, x1, x2, x3, a.mono t⟩
  | 4 => obtain ⟨x0, x1, x2, x3, a⟩ := a; exact ⟨x0, x1, x2, x3, a.mono t⟩
  | k + 5 => trivial
theorem prc_mono {v : Value} {s : PrS} {g h : PH} (a : PrcAt v s g) (t : Subh g h) : PrcAt v s h := by
  cases s with
  | cas s => obtain ⟨p, rfl, a⟩ := a; exact ⟨p, rfl, a.mono t⟩
  | take s => obtain ⟨p, rfl, x, y, z, a⟩ := a; exact ⟨p, rfl, x, y, z, a.mono t⟩
  | cut s => obtain ⟨p, v', rfl, a⟩ := a; exact ⟨p, v', rfl, a.mono t⟩
  | past s => obtain ⟨p, rfl, a⟩ := a; exact ⟨p, rfl, a.mono t⟩
theorem IfcOk.meth {v : Value} (h : IfcOk v) (Q : Prop) (q : Q) : MethOk Tryz.prog "Step" [v] Q := by
  obtain ⟨t, p, rfl, rfl | rfl | rfl | rfl⟩ := h
  · exact MethOk.mk' (q := (218, ptr p 0)) (by kernel_rfl) q
  · exact MethOk.mk' (q := (224, ptr p 0)) (by kernel_rfl) q
  · exact MethOk.mk' (q := (213, ptr p 0)) (by kernel_rfl) q
  · exact MethOk.mk' (q := (225, ptr p 0)) (by kernel_rfl) q
theorem IfcOk.cell {v : Value} (h : IfcOk v) : isCell v = true := by
  obtain ⟨t, p, rfl, _⟩ := h; rfl

theorem prcStep_ok (hc : Con con lives) (s : PrS) {L R1 R2 R3 : List HP} {H : CH} {v : Value} {q m n : Nat} {th : Int} {M : Mem} {K : KP} (hs : Sat L H) (hm : Pull L (MemP m M) R1) (hv : Pull R1 (ViewAt q m th n) R2) (hp : Pull R2 (PrcAt v s) R3)
    (hn : n < 1000000000) (ht : M.tr.length < 1000000000) (hok : s.Ok) (k : ∀ H1, Sat (PrcAt v (s.step M th).1 :: MemP m (s.step M th).2 :: ViewAt q m th (n + 1) :: R3) H1 → K (.bool (s.step M th).1.over) H1) :
    Mth Tryz.prog con v "Step" [ptr q 0] H K := by
  have hs0 := hs.takes (.cons hm (.cons hv (.cons hp .nil)))
  simp only [List.cons_append, List.nil_append] at hs0
  cases s with
  | cas s =>
    obtain ⟨h1, h2, s1, s2, d, ⟨p, rfl, hin⟩, hR⟩ := hs0.opens (.there (.there .here))
    have hs1 := Sat.merge (L1 := [CasAt p s]) s1 s2 d (SatL.one hin) hR
    simp only [List.cons_append, List.nil_append] at hs1
    refine Mth.of (f := 218) (rc := ptr p 0) (by kernel_rfl) (by kernel_rfl) ?_
    refine casStep_ok hc s hs1 (by repeat (first | exact Pull.here | apply Pull.there)) (by repeat (first | exact Pull.here | apply Pull.there)) (by repeat (first | exact Pull.here | apply Pull.there)) hn ht hok.1 fun H1 h1 => k _ ?_
    exact h1.imp fun g a => ⟨p, rfl, a⟩
  | take s =>
    obtain ⟨h1, h2, s1, s2, d, ⟨p, rfl, hin⟩, hR⟩ := hs0.opens (.there (.there .here))
    have hs1 := Sat.merge (L1 := [TakeAt p s]) s1 s2 d (SatL.one hin) hR
    simp only [List.cons_append, List.nil_append] at hs1
    refine Mth.of (f := 224) (rc := ptr p 0) (by kernel_rfl) (by kernel_rfl) ?_
    refine takeStep_ok hc s hs1 (by repeat (first | exact Pull.here | apply Pull.there)) (by repeat (first | exact Pull.here | apply Pull.there)) (by repeat (first | exact Pull.here | apply Pull.there)) hn ht hok fun H1 h1 => k _ ?_
    exact h1.imp fun g a => ⟨p, rfl, a⟩
  | cut s =>
    obtain ⟨h1, h2, s1, s2, d, ⟨p, v', rfl, hin⟩, hR⟩ := hs0.opens (.there (.there .here))
    have hs1 := Sat.merge s1 s2 d hin hR
    simp only [List.cons_append, List.nil_append] at hs1
    refine Mth.of (f := 213) (rc := ptr p 0) (by kernel_rfl) (by kernel_rfl) ?_
    refine cutStep_ok hc s hs1 (by repeat (first | exact Pull.here | apply Pull.there)) (by repeat (first | exact Pull.here | apply Pull.there)) (by repeat (first | exact Pull.here | apply Pull.there)) Has.nums hok.2 hn ht hok.1 fun H1 h1 => k _ ?_
    exact Sat.close (L1 := [Own p (cutC (s.step M th).1 v'), Nums v' s.st]) (h1.ent (by repeat (first | exact Ent.refl _ | exact Ent.none | apply Ent.cons (by repeat (first | exact Pull.here | apply Pull.there)) | refine Ent.drop ?_))) fun g a => ⟨p, v', rfl, by rw [step_st]; exact a⟩
  | past s =>
    obtain ⟨h1, h2, s1, s2, d, ⟨p, rfl, hin⟩, hR⟩ := hs0.opens (.there (.there .here))
    have hs1 := Sat.merge (L1 := [PastAt p s]) s1 s2 d (SatL.one hin) hR
    simp only [List.cons_append, List.nil_append] at hs1
    refine Mth.of (f := 225) (rc := ptr p 0) (by kernel_rfl) (by kernel_rfl) ?_
    refine atStep_ok hc s hs1 (by repeat (first | exact Pull.here | apply Pull.there)) (by repeat (first | exact Pull.here | apply Pull.there)) (by repeat (first | exact Pull.here | apply Pull.there)) hn ht hok.1 fun H1 h1 => k _ ?_
    exact h1.imp fun g a => ⟨p, rfl, a⟩

/-! ### calls -/
structure CallS where
  kind : Int
  obj : Nat
  a : Nat
  b : Nat
  fl : Nat
  st : List Nat
def CallS.o (c : CallS) : Nat := addM 2 (Nat.mod c.obj 2)
def CallS.fresh (c : CallS) : PrS :=
  if c.kind = Int.ofNat 0 then .cas ⟨1, c.o, c.a, c.b, 0, 0, 0, ⟨0, 0, 0, 0⟩⟩
  else if c.kind = Int.ofNat 1 then .take ⟨1, 1073741824, 0, 0⟩
  else if c.kind = Int.ofNat 2 then .cut ⟨c.o, c.fl, c.st, 0, 0, 0, 0, 0, 0, 0, 0, 0⟩
  else .past ⟨1, c.o, c.a, 0, 0, ⟨0, 0, 0, 0⟩⟩
theorem CallS.freshOk (c : CallS) (h : c.st.length ≤ 1000000000) : c.fresh.Ok := by
  unfold CallS.fresh
  split
  · exact ⟨by show 0 < 8; omega, fun h => by rcases h with h | h | h <;> cases h⟩
  · split
    · show 0 < 2; omega
    · split
      · exact ⟨by show 0 < 7; omega, h⟩
      · exact ⟨by show 0 < 5; omega, fun h => nomatch h⟩

theorem law15Begin_ok (hc : Con con lives) (c : CallS) {L : List HP} {H : CH} {xv : Value} {K : KP} (hs : Sat L H) (hq : Has L (Nums xv c.st)) (hl : c.st.length ≤ 1000000000) (k : ∀ v H1, Sat (PrcAt v c.fresh :: L) H1 → K v H1) :
    Call1 Tryz.prog con 13 [.agg ⟨[i64 c.kind, u64 c.obj, u64 c.a, u64 c.b, u64 c.fl, xv]⟩] H K := by
  refine call_of (hc _ _ _ rfl) ?_
  rw [law15Begin_W]
  refine nw hs fun p1 H1 h1 => ?_
  unfold CallS.fresh at k
  obtain ⟨px, cx, rfl⟩ := (hs.has hq).len
  repeat (first | refine run ?_ | refine Cd.t rfl ?_ | refine Cd.f rfl ?_ | refine Cd.t (by decide +kernel) ?_ | refine Cd.f (by decide +kernel) ?_ | refine Sc.mk rfl ?_ | refine ld (by assumption) rfl ?_ | refine nw (by assumption) fun _ _ _ => ?_ | refine stB (by assumption) rfl rfl fun _ _ => ?_)
  by_cases e : c.kind = Int.ofNat 0
  · refine Cd.t (decide_eq_true e) ?_
    rw [if_pos e] at k
    repeat (first | refine run ?_ | refine Cd.t rfl ?_ | refine Cd.f rfl ?_ | refine Cd.t (by decide +kernel) ?_ | refine Cd.f (by decide +kernel) ?_ | refine Sc.mk rfl ?_ | refine ld (by assumption) rfl ?_ | refine nw (by assumption) fun _ _ _ => ?_ | refine stB (by assumption) rfl rfl fun _ _ => ?_)
    exact newCas_ok hc h1 fun p H2 h2 => k _ _ ((h2.imp (B := PrcAt (.iface 163 (ptr p 0)) (.cas ⟨1, c.o, c.a, c.b, 0, 0, 0, ⟨0, 0, 0, 0⟩⟩)) fun g a => ⟨p, rfl, a⟩).ent (by repeat (first | exact Ent.refl _ | exact Ent.none | apply Ent.cons (by repeat (first | exact Pull.here | apply Pull.there)) | refine Ent.drop ?_)))
  · refine Cd.f (decide_eq_false e) ?_
    rw [if_neg e] at k
    repeat (first | refine run ?_ | refine Cd.t rfl ?_ | refine Cd.f rfl ?_ | refine Cd.t (by decide +kernel) ?_ | refine Cd.f (by decide +kernel) ?_ | refine Sc.mk rfl ?_ | refine ld (by assumption) rfl ?_ | refine nw (by assumption) fun _ _ _ => ?_ | refine stB (by assumption) rfl rfl fun _ _ => ?_)
    by_cases e : c.kind = Int.ofNat 1
    · refine Cd.t (decide_eq_true e) ?_
      rw [if_pos e] at k
      exact newTake_ok hc h1 fun p H2 h2 => k _ _ ((h2.imp (B := PrcAt (.iface 165 (ptr p 0)) (.take ⟨1, 1073741824, 0, 0⟩)) fun g a => ⟨p, rfl, a⟩).ent (by repeat (first | exact Ent.refl _ | exact Ent.none | apply Ent.cons (by repeat (first | exact Pull.here | apply Pull.there)) | refine Ent.drop ?_)))
    · refine Cd.f (decide_eq_false e) ?_
      rw [if_neg e] at k
      repeat (first | refine run ?_ | refine Cd.t rfl ?_ | refine Cd.f rfl ?_ | refine Cd.t (by decide +kernel) ?_ | refine Cd.f (by decide +kernel) ?_ | refine Sc.mk rfl ?_ | refine ld (by assumption) rfl ?_ | refine nw (by assumption) fun _ _ _ => ?_ | refine stB (by assumption) rfl rfl fun _ _ => ?_)
      by_cases e : c.kind = Int.ofNat 2
      · refine Cd.t (decide_eq_true e) ?_
        rw [if_pos e] at k
        repeat (first | refine run ?_ | refine Cd.t rfl ?_ | refine Cd.f rfl ?_ | refine Cd.t (by decide +kernel) ?_ | refine Cd.f (by decide +kernel) ?_ | refine Sc.mk rfl ?_ | refine ld (by assumption) rfl ?_ | refine nw (by assumption) fun _ _ _ => ?_ | refine stB (by assumption) rfl rfl fun _ _ => ?_)
        refine newCut_ok (st := c.st) hc h1 (Has.skip hq) hl fun p v' H2 h2 => ?_
        exact k _ _ (Sat.close (L1 := [Own p _, Nums v' c.st]) (h2.ent (by repeat (first | exact Ent.refl _ | exact Ent.none | apply Ent.cons (by repeat (first | exact Pull.here | apply Pull.there)) | refine Ent.drop ?_))) fun g a => ⟨p, v', rfl, a⟩)
      · refine Cd.f (decide_eq_false e) ?_
        rw [if_neg e] at k
        repeat (first | refine run ?_ | refine Cd.t rfl ?_ | refine Cd.f rfl ?_ | refine Cd.t (by decide +kernel) ?_ | refine Cd.f (by decide +kernel) ?_ | refine Sc.mk rfl ?_ | refine ld (by assumption) rfl ?_ | refine nw (by assumption) fun _ _ _ => ?_ | refine stB (by assumption) rfl rfl fun _ _ => ?_)
        exact newAt_ok hc h1 fun p H2 h2 => k _ _ ((h2.imp (B := PrcAt (.iface 167 (ptr p 0)) (.past ⟨1, c.o, c.a, 0, 0, ⟨0, 0, 0, 0⟩⟩)) fun g a => ⟨p, rfl, a⟩).ent (by repeat (first | exact Ent.refl _ | exact Ent.none | apply Ent.cons (by repeat (first | exact Pull.here | apply Pull.there)) | refine Ent.drop ?_)))
end Go.Proofs.YtipbbnoepphdkaaGreat

set_option linter.unusedVariables false
set_option linter.unusedSimpArgs false
namespace Go.Proofs.YtipbbnoepphdkaaGreat
open Go Go.CM
attribute [local irreducible] AsBool AsWant AsNat AsInt AsCnt AsPtr AsSlc AsLen AsStr AsAgg AsTup AsFn AsIfc Nth Sc NotNil IsNil Must Cd codeW funW Sat SatL wrapN subM mkRow ltZ leZ ltN leN
variable {con : CallT}

/-! ### what threads do, step by step -/
structure G where
  M : Mem
  ths : List (Nat × Bool)
  st : List (List PrS)
def G.pick (g : G) (t : Int) : G :=
  match t with
  | .negSucc _ => g
  | .ofNat i =>
    match g.ths[i]?, g.st[i]? with
    | some (a, _), some ss =>
      match ss[a]? with
      | some s => { M := (s.step g.M (Int.ofNat i)).2, ths := g.ths.set i (if (s.step g.M (Int.ofNat i)).1.over then (a + 1, false) else (a, true)), st := g.st.set i (ss.set a (s.step g.M (Int.ofNat i)).1) }
      | none => g
    | _, _ => g

theorem ini_tr (s : IniS) (M : Mem) (th : Int) : (s.step M th).2.tr.length = M.tr.length + 1 := by
  unfold IniS.step
  split
  · simp [Mem.load, Mem.note]
  · split
    · simp [Mem.load, Mem.note]
    · simp only [Mem.cas, Mem.note]
      split <;> simp [Mem.put]
theorem cas_tr (M : Mem) (th : Int) (a x y : Nat) : (M.cas th a x y).tr.length = M.tr.length + 1 := by
  simp only [Mem.cas, Mem.note]
  split <;> simp [Mem.put]
theorem alloc_tr (M : Mem) (th : Int) (l : List Nat) : (M.alloc th l).tr.length = M.tr.length + 1 := by
  simp only [Mem.alloc, Mem.note]
  split <;> simp
theorem load_tr (M : Mem) (th : Int) (a : Nat) : (M.load th a).tr.length = M.tr.length + 1 := by simp [Mem.load, Mem.note]
theorem store_tr (M : Mem) (th : Int) (a x : Nat) : (M.store th a x).tr.length = M.tr.length + 1 := by simp [Mem.store, Mem.note, Mem.put]
theorem step_tr (s : PrS) (M : Mem) (th : Int) : (s.step M th).2.tr.length = M.tr.length + 1 := by
  cases s with
  | cas s =>
    show (s.step M th).2.tr.length = _
    unfold CasS.step
    split <;> simp only [ini_tr, load_tr, cas_tr, alloc_tr]
  | take s =>
    show (s.step M th).2.tr.length = _
    unfold TakeS.step
    split <;> simp only [load_tr, cas_tr]
  | cut s =>
    show (s.step M th).2.tr.length = _
    unfold CutS.step CutS.go
    simp only
    repeat' split
    all_goals simp only [load_tr, store_tr]
  | past s =>
    show (s.step M th).2.tr.length = _
    unfold PastS.step
    split <;> simp only [ini_tr, load_tr]

/-- Short numbers in what was allotted. -/
def CalmV (M : Mem) : Prop := ∀ a ∈ M.tr, a.vals.length ≤ 1000000000
theorem CalmV.note {M : Mem} {c : Acs} (h : CalmV M) (hc : c.vals.length ≤ 1000000000) : CalmV (M.note c) := fun a ha => by
  simp only [Mem.note, List.mem_append, List.mem_singleton] at ha
  rcases ha with ha | rfl
  · exact h a ha
  · exact hc
theorem CalmV.load {M : Mem} {th : Int} {a : Nat} (h : CalmV M) : CalmV (M.load th a) := h.note (by simp [accLd])
theorem CalmV.store {M : Mem} {th : Int} {a x : Nat} (h : CalmV M) : CalmV (M.store th a x) := CalmV.note (M := M.put a x) h (by simp [accSt])
theorem CalmV.cas {M : Mem} {th : Int} {a x y : Nat} (h : CalmV M) : CalmV (M.cas th a x y) := by
  unfold Mem.cas
  split
  · exact CalmV.note (M := M.put a y) h (by simp [accCas])
  · exact CalmV.note h (by simp [accCas])
theorem CalmV.alloc {M : Mem} {th : Int} {l : List Nat} (h : CalmV M) (hl : l.length ≤ 1000000000) : CalmV (M.alloc th l) := by
  unfold Mem.alloc
  split
  · exact CalmV.note (M := { M with cells := _, free := _ }) h hl
  · exact CalmV.note h hl
theorem CalmV.ini {M : Mem} {th : Int} {s : IniS} (h : CalmV M) : CalmV (s.step M th).2 := by
  unfold IniS.step
  split
  · exact h.load
  · split
    · exact h.load
    · exact h.cas
theorem CalmV.step {M : Mem} {th : Int} {s : PrS} (h : CalmV M) : CalmV (s.step M th).2 := by
  cases s with
  | cas s =>
    show CalmV (s.step M th).2
    unfold CasS.step
    split <;> first | exact h.load | exact h.ini | exact h.cas | exact h.alloc (by simp)
  | take s =>
    show CalmV (s.step M th).2
    unfold TakeS.step
    split <;> first | exact h.load | exact h.cas
  | cut s =>
    show CalmV (s.step M th).2
    unfold CutS.step CutS.go
    simp only
    repeat' split
    all_goals first | exact h.load | exact h.store
  | past s =>
    show CalmV (s.step M th).2
    unfold PastS.step
    split <;> first | exact h.load | exact h.ini

theorem held_ok (s : CasS) (v : Nat) (h : eqN (s.held v).at_ 8 = false) : (s.held v).at_ = 3 := by
  unfold CasS.held at h ⊢
  split at h
  · rename_i e
    rw [if_pos e]
    split at h
    · cases h
    · rename_i e2; rw [if_neg e2]
  · cases h
theorem step_ok (s : PrS) (M : Mem) (th : Int) (h : s.Ok) (ho : (s.step M th).1.over = false) : (s.step M th).1.Ok := by
  cases s with
  | take s =>
    obtain ⟨cam, most, at_, t⟩ := s
    have h : at_ < 2 := h
    show (TakeS.step _ M th).1.at_ < 2
    have ho : eqN (TakeS.step ⟨cam, most, at_, t⟩ M th).1.at_ 2 = false := ho
    rcases (by omega : at_ = 0 ∨ at_ = 1) with rfl | rfl
    · simp only [TakeS.step] at ho ⊢
      split at ho
      · rename_i e; rw [if_pos e]; omega
      · cases ho
    · cases ho
  | cut s =>
    obtain ⟨h1, h2⟩ := h
    refine ⟨?_, by show (s.step M th).1.st.length ≤ _; rw [step_st]; exact h2⟩
    have h3 := step_le s M th
    have ho : eqZ (Int.ofNat (s.step M th).1.at_) (Int.ofNat 7) = false := ho
    have h4 : (s.step M th).1.at_ ≠ 7 := fun e => by rw [eqZ_t e] at ho; cases ho
    show (s.step M th).1.at_ < 7
    omega
  | past s =>
    obtain ⟨cam, obj, stamp, at_, x, ini⟩ := s
    obtain ⟨h1, h2⟩ := h
    simp only at h1 h2
    have ho : eqN (PastS.step ⟨cam, obj, stamp, at_, x, ini⟩ M th).1.at_ 5 = false := ho
    show (PastS.step _ M th).1.at_ < 5 ∧ ((PastS.step _ M th).1.at_ = 1 → (PastS.step _ M th).1.ini.at_ < 3)
    rcases (by omega : at_ = 0 ∨ at_ = 1 ∨ at_ = 2 ∨ at_ = 3 ∨ at_ = 4) with rfl | rfl | rfl | rfl | rfl
    · simp only [PastS.step] at ho ⊢
      split at ho
      · cases ho
      · rename_i e; rw [if_neg e]; exact ⟨by omega, fun _ => by omega⟩
    · simp only [PastS.step] at ho ⊢
      by_cases e : (ini.step M th).1.at_ = 3
      · rw [if_pos e]; exact ⟨by omega, fun h => by omega⟩
      · rw [if_neg e]; exact ⟨by omega, fun _ => ini_lt ini M th (h2 rfl) e⟩
    · simp only [PastS.step] at ho ⊢
      split <;> exact ⟨by omega, fun h => by omega⟩
    · simp only [PastS.step] at ho ⊢
      split at ho
      · cases ho
      · rename_i e; rw [if_neg e]; exact ⟨by omega, fun h => by omega⟩
    · cases ho
  | cas s =>
    obtain ⟨cam, obj, old, now, at_, x, n, ini⟩ := s
    obtain ⟨h1, h2⟩ := h
    simp only at h1 h2
    have ho : eqN (CasS.step ⟨cam, obj, old, now, at_, x, n, ini⟩ M th).1.at_ 8 = false := ho
    show (CasS.step _ M th).1.at_ < 8 ∧ ((CasS.step _ M th).1.at_ = 1 ∨ (CasS.step _ M th).1.at_ = 5 ∨ (CasS.step _ M th).1.at_ = 7 → (CasS.step _ M th).1.ini.at_ < 3)
    rcases (by omega : at_ = 0 ∨ at_ = 1 ∨ at_ = 2 ∨ at_ = 3 ∨ at_ = 4 ∨ at_ = 5 ∨ at_ = 6 ∨ at_ = 7) with rfl | rfl | rfl | rfl | rfl | rfl | rfl | rfl
    · simp only [CasS.step] at ho ⊢
      by_cases e : M.peek obj = 0
      · rw [if_pos e] at ho ⊢
        have := held_ok _ _ ho
        exact ⟨by omega, fun h => by omega⟩
      · rw [if_neg e]; exact ⟨by show 1 < 8; omega, fun _ => by show 0 < 3; omega⟩
    · simp only [CasS.step] at ho ⊢
      by_cases e : (ini.step M th).1.at_ = 3
      · rw [if_pos e]; exact ⟨by omega, fun h => by omega⟩
      · rw [if_neg e]; exact ⟨by omega, fun _ => ini_lt ini M th (h2 (.inl rfl)) e⟩
    · simp only [CasS.step] at ho ⊢
      have := held_ok _ _ ho
      exact ⟨by omega, fun h => by omega⟩
    · simp only [CasS.step] at ho ⊢
      split at ho
      · cases ho
      · rename_i e; rw [if_neg e]; exact ⟨by omega, fun h => by omega⟩
    · simp only [CasS.step] at ho ⊢
      cases e : M.swaps obj x with
      | true => simp only [if_true]; exact ⟨by omega, fun _ => by omega⟩
      | false => simp only [Bool.false_eq_true, if_false]; exact ⟨by omega, fun h => by omega⟩
    · simp only [CasS.step] at ho ⊢
      by_cases e : (ini.step M th).1.at_ = 3
      · rw [if_pos e] at ho; cases ho
      · rw [if_neg e]; exact ⟨by omega, fun _ => ini_lt ini M th (h2 (.inr (.inl rfl))) e⟩
    · simp only [CasS.step] at ho ⊢
      exact ⟨by omega, fun _ => by omega⟩
    · simp only [CasS.step] at ho ⊢
      by_cases e : (ini.step M th).1.at_ = 3
      · rw [if_pos e] at ho; cases ho
      · rw [if_neg e]; exact ⟨by omega, fun _ => ini_lt ini M th (h2 (.inr (.inr rfl))) e⟩
end Go.Proofs.YtipbbnoepphdkaaGreat

set_option linter.unusedVariables false
set_option linter.unusedSimpArgs false
namespace Go.Proofs.YtipbbnoepphdkaaGreat
open Go Go.CM
attribute [local irreducible] AsBool AsWant AsNat AsInt AsCnt AsPtr AsSlc AsLen AsStr AsAgg AsTup AsFn AsIfc Nth Sc NotNil IsNil Must Cd codeW funW Sat SatL wrapN subM mkRow ltZ leZ ltN leN
variable {con : CallT}

/-- How far all are: what has begun is as it may be, what has not is fresh. -/
def Good (calls : List (List CallS)) (g : G) : Prop :=
  g.ths.length = calls.length ∧ g.st.length = calls.length ∧ ∀ (i : Nat) (cs : List CallS) (a : Nat) (o : Bool) (ss : List PrS), calls[i]? = some cs → g.ths[i]? = some (a, o) → g.st[i]? = some ss →
    ss.length = cs.length ∧ ∀ (k : Nat) (c : CallS), cs[k]? = some c → (a < k ∨ k = a ∧ o = false → ss[k]? = some c.fresh) ∧ (k = a → ∃ s, ss[k]? = some s ∧ s.Ok)
def Short (calls : List (List CallS)) : Prop := ∀ cs ∈ calls, cs.length ≤ 4096 ∧ ∀ c ∈ cs, c.st.length ≤ 1000000000
def g0 (M : Mem) (calls : List (List CallS)) : G := { M := M, ths := List.replicate calls.length (0, false), st := calls.map fun cs => cs.map CallS.fresh }

theorem good0 (M : Mem) {calls : List (List CallS)} (hs : Short calls) : Good calls (g0 M calls) := by
  refine ⟨by simp [g0], by simp [g0], fun i cs a o ss h1 h2 h3 => ?_⟩
  simp only [g0, List.getElem?_replicate] at h2
  split at h2
  · cases h2
    simp only [g0, List.getElem?_map, h1, Option.map_some, Option.some.injEq] at h3
    subst h3
    refine ⟨by simp, fun k c hk => ⟨fun _ => by rw [List.getElem?_map, hk]; rfl, fun _ => ⟨c.fresh, by rw [List.getElem?_map, hk]; rfl, c.freshOk ?_⟩⟩⟩
    exact (hs cs (List.mem_of_getElem? h1)).2 c (List.mem_of_getElem? hk)
  · cases h2

theorem good_pick {calls : List (List CallS)} {g : G} (hs : Short calls) (h : Good calls g) (t : Int) : Good calls (g.pick t) := by
  unfold G.pick
  split
  · exact h
  · rename_i i
    split
    · rename_i a o' ss e1 e2
      split
      · rename_i s e3
        obtain ⟨l1, l2, l3⟩ := h
        refine ⟨by simp [l1], by simp [l2], fun j cs a' o'' ss' h1 h2 h3 => ?_⟩
        simp only at h2 h3
        by_cases hj : i = j
        · subst hj
          have hi1 : i < g.ths.length := (List.getElem?_eq_some_iff.1 e1).1
          have hi2 : i < g.st.length := (List.getElem?_eq_some_iff.1 e2).1
          rw [List.getElem?_set_self hi1] at h2
          rw [List.getElem?_set_self hi2] at h3
          cases h3
          obtain ⟨g1, g2⟩ := l3 i cs a o' ss h1 e1 e2
          have hal : a < ss.length := (List.getElem?_eq_some_iff.1 e3).1
          refine ⟨by rw [List.length_set]; exact g1, fun k c hk => ?_⟩
          obtain ⟨f1, f2⟩ := g2 k c hk
          obtain ⟨s0, hs0, hok⟩ : ∃ s, ss[a]? = some s ∧ s.Ok := (g2 a (cs[a]'(by omega)) (List.getElem?_eq_getElem (by omega))).2 rfl
          rw [e3] at hs0
          cases hs0
          cases hov : (s.step g.M (Int.ofNat i)).1.over with
          | true =>
            rw [hov] at h2
            simp only [if_true, Option.some.injEq, Prod.mk.injEq] at h2
            obtain ⟨rfl, rfl⟩ := h2
            refine ⟨fun hh => ?_, fun hh => ?_⟩
            · rw [List.getElem?_set_ne (by omega)]
              exact f1 (by omega)
            · rw [List.getElem?_set_ne (by omega)]
              exact ⟨c.fresh, f1 (by omega), c.freshOk ((hs cs (List.mem_of_getElem? h1)).2 c (List.mem_of_getElem? hk))⟩
          | false =>
            rw [hov] at h2
            simp only [Bool.false_eq_true, if_false, Option.some.injEq, Prod.mk.injEq] at h2
            obtain ⟨rfl, rfl⟩ := h2
            refine ⟨fun hh => ?_, fun hh => ?_⟩
            · rcases hh with hh | ⟨_, hh⟩
              · rw [List.getElem?_set_ne (by omega)]
                exact f1 (.inl hh)
              · cases hh
            · subst hh
              rw [List.getElem?_set_self hal]
              exact ⟨_, rfl, step_ok s _ _ hok hov⟩
        · rw [List.getElem?_set_ne hj] at h2 h3
          exact l3 j cs a' o'' ss' h1 h2 h3
      · exact h
    · exact h

theorem pick_tr (g : G) (t : Int) : g.M.tr.length ≤ (g.pick t).M.tr.length ∧ (g.pick t).M.tr.length ≤ g.M.tr.length + 1 := by
  unfold G.pick
  split
  · exact ⟨Nat.le_refl _, Nat.le_succ _⟩
  · split
    · split
      · simp only [step_tr]; omega
      · exact ⟨Nat.le_refl _, Nat.le_succ _⟩
    · exact ⟨Nat.le_refl _, Nat.le_succ _⟩
theorem pick_calm {g : G} (h : CalmV g.M) (t : Int) : CalmV (g.pick t).M := by
  unfold G.pick
  split
  · exact h
  · split
    · split
      · exact h.step
      · exact h
    · exact h

def objsL (prs : List (List Value)) (st : List (List PrS)) : List HP := List.zipWith (fun l ss => SatL (List.zipWith PrcAt l ss)) prs st
theorem objs_get {prs : List (List Value)} {st : List (List PrS)} {i : Nat} {l : List Value} {ss : List PrS} (h1 : prs[i]? = some l) (h2 : st[i]? = some ss) : (objsL prs st)[i]? = some (SatL (List.zipWith PrcAt l ss)) := by
  unfold objsL; rw [List.getElem?_zipWith, h1, h2]
theorem zip_set {α β γ : Type} (f : α → β → γ) {l : List α} {m : List β} {i : Nat} {x : α} {y : β} (h : l[i]? = some x) : (List.zipWith f l m).set i (f x y) = List.zipWith f l (m.set i y) := by
  apply List.ext_getElem?
  intro j
  rw [List.getElem?_set, List.getElem?_zipWith, List.getElem?_zipWith, List.getElem?_set, List.length_zipWith]
  by_cases hj : i = j
  · subst hj
    rw [h]
    have := (List.getElem?_eq_some_iff.1 h).1
    simp only [if_true]
    by_cases hl : i < m.length
    · rw [if_pos hl, if_pos (by omega)]
    · rw [if_neg hl, if_neg (by omega)]
  · simp only [hj, if_false]

/-- The Runner takes the step that is picked. -/
theorem run_pick (hc : Con con lives) {calls : List (List CallS)} (hsh : Short calls) {g : G} (hg : Good calls g) {L R : List HP} {H : CH} {r m n T : Nat} {t : Int} {tv : Value} {pv : List Value} {prs : List (List Value)} {q0 : List Nat} {qs : List (Nat × Nat)} {K : KP}
    (hs : Sat (RunAt r m tv pv prs g.ths (vwsOf q0) n T :: MemP m g.M :: SatL (viewsL m 0 qs) :: SatL (objsL prs g.st) :: R) H)
    (hq : qs.map Prod.fst = q0) (hql : q0.length = calls.length) (hpl : prs.map List.length = calls.map List.length) (hn : n < 100000000) (hqn : ∀ x ∈ qs, x.2 ≤ n) (hT : T ≤ g.M.tr.length) (htr : g.M.tr.length ≤ n + 10)
    (k : ∀ b H1 T' qs', qs'.map Prod.fst = q0 → (∀ x ∈ qs', x.2 ≤ n + 1) → T' ≤ (g.pick t).M.tr.length → Sat (RunAt r m tv pv prs (g.pick t).ths (vwsOf q0) (n + 1) T' :: MemP m (g.pick t).M :: SatL (viewsL m 0 qs') :: SatL (objsL prs (g.pick t).st) :: R) H1 → K (.bool b) H1) :
    Call1 Tryz.prog con 59 [ptr r 0, i64 t] H K := by
  obtain ⟨l1, l2, l3⟩ := hg
  have hpr : prs.length = calls.length := by have := congrArg List.length hpl; simpa using this
  have same : ∀ {b : Bool}, idleB prs g.ths t = true → g.pick t = g → Call1 Tryz.prog con 59 [ptr r 0, i64 t] H K := fun {b} hid hp => by
    rw [hp] at k
    exact stepPick_idle hc hs (by repeat (first | exact Pull.here | apply Pull.there)) hid (by omega) fun H1 h1 => k _ _ T qs hq (fun x hx => Nat.le_succ_of_le (hqn x hx)) hT (h1.ent (by repeat (first | exact Ent.refl _ | exact Ent.none | apply Ent.cons (by repeat (first | exact Pull.here | apply Pull.there)) | refine Ent.drop ?_)))
  cases t with
  | negSucc z => exact same (b := true) rfl rfl
  | ofNat i =>
    by_cases hi : i < calls.length
    · obtain ⟨cs, ec⟩ : ∃ x, calls[i]? = some x := ⟨_, List.getElem?_eq_getElem hi⟩
      obtain ⟨⟨a, o⟩, e1⟩ : ∃ x, g.ths[i]? = some x := ⟨_, List.getElem?_eq_getElem (by omega)⟩
      obtain ⟨ss, e2⟩ : ∃ x, g.st[i]? = some x := ⟨_, List.getElem?_eq_getElem (by omega)⟩
      obtain ⟨l, e3⟩ : ∃ x, prs[i]? = some x := ⟨_, List.getElem?_eq_getElem (by omega)⟩
      obtain ⟨⟨q, nq⟩, e5⟩ : ∃ x, qs[i]? = some x := ⟨_, List.getElem?_eq_getElem (by rw [← List.length_map (f := Prod.fst), hq]; omega)⟩
      have ell : l.length = cs.length := by
        have h1 : (prs.map List.length)[i]? = (calls.map List.length)[i]? := by rw [hpl]
        rw [List.getElem?_map, List.getElem?_map, e3, ec] at h1
        simpa using h1
      obtain ⟨f1, f2⟩ := l3 i cs a o ss ec e1 e2
      have eq0 : q0[i]? = some q := by rw [← hq, List.getElem?_map, e5]; rfl
      by_cases ha : a < cs.length
      · obtain ⟨s, es, hok⟩ := (f2 a cs[a] (List.getElem?_eq_getElem ha)).2 rfl
        obtain ⟨v, ev⟩ : ∃ x, l[a]? = some x := ⟨_, List.getElem?_eq_getElem (by omega)⟩
        have hp : g.pick (.ofNat i) = { M := (s.step g.M (Int.ofNat i)).2, ths := g.ths.set i (if (s.step g.M (Int.ofNat i)).1.over then (a + 1, false) else (a, true)), st := g.st.set i (ss.set a (s.step g.M (Int.ofNat i)).1) } := by
          simp only [G.pick, e1, e2, es]
        rw [hp] at k
        have hov : (objsL prs g.st)[i]? = some (SatL (List.zipWith PrcAt l ss)) := objs_get e3 e2
        have hzv : (List.zipWith PrcAt l ss)[a]? = some (PrcAt v s) := by rw [List.getElem?_zipWith, ev, es]
        have hifc : IfcOk v := (hs.has (Has.all (Has.all (l := objsL prs g.st) (Has.skip (Has.skip (Has.skip Has.sat))) hov fun a t => SatL.mono t a) hzv fun {g h} a t => prc_mono a t)).ifc
        refine stepPick_ok (R' := SatL (viewsL m 0 (qs.set i (q, nq + 1))) :: SatL (objsL prs (g.st.set i (ss.set a (s.step g.M (Int.ofNat i)).1))) :: R) (b := (s.step g.M (Int.ofNat i)).1.over) (M' := (s.step g.M (Int.ofNat i)).2) hc hs (by repeat (first | exact Pull.here | apply Pull.there)) (by repeat (first | exact Pull.here | apply Pull.there)) e1 e3 ev (vwsOf_get eq0) (by obtain ⟨t, p, rfl, _⟩ := hifc; exact ⟨_, _, rfl⟩) hT (by rw [step_tr]; omega) (by rw [step_tr]; omega) (by omega) (by have := (hsh cs (List.mem_of_getElem? ec)).1; omega) (fun Q q => hifc.meth Q q) ?_ (fun H1 h1 => ?_)
        · intro F H1 K' hF k'
          have h1 : Sat (SatL (viewsL m 0 qs) :: F :: MemP m g.M :: SatL (objsL prs g.st) :: R) H1 := hF.ent (by repeat (first | exact Ent.refl _ | exact Ent.none | apply Ent.cons (by repeat (first | exact Pull.here | apply Pull.there)) | refine Ent.drop ?_))
          have h2 := h1.pull (pull_all Pull.here (viewsL_get (m := m) (i0 := 0) e5))
          rw [Nat.zero_add] at h2
          have h3 : Sat (SatL (objsL prs g.st) :: ViewAt q m (Int.ofNat i) nq :: SatL ((viewsL m 0 qs).set i Emp) :: F :: MemP m g.M :: R) H1 := h2.ent (by repeat (first | exact Ent.refl _ | exact Ent.none | apply Ent.cons (by repeat (first | exact Pull.here | apply Pull.there)) | refine Ent.drop ?_))
          have h4 := h3.pull (pull_all Pull.here hov)
          have h5 := h4.pull (pull_all Pull.here hzv)
          refine prcStep_ok hc s h5 (by repeat (first | exact Pull.here | apply Pull.there)) (by repeat (first | exact Pull.here | apply Pull.there)) (by repeat (first | exact Pull.here | apply Pull.there)) (by have := hqn _ (List.mem_of_getElem? e5); simp only at this; omega) (by omega) hok fun H6 h6 => k' _ ?_
          have h7 : Sat (PrcAt v (s.step g.M (Int.ofNat i)).1 :: SatL ((List.zipWith PrcAt l ss).set a Emp) :: SatL ((objsL prs g.st).set i Emp) :: ViewAt q m (Int.ofNat i) (nq + 1) :: SatL ((viewsL m 0 qs).set i Emp) :: F :: MemP m (s.step g.M (Int.ofNat i)).2 :: R) H6 := h6.ent (by repeat (first | exact Ent.refl _ | exact Ent.none | apply Ent.cons (by repeat (first | exact Pull.here | apply Pull.there)) | refine Ent.drop ?_))
          have h8 := h7.putAll ((List.getElem?_eq_some_iff.1 hzv).1)
          rw [zip_set PrcAt ev] at h8
          have h9 := h8.putAll ((List.getElem?_eq_some_iff.1 hov).1)
          have e9 : (objsL prs g.st).set i (SatL (List.zipWith PrcAt l (ss.set a (s.step g.M (Int.ofNat i)).1))) = objsL prs (g.st.set i (ss.set a (s.step g.M (Int.ofNat i)).1)) := zip_set (fun l ss => SatL (List.zipWith PrcAt l ss)) e3
          rw [e9] at h9
          have h10 : Sat (ViewAt q m (Int.ofNat i) (nq + 1) :: SatL ((viewsL m 0 qs).set i Emp) :: F :: MemP m (s.step g.M (Int.ofNat i)).2 :: SatL (objsL prs (g.st.set i (ss.set a (s.step g.M (Int.ofNat i)).1))) :: R) H6 := h9.ent (by repeat (first | exact Ent.refl _ | exact Ent.none | apply Ent.cons (by repeat (first | exact Pull.here | apply Pull.there)) | refine Ent.drop ?_))
          have h11 := h10.putAll (by rw [viewsL_len]; exact (List.getElem?_eq_some_iff.1 e5).1)
          have e11 := viewsL_set (m := m) (i0 := 0) (j := i) (qs := qs) (q := q) (n := nq + 1)
          rw [Nat.zero_add] at e11
          rw [e11] at h11
          exact h11.ent (by repeat (first | exact Ent.refl _ | exact Ent.none | apply Ent.cons (by repeat (first | exact Pull.here | apply Pull.there)) | refine Ent.drop ?_))
        · refine k _ _ _ (qs.set i (q, nq + 1)) ?_ ?_ (Nat.le_refl _) h1
          · rw [List.map_set, hq]
            exact set_get_self eq0
          · intro x hx
            rcases List.mem_or_eq_of_mem_set hx with h | rfl
            · exact Nat.le_succ_of_le (hqn x h)
            · have := hqn _ (List.mem_of_getElem? e5)
              simp only at this ⊢
              omega
      · refine same (b := true) ?_ ?_
        · simp only [idleB, e1, e3]; exact decide_eq_true (by omega)
        · simp only [G.pick, e1, e2, List.getElem?_eq_none (show ss.length ≤ a by omega)]
    · refine same (b := true) ?_ ?_
      · simp only [idleB, List.getElem?_eq_none (show g.ths.length ≤ i by omega)]
      · simp only [G.pick, List.getElem?_eq_none (show g.ths.length ≤ i by omega)]
end Go.Proofs.YtipbbnoepphdkaaGreat

set_option linter.unusedVariables false
set_option linter.unusedSimpArgs false
namespace Go.Proofs.YtipbbnoepphdkaaGreat
open Go Go.CM
attribute [local irreducible] AsBool AsWant AsNat AsInt AsCnt AsPtr AsSlc AsLen AsStr AsAgg AsTup AsFn AsIfc Nth Sc NotNil IsNil Must Cd codeW funW Sat SatL wrapN subM mkRow ltZ leZ ltN leN
variable {con : CallT}

theorem eqZN (a b : Nat) : eqZ (Int.ofNat a) (Int.ofNat b) = eqN a b := by
  by_cases h : a = b
  · rw [eqZ_t h, eqN_t h]
  · rw [eqZ_f h, eqN_f h]
/-- What the document's proc is under way with. -/
def PcIs (x : PC) (s : PrS) : Prop :=
  match s with
  | .cas s => x.k = 1 ∧ x.ca = s
  | .take s => x.k = 3 ∧ x.tk = s ∧ s.cam = x.cam ∧ s.most = x.a
  | .past s => x.k = 2 ∧ x.pa = s
  | .cut _ => False

def pc0 (k obj a b cam : Nat) : PC := ⟨k, obj, a, b, cam, ⟨cam, obj, a, b, 0, 0, 0, ⟨0, 0, 0, 0⟩⟩, false, 0, ⟨cam, obj, a, 0, 0, ⟨0, 0, 0, 0⟩⟩, 0, ⟨cam, a, 0, 0⟩, u64 0, .bool false, iN 0⟩

theorem ref9Begin_ok (hc : Con con lives) {L : List HP} {H : CH} {k obj a b cam : Nat} {K : KP} (hs : Sat L H) (kk : ∀ p H1, Sat (Own p (pc0 k obj a b cam).cells :: L) H1 → K (ptr p 0) H1) :
    Call1 Tryz.prog con 60 [.agg ⟨[i64 (Int.ofNat k), u64 obj, u64 a, u64 b]⟩, u64 cam] H K := by
  refine call_of (hc _ _ _ rfl) ?_
  rw [ref9Begin_W]
  repeat (first | refine run ?_ | refine Cd.t rfl ?_ | refine Cd.f rfl ?_ | refine Cd.t (by decide +kernel) ?_ | refine Cd.f (by decide +kernel) ?_ | refine Sc.mk rfl ?_ | refine ld (by assumption) rfl ?_ | refine nw (by assumption) fun _ _ _ => ?_ | refine stB (by assumption) rfl rfl fun _ _ => ?_)
  exact kk _ _ (Sat.ent (by assumption) (by repeat (first | exact Ent.refl _ | exact Ent.none | apply Ent.cons (by repeat (first | exact Pull.here | apply Pull.there)) | refine Ent.drop ?_)))

theorem ref9Proc_ok (hc : Con con lives) (x : PC) (s : PrS) (hx : PcIs x s) {L R1 R2 : List HP} {H : CH} {p m : Nat} {th : Int} {M : Mem} {K : KP} (hs : Sat L H) (hm : Pull L (RefP m M) R1) (hp : Pull R1 (Own p x.cells) R2)
    (ht : M.tr.length < 1000000000) (hok : s.Ok)
    (kt : (s.step M th).1.over = true → ∀ H1, Sat (RefP m (s.step M th).2 :: R2) H1 → K (.bool true) H1)
    (kf : (s.step M th).1.over = false → ∀ x' H1, PcIs x' (s.step M th).1 → Sat (Own p x'.cells :: RefP m (s.step M th).2 :: R2) H1 → K (.bool false) H1) :
    Call1 Tryz.prog con 62 [ptr p 0, ptr m 0, i64 th] H K := by
  refine call_of (hc _ _ _ rfl) ?_
  rw [ref9Proc_W]
  have hs0 := hs.takes (.cons hm (.cons hp .nil))
  simp only [List.cons_append, List.nil_append] at hs0
  cases s with
  | cut s => exact hx.elim
  | cas s =>
    obtain ⟨xk, xobj, xa, xb, xcam, ca, dn, er, pa, pv, tk, w0, w1, w2⟩ := x
    obtain ⟨e1, e2⟩ := hx
    simp only at e1 e2
    subst e1; subst e2
    repeat (first | refine run ?_ | refine Cd.t rfl ?_ | refine Cd.f rfl ?_ | refine Cd.t (by decide +kernel) ?_ | refine Cd.f (by decide +kernel) ?_ | refine Sc.mk rfl ?_ | refine ld (by assumption) rfl ?_ | refine nw (by assumption) fun _ _ _ => ?_ | refine stB (by assumption) rfl rfl fun _ _ => ?_)
    refine ref9Cas_ok hc (⟨1, xobj, xa, xb, xcam, ca, dn, er, pa, pv, tk, w0, w1, w2⟩ : PC) hs0 (by repeat (first | exact Pull.here | apply Pull.there)) (by repeat (first | exact Pull.here | apply Pull.there)) ht hok.1 hok.2 fun dn' er' H1 h1 => ?_
    have hov : (PrS.step (.cas ca) M th).1.over = eqN (ca.step M th).1.at_ 8 := rfl
    rw [eqZN, ← hov]
    clear hov
    generalize (PrS.step (.cas ca) M th).1.over = b at *
    repeat (first | refine run ?_ | refine Cd.t rfl ?_ | refine Cd.f rfl ?_ | refine Cd.t (by decide +kernel) ?_ | refine Cd.f (by decide +kernel) ?_ | refine Sc.mk rfl ?_ | refine ld (by assumption) rfl ?_ | refine nw (by assumption) fun _ _ _ => ?_ | refine stB (by assumption) rfl rfl fun _ _ => ?_)
    cases b with
    | true => exact kt rfl _ (Sat.ent (by assumption) (by repeat (first | exact Ent.refl _ | exact Ent.none | apply Ent.cons (by repeat (first | exact Pull.here | apply Pull.there)) | refine Ent.drop ?_)))
    | false =>
      exact kf rfl (⟨1, xobj, xa, xb, xcam, (ca.step M th).1, dn', er', pa, pv, tk, w0, .bool dn', iN er'⟩ : PC) _ ⟨rfl, rfl⟩ (Sat.ent (by assumption) (by repeat (first | exact Ent.refl _ | exact Ent.none | apply Ent.cons (by repeat (first | exact Pull.here | apply Pull.there)) | refine Ent.drop ?_)))
  | past s =>
    obtain ⟨xk, xobj, xa, xb, xcam, ca, dn, er, pa, pv, tk, w0, w1, w2⟩ := x
    obtain ⟨e1, e2⟩ := hx
    simp only at e1 e2
    subst e1; subst e2
    repeat (first | refine run ?_ | refine Cd.t rfl ?_ | refine Cd.f rfl ?_ | refine Cd.t (by decide +kernel) ?_ | refine Cd.f (by decide +kernel) ?_ | refine Sc.mk rfl ?_ | refine ld (by assumption) rfl ?_ | refine nw (by assumption) fun _ _ _ => ?_ | refine stB (by assumption) rfl rfl fun _ _ => ?_)
    refine ref9Past_ok hc (⟨2, xobj, xa, xb, xcam, ca, dn, er, pa, pv, tk, w0, w1, w2⟩ : PC) hs0 (by repeat (first | exact Pull.here | apply Pull.there)) (by repeat (first | exact Pull.here | apply Pull.there)) ht hok.1 hok.2 fun pv' H1 h1 => ?_
    have hov : (PrS.step (.past pa) M th).1.over = eqN (pa.step M th).1.at_ 5 := rfl
    rw [eqZN, ← hov]
    clear hov
    generalize (PrS.step (.past pa) M th).1.over = b at *
    repeat (first | refine run ?_ | refine Cd.t rfl ?_ | refine Cd.f rfl ?_ | refine Cd.t (by decide +kernel) ?_ | refine Cd.f (by decide +kernel) ?_ | refine Sc.mk rfl ?_ | refine ld (by assumption) rfl ?_ | refine nw (by assumption) fun _ _ _ => ?_ | refine stB (by assumption) rfl rfl fun _ _ => ?_)
    cases b with
    | true => exact kt rfl _ (Sat.ent (by assumption) (by repeat (first | exact Ent.refl _ | exact Ent.none | apply Ent.cons (by repeat (first | exact Pull.here | apply Pull.there)) | refine Ent.drop ?_)))
    | false =>
      exact kf rfl (⟨2, xobj, xa, xb, xcam, ca, dn, er, (pa.step M th).1, pv', tk, u64 pv', w1, w2⟩ : PC) _ ⟨rfl, rfl⟩ (Sat.ent (by assumption) (by repeat (first | exact Ent.refl _ | exact Ent.none | apply Ent.cons (by repeat (first | exact Pull.here | apply Pull.there)) | refine Ent.drop ?_)))
  | take s =>
    obtain ⟨xk, xobj, xa, xb, xcam, ca, dn, er, pa, pv, tk, w0, w1, w2⟩ := x
    obtain ⟨e1, e2, e3, e4⟩ := hx
    simp only at e1 e2 e3 e4
    subst e1; subst e2; subst e3; subst e4
    repeat (first | refine run ?_ | refine Cd.t rfl ?_ | refine Cd.f rfl ?_ | refine Cd.t (by decide +kernel) ?_ | refine Cd.f (by decide +kernel) ?_ | refine Sc.mk rfl ?_ | refine ld (by assumption) rfl ?_ | refine nw (by assumption) fun _ _ _ => ?_ | refine stB (by assumption) rfl rfl fun _ _ => ?_)
    refine ref9Picture_ok hc (⟨3, xobj, tk.most, xb, tk.cam, ca, dn, er, pa, pv, tk, w0, w1, w2⟩ : PC) hs0 (by repeat (first | exact Pull.here | apply Pull.there)) (by repeat (first | exact Pull.here | apply Pull.there)) ht hok rfl fun at' w0' w1' w2' H1 hat h1 => ?_
    have hov : (PrS.step (.take tk) M th).1.over = eqN (tk.step M th).1.at_ 2 := rfl
    rw [← hov]
    have ha3 : (PrS.step (.take tk) M th).1.over = false → at' = (tk.step M th).1.at_ := fun ho => hat (step_ok (.take tk) M th hok ho)
    clear hat hov
    generalize (PrS.step (.take tk) M th).1.over = b at *
    repeat (first | refine run ?_ | refine Cd.t rfl ?_ | refine Cd.f rfl ?_ | refine Cd.t (by decide +kernel) ?_ | refine Cd.f (by decide +kernel) ?_ | refine Sc.mk rfl ?_ | refine ld (by assumption) rfl ?_ | refine nw (by assumption) fun _ _ _ => ?_ | refine stB (by assumption) rfl rfl fun _ _ => ?_)
    cases b with
    | true => exact kt rfl _ (Sat.ent (by assumption) (by repeat (first | exact Ent.refl _ | exact Ent.none | apply Ent.cons (by repeat (first | exact Pull.here | apply Pull.there)) | refine Ent.drop ?_)))
    | false =>
      have h4 := ha3 rfl
      subst h4
      refine kf rfl (⟨3, xobj, tk.most, xb, tk.cam, ca, dn, er, pa, pv, (tk.step M th).1, w0', w1', w2'⟩ : PC) _ ⟨rfl, rfl, ?_, ?_⟩ (Sat.ent (by assumption) (by repeat (first | exact Ent.refl _ | exact Ent.none | apply Ent.cons (by repeat (first | exact Pull.here | apply Pull.there)) | refine Ent.drop ?_)))
      · show (tk.step M th).1.cam = tk.cam
        unfold TakeS.step; split <;> rfl
      · show (tk.step M th).1.most = tk.most
        unfold TakeS.step; split <;> rfl
end Go.Proofs.YtipbbnoepphdkaaGreat

set_option linter.unusedVariables false
set_option linter.unusedSimpArgs false
namespace Go.Proofs.YtipbbnoepphdkaaGreat
open Go Go.CM
attribute [local irreducible] AsBool AsWant AsNat AsInt AsCnt AsPtr AsSlc AsLen AsStr AsAgg AsTup AsFn AsIfc Nth Sc NotNil IsNil Must Cd codeW funW Sat SatL wrapN subM mkRow ltZ leZ ltN leN
variable {con : CallT}

abbrev nilp : Value := .pointer none
def CallPE (c : CallS) (cs : List Value) : HP := fun h => ∃ xv, cs = [i64 c.kind, u64 c.obj, u64 c.a, u64 c.b, u64 c.fl, xv] ∧ NumsR xv c.st h
def CallsR : Value → List CallS → HP := RowsR 6 CallPE
def ThrPE (l : List CallS) (cs : List Value) : HP := fun h => ∃ xv, cs = [xv] ∧ CallsR xv l h
def ThrR : Value → List (List CallS) → HP := RowsR 1 ThrPE
theorem CallsR.mono {v : Value} {l : List CallS} {g h : PH} (a : CallsR v l g) (t : Subh g h) : CallsR v l h := RowsR.mono (fun ⟨x, e, a⟩ t => ⟨x, e, a.mono t⟩) a t
theorem ThrR.mono {v : Value} {l : List (List CallS)} {g h : PH} (a : ThrR v l g) (t : Subh g h) : ThrR v l h := RowsR.mono (fun ⟨x, e, a⟩ t => ⟨x, e, CallsR.mono a t⟩) a t

/-- What the document's thread is under way with. -/
def RefTh (vc vr : Value) (c : Option PrS) : HP := fun h =>
  match c with
  | none => vc = nilp ∧ vr = nilp
  | some (.cut s) => ∃ p nx xb, vc = ptr p 0 ∧ vr = nilp ∧ NxOk s nx ∧ SatL [Own p (rcutC s nx xb), NumsR xb s.st] h
  | some s => ∃ p x, vc = nilp ∧ vr = ptr p 0 ∧ PcIs x s ∧ Own p x.cells h
def refsL (vcs vrs : List Value) (cu : List (Option PrS)) : List HP := List.zipWith (fun x c => RefTh x.1 x.2 c) (List.zipWith (fun a b => (a, b)) vcs vrs) cu
theorem refs_get {vcs vrs : List Value} {cu : List (Option PrS)} {i : Nat} {x y : Value} {c : Option PrS} (h1 : vcs[i]? = some x) (h2 : vrs[i]? = some y) (h3 : cu[i]? = some c) : (refsL vcs vrs cu)[i]? = some (RefTh x y c) := by
  unfold refsL
  rw [List.getElem?_zipWith, h3, List.getElem?_zipWith, h1, h2]
theorem refs_set {vcs vrs : List Value} {cu : List (Option PrS)} {i : Nat} {x y : Value} {c : Option PrS} (h1 : i < vcs.length) (h2 : i < vrs.length) (h3 : i < cu.length) : (refsL vcs vrs cu).set i (RefTh x y c) = refsL (vcs.set i x) (vrs.set i y) (cu.set i c) := by
  unfold refsL
  apply List.ext_getElem?
  intro j
  rw [List.getElem?_set, List.getElem?_zipWith, List.getElem?_zipWith, List.getElem?_zipWith, List.getElem?_zipWith, List.getElem?_set, List.getElem?_set, List.getElem?_set, List.length_zipWith, List.length_zipWith]
  by_cases hj : i = j
  · subst hj
    simp only [if_true, if_pos h1, if_pos h2, if_pos h3]
    rw [if_pos (by omega)]
  · simp only [hj, if_false]

def CuOk (g : G) (cu : List (Option PrS)) : Prop := cu.length = g.ths.length ∧ ∀ (i a : Nat) (o : Bool) (ss : List PrS), g.ths[i]? = some (a, o) → g.st[i]? = some ss → cu[i]? = some (if o then ss[a]? else none)
def gAt (g : G) (picks : List Int) (j : Nat) : G := (picks.take j).foldl G.pick g
theorem gAt_succ {g : G} {picks : List Int} {j : Nat} {t : Int} (h : picks[j]? = some t) : gAt g picks (j + 1) = (gAt g picks j).pick t := by
  unfold gAt
  rw [List.take_add_one, h, List.foldl_append]; rfl
theorem gAt_good {calls : List (List CallS)} (hs : Short calls) {g : G} (h : Good calls g) (picks : List Int) (j : Nat) : Good calls (gAt g picks j) := by
  unfold gAt
  generalize picks.take j = l
  induction l generalizing g with
  | nil => exact h
  | cons t l ih => exact ih (good_pick hs h t)
theorem gAt_calm {g : G} (h : CalmV g.M) (picks : List Int) (j : Nat) : CalmV (gAt g picks j).M := by
  unfold gAt
  generalize picks.take j = l
  induction l generalizing g with
  | nil => exact h
  | cons t l ih => exact ih (pick_calm h t)
theorem gAt_tr {g : G} (picks : List Int) : ∀ (j : Nat), (gAt g picks j).M.tr.length ≤ g.M.tr.length + j
  | 0 => Nat.le_refl _
  | j + 1 => by
    cases h : picks[j]? with
    | none =>
      have := gAt_tr (g := g) picks j
      unfold gAt at this ⊢
      rw [List.take_add_one, h]
      simp
      omega
    | some t =>
      rw [gAt_succ h]
      have h1 := gAt_tr (g := g) picks j
      have h2 := (pick_tr (gAt g picks j) t).2
      omega

/-! ### the Runner's run -/
theorem stepRun_ok (hc : Con con lives) {calls : List (List CallS)} (hsh : Short calls) {g : G} (hg : Good calls g) {L R : List HP} {H : CH} {r m : Nat} {xw tv : Value} {pv : List Value} {prs : List (List Value)} {q0 : List Nat} {qs : List (Nat × Nat)} {picks : List Int} {K : KP}
    (hs : Sat (RunAt r m tv pv prs g.ths (vwsOf q0) 0 0 :: MemP m g.M :: SatL (viewsL m 0 qs) :: SatL (objsL prs g.st) :: IntsR xw picks :: R) H)
    (hq : qs.map Prod.fst = q0) (hql : q0.length = calls.length) (hpl : prs.map List.length = calls.map List.length) (hqn : ∀ x ∈ qs, x.2 ≤ 0) (htr : g.M.tr.length ≤ 10) (hpk : picks.length < 100000000)
    (k : ∀ H1, Sat (MemP m (gAt g picks picks.length).M :: IntsR xw picks :: R) H1 → K unit H1) : Call1 Tryz.prog con 16 [ptr r 0, xw] H K := by
  refine call_of (hc _ _ _ rfl) ?_
  rw [stepRun_W]
  obtain ⟨px, cx, ex⟩ := (hs.has (Has.skip (Has.skip (Has.skip (Has.skip (Has.here fun a t => IntsR.mono a t)))))).len
  subst ex
  repeat (first | refine run ?_ | refine Cd.t rfl ?_ | refine Cd.f rfl ?_ | refine Cd.t (by decide +kernel) ?_ | refine Cd.f (by decide +kernel) ?_ | refine Sc.mk rfl ?_ | refine ld (by assumption) rfl ?_ | refine nw (by assumption) fun _ _ _ => ?_ | refine stB (by assumption) rfl rfl fun _ _ => ?_)
  refine LoopC.indP (n := 100) (id := 0) (fun σ H => Sat (MemP m (gAt g picks picks.length).M :: IntsR (.slice px picks.length cx) picks :: R) H) (by kernel_rfl)
    (fun (j : Nat) σ H => σ 0 = ptr r 0 ∧ σ 6 = .slice px picks.length cx ∧ σ 7 = iN picks.length ∧ σ 8 = iN j ∧ j ≤ picks.length ∧ ∃ T qs, qs.map Prod.fst = q0 ∧ (∀ x ∈ qs, x.2 ≤ j) ∧ T ≤ (gAt g picks j).M.tr.length ∧
      Sat (RunAt r m tv pv prs (gAt g picks j).ths (vwsOf q0) j T :: MemP m (gAt g picks j).M :: SatL (viewsL m 0 qs) :: SatL (objsL prs (gAt g picks j).st) :: IntsR (.slice px picks.length cx) picks :: R) H) (fun j => picks.length - j) (fun j σ H hI => ?_) (fun σ H hP => ?_) 0 _ _
    ⟨rfl, rfl, rfl, rfl, Nat.zero_le _, 0, qs, hq, hqn, Nat.zero_le _, hs⟩
  · obtain ⟨e0, e6, e7, e8, hj, T, qs, hq, hqn, hT, hs1⟩ := hI
    rw [stepRunL_W]
    simp only [e0, e6, e7, e8]
    repeat (first | refine run ?_ | refine Cd.t rfl ?_ | refine Cd.f rfl ?_ | refine Cd.t (by decide +kernel) ?_ | refine Cd.f (by decide +kernel) ?_ | refine Sc.mk rfl ?_ | refine ld (by assumption) rfl ?_ | refine nw (by assumption) fun _ _ _ => ?_ | refine stB (by assumption) rfl rfl fun _ _ => ?_)
    by_cases hlt : j < picks.length
    · refine Cd.t (ltZ_t hlt) ?_
      obtain ⟨t, et⟩ : ∃ x, picks[j]? = some x := ⟨_, List.getElem?_eq_getElem hlt⟩
      obtain ⟨b, c, cs, eb, _, ecs, hld⟩ := rows_at hs1 (Has.skip (Has.skip (Has.skip (Has.skip (Has.here fun a t => IntsR.mono a t))))) et
      injection eb with eb _ _
      subst eb
      repeat (first | refine run ?_ | refine Cd.t rfl ?_ | refine Cd.f rfl ?_ | refine Cd.t (by decide +kernel) ?_ | refine Cd.f (by decide +kernel) ?_ | refine Sc.mk rfl ?_ | refine ld (by assumption) rfl ?_ | refine nw (by assumption) fun _ _ _ => ?_ | refine stB (by assumption) rfl rfl fun _ _ => ?_)
      refine Must.mk (ltN_t hlt) ?_
      refine hld _ 0 _ _ (by show 0 + j * 1 = _; omega) (by rw [ecs]; rfl) ?_
      refine run_pick (L := []) hc hsh (gAt_good hsh hg picks j) hs1 hq hql hpl (by omega) hqn hT (by have := gAt_tr (g := g) picks j; omega) fun b' H1 T' qs' hq' hqn' hT' h1 => ?_
      rw [← gAt_succ et] at h1 hT'
      repeat (first | refine run ?_ | refine Cd.t rfl ?_ | refine Cd.f rfl ?_ | refine Cd.t (by decide +kernel) ?_ | refine Cd.f (by decide +kernel) ?_ | refine Sc.mk rfl ?_ | refine ld (by assumption) rfl ?_ | refine nw (by assumption) fun _ _ _ => ?_ | refine stB (by assumption) rfl rfl fun _ _ => ?_)
      rw [addInt]
      refine inR_nat (n := j + 1) (by omega) ?_
      show ∃ y, _ ∧ _
      exact ⟨j + 1, by omega, e0, e6, e7, rfl, hlt, T', qs', hq', hqn', hT', h1⟩
    · refine Cd.f (ltZ_f (by omega)) ?_
      show _ = _ ∧ _
      have : j = picks.length := by omega
      subst this
      exact ⟨rfl, hs1.ent (by repeat (first | exact Ent.refl _ | exact Ent.none | apply Ent.cons (by repeat (first | exact Pull.here | apply Pull.there)) | refine Ent.drop ?_))⟩
  · show Cd _ _ _
    refine Cd.t (eqN_self 0) ?_
    exact k _ hP
end Go.Proofs.YtipbbnoepphdkaaGreat

set_option linter.unusedVariables false
set_option linter.unusedSimpArgs false
namespace Go.Proofs.YtipbbnoepphdkaaGreat
open Go Go.CM
attribute [local irreducible] AsBool AsWant AsNat AsInt AsCnt AsPtr AsSlc AsLen AsStr AsAgg AsTup AsFn AsIfc Nth Sc NotNil IsNil Must Cd codeW funW Sat SatL wrapN subM mkRow ltZ leZ ltN leN
variable {con : CallT}

theorem row_get {l : List Value} {i : Nat} {v : Value} (h : l[i]? = some v) : l[Nat.add 0 (Nat.mul i 1)]? = some v := by rw [off1]; exact h

theorem cuOk_set {g : G} {cu : List (Option PrS)} (h : CuOk g cu) {i a' : Nat} {o' : Bool} {ss' : List PrS} {M' : Mem} (h1 : i < g.ths.length) (h2 : i < g.st.length) :
    CuOk { M := M', ths := g.ths.set i (a', o'), st := g.st.set i ss' } (cu.set i (if o' then ss'[a']? else none)) := by
  obtain ⟨c1, c2⟩ := h
  refine ⟨by simp [c1], fun j a o ss e1 e2 => ?_⟩
  simp only at e1 e2
  by_cases hj : i = j
  · subst hj
    rw [List.getElem?_set_self h1] at e1
    rw [List.getElem?_set_self h2] at e2
    cases e1
    cases e2
    rw [List.getElem?_set_self (by omega)]
  · rw [List.getElem?_set_ne hj] at e1 e2 ⊢
    exact c2 j a o ss e1 e2

set_option maxRecDepth 100000 in
/-- A round of the document's play. -/
theorem play_pick (hc : Con con lives) {calls : List (List CallS)} (hsh : Short calls) {g : G} (hg : Good calls g) {cu : List (Option PrS)} (hcu : CuOk g cu) {R : List HP} {H : CH} {m ba bc br kc kr j n : Nat} {xv xw : Value} {t : Int} {picks : List Int} {vcs vrs : List Value} {σ : TF} {Q : KX} 
    (hn : n = calls.length) (hn2 : n ≤ 64) (hvc : vcs.length = n) (hvr : vrs.length = n) (hj : j < picks.length) (hpk : picks.length < 100000000) (et : picks[j]? = some t) (htr : g.M.tr.length < 1000000000)
    (hs : Sat (RefP m g.M :: Row ba 3 0 true (g.ths.map fun t => iN t.1) :: Row bc kc 0 true vcs :: Row br kr 0 true vrs :: SatL (refsL vcs vrs cu) :: ThrR xv calls :: IntsR xw picks :: R) H)
    (e0 : σ 0 = ptr m 0) (e1 : σ 1 = xv) (e2 : σ 2 = xw) (e6 : σ 6 = slc ba 0 n n) (e7 : σ 7 = slc bc 0 n n) (e8 : σ 8 = slc br 0 n n) (e9 : σ 9 = iN j)
    (k : ∀ σ1 H1 cu' vcs' vrs', σ1 0 = ptr m 0 → σ1 1 = xv → σ1 2 = xw → σ1 6 = slc ba 0 n n → σ1 7 = slc bc 0 n n → σ1 8 = slc br 0 n n → σ1 9 = iN (j + 1) → CuOk (g.pick t) cu' → vcs'.length = n → vrs'.length = n →
      Sat (RefP m (g.pick t).M :: Row ba 3 0 true ((g.pick t).ths.map fun t => iN t.1) :: Row bc kc 0 true vcs' :: Row br kr 0 true vrs' :: SatL (refsL vcs' vrs' cu') :: ThrR xv calls :: IntsR xw picks :: R) H1 → Q .normal σ1 H1) :
    codeW (lpAt Tryz.prog 17 0) Tryz.prog con σ H Q := by
  rw [law15PlayL_W]
  rw [e0, e1, e2, e6, e7, e8, e9]
  obtain ⟨b, c, cs, rfl, _, ecs, hld⟩ := rows_at hs (Has.skip (Has.skip (Has.skip (Has.skip (Has.skip (Has.skip (Has.here fun a t => IntsR.mono a t))))))) et
  repeat (first | refine run ?_ | refine Cd.t rfl ?_ | refine Cd.f rfl ?_ | refine Cd.t (by decide +kernel) ?_ | refine Cd.f (by decide +kernel) ?_ | refine Sc.mk rfl ?_ | refine ld (by assumption) rfl ?_ | refine nw (by assumption) fun _ _ _ => ?_ | refine stB (by assumption) rfl rfl fun _ _ => ?_)
  refine Cd.t (ltZ_t hj) ?_
  repeat (first | refine run ?_ | refine Cd.t rfl ?_ | refine Cd.f rfl ?_ | refine Cd.t (by decide +kernel) ?_ | refine Cd.f (by decide +kernel) ?_ | refine Sc.mk rfl ?_ | refine ld (by assumption) rfl ?_ | refine nw (by assumption) fun _ _ _ => ?_ | refine stB (by assumption) rfl rfl fun _ _ => ?_)
  refine Must.mk (ltN_t hj) ?_
  refine hld _ 0 _ _ (by show 0 + j * 1 = _; omega) (by rw [ecs]; rfl) ?_
  obtain ⟨l1, l2, l3⟩ := hg
  have hnx : ∀ {K : Prop}, K → InR (Int.add (iN j |> fun _ => Int.ofNat j) (Int.ofNat 1)) K := fun {K} h => by
    show InR (Int.add (Int.ofNat j) (Int.ofNat 1)) K
    rw [addInt]
    exact inR_nat (by omega) h
  have idle : ∀ (σ1 : TF), g.pick t = g → σ1 0 = ptr m 0 → σ1 1 = xv → σ1 2 = slc b 0 picks.length c → σ1 6 = slc ba 0 n n → σ1 7 = slc bc 0 n n → σ1 8 = slc br 0 n n → σ1 9 = iN (j + 1) → Q .normal σ1 H := fun σ1 hp a0 a1 a2 a6 a7 a8 a9 => by
    rw [hp] at k
    exact k σ1 H cu vcs vrs a0 a1 a2 a6 a7 a8 a9 hcu hvc hvr hs
  repeat (first | refine run ?_ | refine Cd.t rfl ?_ | refine Cd.f rfl ?_ | refine Cd.t (by decide +kernel) ?_ | refine Cd.f (by decide +kernel) ?_ | refine Sc.mk rfl ?_ | refine ld (by assumption) rfl ?_ | refine nw (by assumption) fun _ _ _ => ?_ | refine stB (by assumption) rfl rfl fun _ _ => ?_)
  cases t with
  | negSucc z =>
    refine Cd.t ltZ_neg ?_
    repeat (first | refine run ?_ | refine Cd.t rfl ?_ | refine Cd.f rfl ?_ | refine Cd.t (by decide +kernel) ?_ | refine Cd.f (by decide +kernel) ?_ | refine Sc.mk rfl ?_ | refine ld (by assumption) rfl ?_ | refine nw (by assumption) fun _ _ _ => ?_ | refine stB (by assumption) rfl rfl fun _ _ => ?_)
    refine hnx ?_
    exact idle _ rfl e0 e1 e2 e6 e7 e8 rfl
  | ofNat i =>
    refine Cd.f (ltZ_f (Nat.zero_le _)) ?_
    by_cases hi : i < calls.length
    · obtain ⟨cs, ec⟩ : ∃ x, calls[i]? = some x := ⟨_, List.getElem?_eq_getElem hi⟩
      obtain ⟨⟨a, o⟩, et1⟩ : ∃ x, g.ths[i]? = some x := ⟨_, List.getElem?_eq_getElem (by omega)⟩
      obtain ⟨ss, et2⟩ : ∃ x, g.st[i]? = some x := ⟨_, List.getElem?_eq_getElem (by omega)⟩
      obtain ⟨vc, evc⟩ : ∃ x, vcs[i]? = some x := ⟨_, List.getElem?_eq_getElem (by omega)⟩
      obtain ⟨vr, evr⟩ : ∃ x, vrs[i]? = some x := ⟨_, List.getElem?_eq_getElem (by omega)⟩
      obtain ⟨f1, f2⟩ := l3 i cs a o ss ec et1 et2
      have ecu := hcu.2 i a o ss et1 et2
      have hin : i < n := by omega
      have eat : (g.ths.map fun t => iN t.1)[i]? = some (iN a) := by rw [List.getElem?_map, et1]; rfl
      obtain ⟨bx, cx, csx, rfl, _, ⟨xvi, rfl, hcl⟩, hldx⟩ := rows_at hs (Has.skip (Has.skip (Has.skip (Has.skip (Has.skip (Has.here fun a t => ThrR.mono a t)))))) ec
      obtain ⟨pi, ci, exi⟩ := RowsR.len hcl
      subst exi
      repeat (first | refine run ?_ | refine Cd.t rfl ?_ | refine Cd.f rfl ?_ | refine Cd.t (by decide +kernel) ?_ | refine Cd.f (by decide +kernel) ?_ | refine Sc.mk rfl ?_ | refine ld (by assumption) rfl ?_ | refine nw (by assumption) fun _ _ _ => ?_ | refine stB (by assumption) rfl rfl fun _ _ => ?_)
      refine Cd.f (leZ_f hi) ?_
      repeat (first | refine run ?_ | refine Cd.t rfl ?_ | refine Cd.f rfl ?_ | refine Cd.t (by decide +kernel) ?_ | refine Cd.f (by decide +kernel) ?_ | refine Sc.mk rfl ?_ | refine ld (by assumption) rfl ?_ | refine nw (by assumption) fun _ _ _ => ?_ | refine stB (by assumption) rfl rfl fun _ _ => ?_)
      refine Must.mk (ltN_t hin) (ld hs (row_get eat) ?_)
      repeat (first | refine run ?_ | refine Cd.t rfl ?_ | refine Cd.f rfl ?_ | refine Cd.t (by decide +kernel) ?_ | refine Cd.f (by decide +kernel) ?_ | refine Sc.mk rfl ?_ | refine ld (by assumption) rfl ?_ | refine nw (by assumption) fun _ _ _ => ?_ | refine stB (by assumption) rfl rfl fun _ _ => ?_)
      refine Must.mk (ltN_t hi) (hldx _ 0 _ _ (by show 0 + i * 1 = _; omega) rfl ?_)
      repeat (first | refine run ?_ | refine Cd.t rfl ?_ | refine Cd.f rfl ?_ | refine Cd.t (by decide +kernel) ?_ | refine Cd.f (by decide +kernel) ?_ | refine Sc.mk rfl ?_ | refine ld (by assumption) rfl ?_ | refine nw (by assumption) fun _ _ _ => ?_ | refine stB (by assumption) rfl rfl fun _ _ => ?_)
      by_cases ha : a < cs.length
      · refine Cd.f (leZ_f ha) ?_
        obtain ⟨cl, ecl⟩ : ∃ x, cs[a]? = some x := ⟨_, List.getElem?_eq_getElem ha⟩
        obtain ⟨s, es, hok⟩ := (f2 a cl ecl).2 rfl
        have hfr : o = false → s = cl.fresh := fun ho => by
          have := (f2 a cl ecl).1 (.inr ⟨rfl, ho⟩)
          rw [es] at this
          exact Option.some.inj this
        have hlst : cl.st.length ≤ 1000000000 := (hsh cs (List.mem_of_getElem? ec)).2 cl (List.mem_of_getElem? ecl)
        have hp : g.pick (.ofNat i) = { M := (s.step g.M (Int.ofNat i)).2, ths := g.ths.set i (if (s.step g.M (Int.ofNat i)).1.over then (a + 1, false) else (a, true)), st := g.st.set i (ss.set a (s.step g.M (Int.ofNat i)).1) } := by
          simp only [G.pick, et1, et2, es]
        rw [hp] at k
        refine nw hs fun p29 H30 h30 => ?_
        obtain ⟨bx', cx', csx', ebx, _, ⟨xvi', rfl, hcl'⟩, hldx'⟩ := rows_at h30 (Has.skip (Has.skip (Has.skip (Has.skip (Has.skip (Has.skip (Has.here fun a t => ThrR.mono a t))))))) ec
        cases ebx
        obtain ⟨bi, ci', cc, rfl, _, ⟨xb, rfl, hnum⟩, hldc⟩ := rows_at' hcl' ecl
        repeat (first | refine run ?_ | refine Cd.t rfl ?_ | refine Cd.f rfl ?_ | refine Cd.t (by decide +kernel) ?_ | refine Cd.f (by decide +kernel) ?_ | refine Sc.mk rfl ?_ | refine ld (by assumption) rfl ?_ | refine nw (by assumption) fun _ _ _ => ?_ | refine stB (by assumption) rfl rfl fun _ _ => ?_)
        refine Must.mk (ltN_t hi) (hldx' _ 0 _ _ (by show 0 + i * 1 = _; omega) rfl ?_)
        repeat (first | refine run ?_ | refine Cd.t rfl ?_ | refine Cd.f rfl ?_ | refine Cd.t (by decide +kernel) ?_ | refine Cd.f (by decide +kernel) ?_ | refine Sc.mk rfl ?_ | refine ld (by assumption) rfl ?_ | refine nw (by assumption) fun _ _ _ => ?_ | refine stB (by assumption) rfl rfl fun _ _ => ?_)
        refine Must.mk (ltN_t hin) (ld h30 (row_get eat) ?_)
        repeat (first | refine run ?_ | refine Cd.t rfl ?_ | refine Cd.f rfl ?_ | refine Cd.t (by decide +kernel) ?_ | refine Cd.f (by decide +kernel) ?_ | refine Sc.mk rfl ?_ | refine ld (by assumption) rfl ?_ | refine nw (by assumption) fun _ _ _ => ?_ | refine stB (by assumption) rfl rfl fun _ _ => ?_)
        refine Must.mk (ltN_t ha) ?_
        refine hldc _ 0 _ _ (by show 0 + a * 6 + 0 = _; omega) rfl ?_
        refine hldc _ 1 _ _ (by show 0 + a * 6 + 1 = _; omega) rfl ?_
        refine hldc _ 2 _ _ (by show 0 + a * 6 + 2 = _; omega) rfl ?_
        refine hldc _ 3 _ _ (by show 0 + a * 6 + 3 = _; omega) rfl ?_
        refine hldc _ 4 _ _ (by show 0 + a * 6 + 4 = _; omega) rfl ?_
        refine hldc _ 5 _ _ (by show 0 + a * 6 + 5 = _; omega) rfl ?_
        have hd := Sat.dup' h30 hnum NumsR.ro
        obtain ⟨pxb, cxb, exb⟩ := RowsR.len hnum
        refine stN hd (Nat.le_of_ble_eq_true rfl) (by rw [exb]; rfl) fun H54 h54 => ?_
        have h54 : Sat (NumsR xb cl.st :: Own p29 [i64 cl.kind, u64 cl.obj, u64 cl.a, u64 cl.b, u64 cl.fl, xb] :: RefP m g.M :: Row ba 3 0 true (g.ths.map fun t => iN t.1) :: Row bc kc 0 true vcs :: Row br kr 0 true vrs :: SatL (refsL vcs vrs cu) :: ThrR (slc bx 0 calls.length cx) calls :: IntsR (slc b 0 picks.length c) picks :: R) H54 := h54
        repeat (first | refine run ?_ | refine Cd.t rfl ?_ | refine Cd.f rfl ?_ | refine Cd.t (by decide +kernel) ?_ | refine Cd.f (by decide +kernel) ?_ | refine Sc.mk rfl ?_ | refine ld (by assumption) rfl ?_ | refine nw (by assumption) fun _ _ _ => ?_ | refine stB (by assumption) rfl rfl fun _ _ => ?_)
        refine Must.mk (ltN_t hin) (ld h54 (row_get evc) ?_)
        have hrg := refs_get evc evr ecu
        have hrl : i < (refsL vcs vrs cu).length := (List.getElem?_eq_some_iff.1 hrg).1
        have hvc1 : ∀ x, (vcs.set i x)[i]? = some x := fun x => List.getElem?_set_self (by omega)
        have hvr1 : ∀ x, (vrs.set i x)[i]? = some x := fun x => List.getElem?_set_self (by omega)
        have h55 : Sat (SatL (refsL vcs vrs cu) :: NumsR xb cl.st :: Own p29 [i64 cl.kind, u64 cl.obj, u64 cl.a, u64 cl.b, u64 cl.fl, xb] :: RefP m g.M :: Row ba 3 0 true (g.ths.map fun t => iN t.1) :: Row bc kc 0 true vcs :: Row br kr 0 true vrs :: ThrR (slc bx 0 calls.length cx) calls :: IntsR (slc b 0 picks.length c) picks :: R) H54 := h54.ent (by repeat (first | exact Ent.refl _ | exact Ent.none | apply Ent.cons (by repeat (first | exact Pull.here | apply Pull.there)) | refine Ent.drop ?_))
        have h56 := h55.pull (pull_all Pull.here hrg)
        obtain ⟨u1, u2, v1, v2, dd, hth, hRR⟩ := h56.opens Pull.here
        cases o with
        | true =>
          simp only [if_true, es] at hth
          cases s with
          | cut s0 =>
            obtain ⟨p, nx, xbx, rfl, rfl, hnx', hin'⟩ := hth
            have hX := Sat.merge v1 v2 dd hin' hRR
            simp only [List.cons_append, List.nil_append] at hX
            have hs1 : vcs.set i (ptr p 0) = vcs := set_get_self evc
            have hs2 : vrs.set i nilp = vrs := set_get_self evr
            have hY : Sat (Own p (rcutC s0 nx xbx) :: NumsR xbx s0.st :: SatL ((refsL vcs vrs cu).set i Emp) :: RefP m g.M :: Row ba 3 0 true (g.ths.map fun t => iN t.1) :: Row bc kc 0 true (vcs.set i (ptr p 0)) :: Row br kr 0 true (vrs.set i nilp) :: ThrR (slc bx 0 calls.length cx) calls :: IntsR (slc b 0 picks.length c) picks :: R) H54 := by rw [hs1, hs2]; exact hX.ent (by repeat (first | exact Ent.refl _ | exact Ent.none | apply Ent.cons (by repeat (first | exact Pull.here | apply Pull.there)) | refine Ent.drop ?_))
            clear hX h54 h55 h56
            repeat (first | refine run ?_ | refine Cd.t rfl ?_ | refine Cd.f rfl ?_ | refine Cd.t (by decide +kernel) ?_ | refine Cd.f (by decide +kernel) ?_ | refine Sc.mk rfl ?_ | refine ld (by assumption) rfl ?_ | refine nw (by assumption) fun _ _ _ => ?_ | refine stB (by assumption) rfl rfl fun _ _ => ?_)
            refine Must.mk (ltN_t hin) (ld hY (row_get (hvc1 _)) ?_)
            repeat (first | refine run ?_ | refine Cd.t rfl ?_ | refine Cd.f rfl ?_ | refine Cd.t (by decide +kernel) ?_ | refine Cd.f (by decide +kernel) ?_ | refine Sc.mk rfl ?_ | refine ld (by assumption) rfl ?_ | refine nw (by assumption) fun _ _ _ => ?_ | refine stB (by assumption) rfl rfl fun _ _ => ?_)
            refine Must.mk (ltN_t hin) (ld hY (row_get (hvc1 _)) ?_)
            refine rcutStep_ok (th := Int.ofNat i) hc (s0) (nx) hnx' hY (by repeat (first | exact Pull.here | apply Pull.there)) (by repeat (first | exact Pull.here | apply Pull.there)) (fun g a => (Has.here (A := NumsR xbx (s0).st) (fun a t => NumsR.mono a t) g a).nums) hok.2 htr hok.1 fun nx' H1 hnx1 h1 => ?_
            have hov : eqZ (Int.ofNat ((s0).step g.M (Int.ofNat i)).1.at_) (Int.ofNat 7) = ((PrS.cut (s0)).step g.M (Int.ofNat i)).1.over := rfl
            rw [hov]
            refine AsBool.mk ?_
            cases ho : ((PrS.cut (s0)).step g.M (Int.ofNat i)).1.over with
            | true =>
              refine Cd.t rfl ?_
              simp only [ho, if_true] at k
              repeat (first | refine run ?_ | refine Cd.t rfl ?_ | refine Cd.f rfl ?_ | refine Cd.t (by decide +kernel) ?_ | refine Cd.f (by decide +kernel) ?_ | refine Sc.mk rfl ?_ | refine ld (by assumption) rfl ?_ | refine nw (by assumption) fun _ _ _ => ?_ | refine stB (by assumption) rfl rfl fun _ _ => ?_)
              have hR1 : Sat (Row ba 3 0 true (g.ths.map fun t => iN t.1) :: Row bc kc 0 true (vcs.set i (ptr p 0)) :: Row br kr 0 true (vrs.set i (nilp)) :: SatL ((refsL vcs vrs cu).set i Emp) :: RefP m ((PrS.cut (s0)).step g.M (Int.ofNat i)).2 :: ThrR (slc bx 0 calls.length cx) calls :: IntsR (slc b 0 picks.length c) picks :: R) H1 := Sat.ent h1 (by repeat (first | exact Ent.refl _ | exact Ent.none | apply Ent.cons (by repeat (first | exact Pull.here | apply Pull.there)) | refine Ent.drop ?_))
              refine Must.mk (ltN_t hin) (st hR1 (by rw [off1]; simp [hvc]; omega) rfl fun HA hA => ?_)
              rw [off1, List.set_set] at hA
              repeat (first | refine run ?_ | refine Cd.t rfl ?_ | refine Cd.f rfl ?_ | refine Cd.t (by decide +kernel) ?_ | refine Cd.f (by decide +kernel) ?_ | refine Sc.mk rfl ?_ | refine ld (by assumption) rfl ?_ | refine nw (by assumption) fun _ _ _ => ?_ | refine stB (by assumption) rfl rfl fun _ _ => ?_)
              refine Must.mk (ltN_t hin) (st hA (by rw [off1]; simp [hvr]; omega) rfl fun HB hB => ?_)
              rw [off1, List.set_set] at hB
              repeat (first | refine run ?_ | refine Cd.t rfl ?_ | refine Cd.f rfl ?_ | refine Cd.t (by decide +kernel) ?_ | refine Cd.f (by decide +kernel) ?_ | refine Sc.mk rfl ?_ | refine ld (by assumption) rfl ?_ | refine nw (by assumption) fun _ _ _ => ?_ | refine stB (by assumption) rfl rfl fun _ _ => ?_)
              refine Must.mk (ltN_t hin) (ld hB (row_get eat) ?_)
              repeat (first | refine run ?_ | refine Cd.t rfl ?_ | refine Cd.f rfl ?_ | refine Cd.t (by decide +kernel) ?_ | refine Cd.f (by decide +kernel) ?_ | refine Sc.mk rfl ?_ | refine ld (by assumption) rfl ?_ | refine nw (by assumption) fun _ _ _ => ?_ | refine stB (by assumption) rfl rfl fun _ _ => ?_)
              rw [addInt]
              refine inR_nat (by have := (hsh cs (List.mem_of_getElem? ec)).1; omega) ?_
              repeat (first | refine run ?_ | refine Cd.t rfl ?_ | refine Cd.f rfl ?_ | refine Cd.t (by decide +kernel) ?_ | refine Cd.f (by decide +kernel) ?_ | refine Sc.mk rfl ?_ | refine ld (by assumption) rfl ?_ | refine nw (by assumption) fun _ _ _ => ?_ | refine stB (by assumption) rfl rfl fun _ _ => ?_)
              refine Must.mk (ltN_t hin) (st hB (by rw [off1]; simp; omega) rfl fun HC hC => ?_)
              rw [off1, show (g.ths.map fun t => iN t.1).set i (iN (a + 1)) = (g.ths.set i (a + 1, false)).map fun t => iN t.1 by rw [List.map_set]] at hC
              repeat (first | refine run ?_ | refine Cd.t rfl ?_ | refine Cd.f rfl ?_ | refine Cd.t (by decide +kernel) ?_ | refine Cd.f (by decide +kernel) ?_ | refine Sc.mk rfl ?_ | refine ld (by assumption) rfl ?_ | refine nw (by assumption) fun _ _ _ => ?_ | refine stB (by assumption) rfl rfl fun _ _ => ?_)
              refine hnx ?_
              have hD := (hC.triv (A := RefTh nilp nilp none) fun _ => ⟨rfl, rfl⟩)
              have hE : Sat (RefTh nilp nilp none :: SatL ((refsL vcs vrs cu).set i Emp) :: RefP m ((PrS.cut (s0)).step g.M (Int.ofNat i)).2 :: Row ba 3 0 true ((g.ths.set i (a + 1, false)).map fun t => iN t.1) :: Row bc kc 0 true (vcs.set i nilp) :: Row br kr 0 true (vrs.set i nilp) :: ThrR (slc bx 0 calls.length cx) calls :: IntsR (slc b 0 picks.length c) picks :: R) HC := hD.ent (by repeat (first | exact Ent.refl _ | exact Ent.none | apply Ent.cons (by repeat (first | exact Pull.here | apply Pull.there)) | refine Ent.drop ?_))
              have hF := hE.putAll hrl
              rw [refs_set (by omega) (by omega) (by have := hcu.1; omega)] at hF
              exact k _ HC (cu.set i none) (vcs.set i nilp) (vrs.set i nilp) e0 e1 e2 e6 e7 e8 rfl (cuOk_set (o' := false) hcu (by omega) (by omega)) (by simp [hvc]) (by simp [hvr]) (hF.ent (by repeat (first | exact Ent.refl _ | exact Ent.none | apply Ent.cons (by repeat (first | exact Pull.here | apply Pull.there)) | refine Ent.drop ?_)))
            | false =>
              refine Cd.f rfl ?_
              simp only [ho, Bool.false_eq_true, if_false] at k
              repeat (first | refine run ?_ | refine Cd.t rfl ?_ | refine Cd.f rfl ?_ | refine Cd.t (by decide +kernel) ?_ | refine Cd.f (by decide +kernel) ?_ | refine Sc.mk rfl ?_ | refine ld (by assumption) rfl ?_ | refine nw (by assumption) fun _ _ _ => ?_ | refine stB (by assumption) rfl rfl fun _ _ => ?_)
              have h2 : Sat (RefTh (ptr p 0) nilp (some ((PrS.cut (s0)).step g.M (Int.ofNat i)).1) :: SatL ((refsL vcs vrs cu).set i Emp) :: RefP m ((s0).step g.M (Int.ofNat i)).2 :: Row ba 3 0 true (g.ths.map fun t => iN t.1) :: Row bc kc 0 true (vcs.set i (ptr p 0)) :: Row br kr 0 true (vrs.set i nilp) :: ThrR (slc bx 0 calls.length cx) calls :: IntsR (slc b 0 picks.length c) picks :: R) H1 := Sat.close (L1 := [Own p (rcutC ((s0).step g.M (Int.ofNat i)).1 nx' xbx), NumsR xbx ((s0).step g.M (Int.ofNat i)).1.st]) (by rw [step_st]; exact h1.ent (by repeat (first | exact Ent.refl _ | exact Ent.none | apply Ent.cons (by repeat (first | exact Pull.here | apply Pull.there)) | refine Ent.drop ?_))) fun g a => ⟨p, nx', xbx, rfl, rfl, hnx1, a⟩
              refine hnx ?_
              have hF := (h2).putAll hrl
              rw [refs_set (by omega) (by omega) (by have := hcu.1; omega)] at hF
              have hG : (g.ths.map fun t => iN t.1) = (g.ths.set i (a, true)).map fun t => iN t.1 := by rw [List.map_set]; exact (set_get_self eat).symm
              rw [hG] at hF
              have hcu' := cuOk_set (o' := true) (a' := a) (ss' := ss.set a ((PrS.cut (s0)).step g.M (Int.ofNat i)).1) (M' := ((PrS.cut (s0)).step g.M (Int.ofNat i)).2) hcu (show i < g.ths.length by omega) (show i < g.st.length by omega)
              rw [if_pos rfl, List.getElem?_set_self (by omega)] at hcu'
              exact k _ H1 (cu.set i (some ((PrS.cut (s0)).step g.M (Int.ofNat i)).1)) (vcs.set i (ptr p 0)) (vrs.set i (nilp)) e0 e1 e2 e6 e7 e8 rfl hcu' (by simp [hvc]) (by simp [hvr]) (hF.ent (by repeat (first | exact Ent.refl _ | exact Ent.none | apply Ent.cons (by repeat (first | exact Pull.here | apply Pull.there)) | refine Ent.drop ?_)))
          | cas s0 =>
            obtain ⟨p, x, rfl, rfl, hx, hin'⟩ := hth
            have hX := Sat.merge (L1 := [Own p x.cells]) v1 v2 dd (SatL.one hin') hRR
            simp only [List.cons_append, List.nil_append] at hX
            have hs1 : vcs.set i nilp = vcs := set_get_self evc
            have hs2 : vrs.set i (ptr p 0) = vrs := set_get_self evr
            have hY : Sat (Own p x.cells :: SatL ((refsL vcs vrs cu).set i Emp) :: RefP m g.M :: Row ba 3 0 true (g.ths.map fun t => iN t.1) :: Row bc kc 0 true (vcs.set i nilp) :: Row br kr 0 true (vrs.set i (ptr p 0)) :: ThrR (slc bx 0 calls.length cx) calls :: IntsR (slc b 0 picks.length c) picks :: R) H54 := by rw [hs1, hs2]; exact hX.ent (by repeat (first | exact Ent.refl _ | exact Ent.none | apply Ent.cons (by repeat (first | exact Pull.here | apply Pull.there)) | refine Ent.drop ?_))
            clear hX h54 h55 h56
            repeat (first | refine run ?_ | refine Cd.t rfl ?_ | refine Cd.f rfl ?_ | refine Cd.t (by decide +kernel) ?_ | refine Cd.f (by decide +kernel) ?_ | refine Sc.mk rfl ?_ | refine ld (by assumption) rfl ?_ | refine nw (by assumption) fun _ _ _ => ?_ | refine stB (by assumption) rfl rfl fun _ _ => ?_)
            refine Must.mk (ltN_t hin) (ld hY (row_get (hvr1 _)) ?_)
            repeat (first | refine run ?_ | refine Cd.t rfl ?_ | refine Cd.f rfl ?_ | refine Cd.t (by decide +kernel) ?_ | refine Cd.f (by decide +kernel) ?_ | refine Sc.mk rfl ?_ | refine ld (by assumption) rfl ?_ | refine nw (by assumption) fun _ _ _ => ?_ | refine stB (by assumption) rfl rfl fun _ _ => ?_)
            refine Must.mk (ltN_t hin) (ld hY (row_get (hvc1 _)) ?_)
            repeat (first | refine run ?_ | refine Cd.t rfl ?_ | refine Cd.f rfl ?_ | refine Cd.t (by decide +kernel) ?_ | refine Cd.f (by decide +kernel) ?_ | refine Sc.mk rfl ?_ | refine ld (by assumption) rfl ?_ | refine nw (by assumption) fun _ _ _ => ?_ | refine stB (by assumption) rfl rfl fun _ _ => ?_)
            refine Must.mk (ltN_t hin) (ld hY (row_get (hvr1 _)) ?_)
            refine ref9Proc_ok (th := Int.ofNat i) hc (x) (PrS.cas s0) hx hY (by repeat (first | exact Pull.here | apply Pull.there)) (by repeat (first | exact Pull.here | apply Pull.there)) htr hok (fun ho H1 h1 => ?_) (fun ho x' H1 hx' h1 => ?_)
            · refine AsBool.mk (Cd.t rfl ?_)
              simp only [ho, if_true] at k
              repeat (first | refine run ?_ | refine Cd.t rfl ?_ | refine Cd.f rfl ?_ | refine Cd.t (by decide +kernel) ?_ | refine Cd.f (by decide +kernel) ?_ | refine Sc.mk rfl ?_ | refine ld (by assumption) rfl ?_ | refine nw (by assumption) fun _ _ _ => ?_ | refine stB (by assumption) rfl rfl fun _ _ => ?_)
              have hR1 : Sat (Row ba 3 0 true (g.ths.map fun t => iN t.1) :: Row bc kc 0 true (vcs.set i (nilp)) :: Row br kr 0 true (vrs.set i (ptr p 0)) :: SatL ((refsL vcs vrs cu).set i Emp) :: RefP m ((PrS.cas s0).step g.M (Int.ofNat i)).2 :: ThrR (slc bx 0 calls.length cx) calls :: IntsR (slc b 0 picks.length c) picks :: R) H1 := Sat.ent h1 (by repeat (first | exact Ent.refl _ | exact Ent.none | apply Ent.cons (by repeat (first | exact Pull.here | apply Pull.there)) | refine Ent.drop ?_))
              refine Must.mk (ltN_t hin) (st hR1 (by rw [off1]; simp [hvc]; omega) rfl fun HA hA => ?_)
              rw [off1, List.set_set] at hA
              repeat (first | refine run ?_ | refine Cd.t rfl ?_ | refine Cd.f rfl ?_ | refine Cd.t (by decide +kernel) ?_ | refine Cd.f (by decide +kernel) ?_ | refine Sc.mk rfl ?_ | refine ld (by assumption) rfl ?_ | refine nw (by assumption) fun _ _ _ => ?_ | refine stB (by assumption) rfl rfl fun _ _ => ?_)
              refine Must.mk (ltN_t hin) (st hA (by rw [off1]; simp [hvr]; omega) rfl fun HB hB => ?_)
              rw [off1, List.set_set] at hB
              repeat (first | refine run ?_ | refine Cd.t rfl ?_ | refine Cd.f rfl ?_ | refine Cd.t (by decide +kernel) ?_ | refine Cd.f (by decide +kernel) ?_ | refine Sc.mk rfl ?_ | refine ld (by assumption) rfl ?_ | refine nw (by assumption) fun _ _ _ => ?_ | refine stB (by assumption) rfl rfl fun _ _ => ?_)
              refine Must.mk (ltN_t hin) (ld hB (row_get eat) ?_)
              repeat (first | refine run ?_ | refine Cd.t rfl ?_ | refine Cd.f rfl ?_ | refine Cd.t (by decide +kernel) ?_ | refine Cd.f (by decide +kernel) ?_ | refine Sc.mk rfl ?_ | refine ld (by assumption) rfl ?_ | refine nw (by assumption) fun _ _ _ => ?_ | refine stB (by assumption) rfl rfl fun _ _ => ?_)
              rw [addInt]
              refine inR_nat (by have := (hsh cs (List.mem_of_getElem? ec)).1; omega) ?_
              repeat (first | refine run ?_ | refine Cd.t rfl ?_ | refine Cd.f rfl ?_ | refine Cd.t (by decide +kernel) ?_ | refine Cd.f (by decide +kernel) ?_ | refine Sc.mk rfl ?_ | refine ld (by assumption) rfl ?_ | refine nw (by assumption) fun _ _ _ => ?_ | refine stB (by assumption) rfl rfl fun _ _ => ?_)
              refine Must.mk (ltN_t hin) (st hB (by rw [off1]; simp; omega) rfl fun HC hC => ?_)
              rw [off1, show (g.ths.map fun t => iN t.1).set i (iN (a + 1)) = (g.ths.set i (a + 1, false)).map fun t => iN t.1 by rw [List.map_set]] at hC
              repeat (first | refine run ?_ | refine Cd.t rfl ?_ | refine Cd.f rfl ?_ | refine Cd.t (by decide +kernel) ?_ | refine Cd.f (by decide +kernel) ?_ | refine Sc.mk rfl ?_ | refine ld (by assumption) rfl ?_ | refine nw (by assumption) fun _ _ _ => ?_ | refine stB (by assumption) rfl rfl fun _ _ => ?_)
              refine hnx ?_
              have hD := (hC.triv (A := RefTh nilp nilp none) fun _ => ⟨rfl, rfl⟩)
              have hE : Sat (RefTh nilp nilp none :: SatL ((refsL vcs vrs cu).set i Emp) :: RefP m ((PrS.cas s0).step g.M (Int.ofNat i)).2 :: Row ba 3 0 true ((g.ths.set i (a + 1, false)).map fun t => iN t.1) :: Row bc kc 0 true (vcs.set i nilp) :: Row br kr 0 true (vrs.set i nilp) :: ThrR (slc bx 0 calls.length cx) calls :: IntsR (slc b 0 picks.length c) picks :: R) HC := hD.ent (by repeat (first | exact Ent.refl _ | exact Ent.none | apply Ent.cons (by repeat (first | exact Pull.here | apply Pull.there)) | refine Ent.drop ?_))
              have hF := hE.putAll hrl
              rw [refs_set (by omega) (by omega) (by have := hcu.1; omega)] at hF
              exact k _ HC (cu.set i none) (vcs.set i nilp) (vrs.set i nilp) e0 e1 e2 e6 e7 e8 rfl (cuOk_set (o' := false) hcu (by omega) (by omega)) (by simp [hvc]) (by simp [hvr]) (hF.ent (by repeat (first | exact Ent.refl _ | exact Ent.none | apply Ent.cons (by repeat (first | exact Pull.here | apply Pull.there)) | refine Ent.drop ?_)))
            · refine AsBool.mk (Cd.f rfl ?_)
              simp only [ho, Bool.false_eq_true, if_false] at k
              repeat (first | refine run ?_ | refine Cd.t rfl ?_ | refine Cd.f rfl ?_ | refine Cd.t (by decide +kernel) ?_ | refine Cd.f (by decide +kernel) ?_ | refine Sc.mk rfl ?_ | refine ld (by assumption) rfl ?_ | refine nw (by assumption) fun _ _ _ => ?_ | refine stB (by assumption) rfl rfl fun _ _ => ?_)
              have h2 : Sat (RefTh nilp (ptr p 0) (some ((PrS.cas s0).step g.M (Int.ofNat i)).1) :: SatL ((refsL vcs vrs cu).set i Emp) :: RefP m ((PrS.cas s0).step g.M (Int.ofNat i)).2 :: Row ba 3 0 true (g.ths.map fun t => iN t.1) :: Row bc kc 0 true (vcs.set i nilp) :: Row br kr 0 true (vrs.set i (ptr p 0)) :: ThrR (slc bx 0 calls.length cx) calls :: IntsR (slc b 0 picks.length c) picks :: R) H1 := Sat.close (L1 := [Own p x'.cells]) (h1.ent (by repeat (first | exact Ent.refl _ | exact Ent.none | apply Ent.cons (by repeat (first | exact Pull.here | apply Pull.there)) | refine Ent.drop ?_))) fun g a => ⟨p, x', rfl, rfl, hx', a.head fun _ a s => Own.mono a s⟩
              refine hnx ?_
              have hF := (h2).putAll hrl
              rw [refs_set (by omega) (by omega) (by have := hcu.1; omega)] at hF
              have hG : (g.ths.map fun t => iN t.1) = (g.ths.set i (a, true)).map fun t => iN t.1 := by rw [List.map_set]; exact (set_get_self eat).symm
              rw [hG] at hF
              have hcu' := cuOk_set (o' := true) (a' := a) (ss' := ss.set a ((PrS.cas s0).step g.M (Int.ofNat i)).1) (M' := ((PrS.cas s0).step g.M (Int.ofNat i)).2) hcu (show i < g.ths.length by omega) (show i < g.st.length by omega)
              rw [if_pos rfl, List.getElem?_set_self (by omega)] at hcu'
              exact k _ H1 (cu.set i (some ((PrS.cas s0).step g.M (Int.ofNat i)).1)) (vcs.set i (nilp)) (vrs.set i (ptr p 0)) e0 e1 e2 e6 e7 e8 rfl hcu' (by simp [hvc]) (by simp [hvr]) (hF.ent (by repeat (first | exact Ent.refl _ | exact Ent.none | apply Ent.cons (by repeat (first | exact Pull.here | apply Pull.there)) | refine Ent.drop ?_)))
          | take s0 =>
            obtain ⟨p, x, rfl, rfl, hx, hin'⟩ := hth
            have hX := Sat.merge (L1 := [Own p x.cells]) v1 v2 dd (SatL.one hin') hRR
            simp only [List.cons_append, List.nil_append] at hX
            have hs1 : vcs.set i nilp = vcs := set_get_self evc
            have hs2 : vrs.set i (ptr p 0) = vrs := set_get_self evr
            have hY : Sat (Own p x.cells :: SatL ((refsL vcs vrs cu).set i Emp) :: RefP m g.M :: Row ba 3 0 true (g.ths.map fun t => iN t.1) :: Row bc kc 0 true (vcs.set i nilp) :: Row br kr 0 true (vrs.set i (ptr p 0)) :: ThrR (slc bx 0 calls.length cx) calls :: IntsR (slc b 0 picks.length c) picks :: R) H54 := by rw [hs1, hs2]; exact hX.ent (by repeat (first | exact Ent.refl _ | exact Ent.none | apply Ent.cons (by repeat (first | exact Pull.here | apply Pull.there)) | refine Ent.drop ?_))
            clear hX h54 h55 h56
            repeat (first | refine run ?_ | refine Cd.t rfl ?_ | refine Cd.f rfl ?_ | refine Cd.t (by decide +kernel) ?_ | refine Cd.f (by decide +kernel) ?_ | refine Sc.mk rfl ?_ | refine ld (by assumption) rfl ?_ | refine nw (by assumption) fun _ _ _ => ?_ | refine stB (by assumption) rfl rfl fun _ _ => ?_)
            refine Must.mk (ltN_t hin) (ld hY (row_get (hvr1 _)) ?_)
            repeat (first | refine run ?_ | refine Cd.t rfl ?_ | refine Cd.f rfl ?_ | refine Cd.t (by decide +kernel) ?_ | refine Cd.f (by decide +kernel) ?_ | refine Sc.mk rfl ?_ | refine ld (by assumption) rfl ?_ | refine nw (by assumption) fun _ _ _ => ?_ | refine stB (by assumption) rfl rfl fun _ _ => ?_)
            refine Must.mk (ltN_t hin) (ld hY (row_get (hvc1 _)) ?_)
            repeat (first | refine run ?_ | refine Cd.t rfl ?_ | refine Cd.f rfl ?_ | refine Cd.t (by decide +kernel) ?_ | refine Cd.f (by decide +kernel) ?_ | refine Sc.mk rfl ?_ | refine ld (by assumption) rfl ?_ | refine nw (by assumption) fun _ _ _ => ?_ | refine stB (by assumption) rfl rfl fun _ _ => ?_)
            refine Must.mk (ltN_t hin) (ld hY (row_get (hvr1 _)) ?_)
            refine ref9Proc_ok (th := Int.ofNat i) hc (x) (PrS.take s0) hx hY (by repeat (first | exact Pull.here | apply Pull.there)) (by repeat (first | exact Pull.here | apply Pull.there)) htr hok (fun ho H1 h1 => ?_) (fun ho x' H1 hx' h1 => ?_)
            · refine AsBool.mk (Cd.t rfl ?_)
              simp only [ho, if_true] at k
              repeat (first | refine run ?_ | refine Cd.t rfl ?_ | refine Cd.f rfl ?_ | refine Cd.t (by decide +kernel) ?_ | refine Cd.f (by decide +kernel) ?_ | refine Sc.mk rfl ?_ | refine ld (by assumption) rfl ?_ | refine nw (by assumption) fun _ _ _ => ?_ | refine stB (by assumption) rfl rfl fun _ _ => ?_)
              have hR1 : Sat (Row ba 3 0 true (g.ths.map fun t => iN t.1) :: Row bc kc 0 true (vcs.set i (nilp)) :: Row br kr 0 true (vrs.set i (ptr p 0)) :: SatL ((refsL vcs vrs cu).set i Emp) :: RefP m ((PrS.take s0).step g.M (Int.ofNat i)).2 :: ThrR (slc bx 0 calls.length cx) calls :: IntsR (slc b 0 picks.length c) picks :: R) H1 := Sat.ent h1 (by repeat (first | exact Ent.refl _ | exact Ent.none | apply Ent.cons (by repeat (first | exact Pull.here | apply Pull.there)) | refine Ent.drop ?_))
              refine Must.mk (ltN_t hin) (st hR1 (by rw [off1]; simp [hvc]; omega) rfl fun HA hA => ?_)
              rw [off1, List.set_set] at hA
              repeat (first | refine run ?_ | refine Cd.t rfl ?_ | refine Cd.f rfl ?_ | refine Cd.t (by decide +kernel) ?_ | refine Cd.f (by decide +kernel) ?_ | refine Sc.mk rfl ?_ | refine ld (by assumption) rfl ?_ | refine nw (by assumption) fun _ _ _ => ?_ | refine stB (by assumption) rfl rfl fun _ _ => ?_)
              refine Must.mk (ltN_t hin) (st hA (by rw [off1]; simp [hvr]; omega) rfl fun HB hB => ?_)
              rw [off1, List.set_set] at hB
              repeat (first | refine run ?_ | refine Cd.t rfl ?_ | refine Cd.f rfl ?_ | refine Cd.t (by decide +kernel) ?_ | refine Cd.f (by decide +kernel) ?_ | refine Sc.mk rfl ?_ | refine ld (by assumption) rfl ?_ | refine nw (by assumption) fun _ _ _ => ?_ | refine stB (by assumption) rfl rfl fun _ _ => ?_)
              refine Must.mk (ltN_t hin) (ld hB (row_get eat) ?_)
              repeat (first | refine run ?_ | refine Cd.t rfl ?_ | refine Cd.f rfl ?_ | refine Cd.t (by decide +kernel) ?_ | refine Cd.f (by decide +kernel) ?_ | refine Sc.mk rfl ?_ | refine ld (by assumption) rfl ?_ | refine nw (by assumption) fun _ _ _ => ?_ | refine stB (by assumption) rfl rfl fun _ _ => ?_)
              rw [addInt]
              refine inR_nat (by have := (hsh cs (List.mem_of_getElem? ec)).1; omega) ?_
              repeat (first | refine run ?_ | refine Cd.t rfl ?_ | refine Cd.f rfl ?_ | refine Cd.t (by decide +kernel) ?_ | refine Cd.f (by decide +kernel) ?_ | refine Sc.mk rfl ?_ | refine ld (by assumption) rfl ?_ | refine nw (by assumption) fun _ _ _ => ?_ | refine stB (by assumption) rfl rfl fun _ _ => ?_)
              refine Must.mk (ltN_t hin) (st hB (by rw [off1]; simp; omega) rfl fun HC hC => ?_)
              rw [off1, show (g.ths.map fun t => iN t.1).set i (iN (a + 1)) = (g.ths.set i (a + 1, false)).map fun t => iN t.1 by rw [List.map_set]] at hC
              repeat (first | refine run ?_ | refine Cd.t rfl ?_ | refine Cd.f rfl ?_ | refine Cd.t (by decide +kernel) ?_ | refine Cd.f (by decide +kernel) ?_ | refine Sc.mk rfl ?_ | refine ld (by assumption) rfl ?_ | refine nw (by assumption) fun _ _ _ => ?_ | refine stB (by assumption) rfl rfl fun _ _ => ?_)
              refine hnx ?_
              have hD := (hC.triv (A := RefTh nilp nilp none) fun _ => ⟨rfl, rfl⟩)
              have hE : Sat (RefTh nilp nilp none :: SatL ((refsL vcs vrs cu).set i Emp) :: RefP m ((PrS.take s0).step g.M (Int.ofNat i)).2 :: Row ba 3 0 true ((g.ths.set i (a + 1, false)).map fun t => iN t.1) :: Row bc kc 0 true (vcs.set i nilp) :: Row br kr 0 true (vrs.set i nilp) :: ThrR (slc bx 0 calls.length cx) calls :: IntsR (slc b 0 picks.length c) picks :: R) HC := hD.ent (by repeat (first | exact Ent.refl _ | exact Ent.none | apply Ent.cons (by repeat (first | exact Pull.here | apply Pull.there)) | refine Ent.drop ?_))
              have hF := hE.putAll hrl
              rw [refs_set (by omega) (by omega) (by have := hcu.1; omega)] at hF
              exact k _ HC (cu.set i none) (vcs.set i nilp) (vrs.set i nilp) e0 e1 e2 e6 e7 e8 rfl (cuOk_set (o' := false) hcu (by omega) (by omega)) (by simp [hvc]) (by simp [hvr]) (hF.ent (by repeat (first | exact Ent.refl _ | exact Ent.none | apply Ent.cons (by repeat (first | exact Pull.here | apply Pull.there)) | refine Ent.drop ?_)))
            · refine AsBool.mk (Cd.f rfl ?_)
              simp only [ho, Bool.false_eq_true, if_false] at k
              repeat (first | refine run ?_ | refine Cd.t rfl ?_ | refine Cd.f rfl ?_ | refine Cd.t (by decide +kernel) ?_ | refine Cd.f (by decide +kernel) ?_ | refine Sc.mk rfl ?_ | refine ld (by assumption) rfl ?_ | refine nw (by assumption) fun _ _ _ => ?_ | refine stB (by assumption) rfl rfl fun _ _ => ?_)
              have h2 : Sat (RefTh nilp (ptr p 0) (some ((PrS.take s0).step g.M (Int.ofNat i)).1) :: SatL ((refsL vcs vrs cu).set i Emp) :: RefP m ((PrS.take s0).step g.M (Int.ofNat i)).2 :: Row ba 3 0 true (g.ths.map fun t => iN t.1) :: Row bc kc 0 true (vcs.set i nilp) :: Row br kr 0 true (vrs.set i (ptr p 0)) :: ThrR (slc bx 0 calls.length cx) calls :: IntsR (slc b 0 picks.length c) picks :: R) H1 := Sat.close (L1 := [Own p x'.cells]) (h1.ent (by repeat (first | exact Ent.refl _ | exact Ent.none | apply Ent.cons (by repeat (first | exact Pull.here | apply Pull.there)) | refine Ent.drop ?_))) fun g a => ⟨p, x', rfl, rfl, hx', a.head fun _ a s => Own.mono a s⟩
              refine hnx ?_
              have hF := (h2).putAll hrl
              rw [refs_set (by omega) (by omega) (by have := hcu.1; omega)] at hF
              have hG : (g.ths.map fun t => iN t.1) = (g.ths.set i (a, true)).map fun t => iN t.1 := by rw [List.map_set]; exact (set_get_self eat).symm
              rw [hG] at hF
              have hcu' := cuOk_set (o' := true) (a' := a) (ss' := ss.set a ((PrS.take s0).step g.M (Int.ofNat i)).1) (M' := ((PrS.take s0).step g.M (Int.ofNat i)).2) hcu (show i < g.ths.length by omega) (show i < g.st.length by omega)
              rw [if_pos rfl, List.getElem?_set_self (by omega)] at hcu'
              exact k _ H1 (cu.set i (some ((PrS.take s0).step g.M (Int.ofNat i)).1)) (vcs.set i (nilp)) (vrs.set i (ptr p 0)) e0 e1 e2 e6 e7 e8 rfl hcu' (by simp [hvc]) (by simp [hvr]) (hF.ent (by repeat (first | exact Ent.refl _ | exact Ent.none | apply Ent.cons (by repeat (first | exact Pull.here | apply Pull.there)) | refine Ent.drop ?_)))
          | past s0 =>
            obtain ⟨p, x, rfl, rfl, hx, hin'⟩ := hth
            have hX := Sat.merge (L1 := [Own p x.cells]) v1 v2 dd (SatL.one hin') hRR
            simp only [List.cons_append, List.nil_append] at hX
            have hs1 : vcs.set i nilp = vcs := set_get_self evc
            have hs2 : vrs.set i (ptr p 0) = vrs := set_get_self evr
            have hY : Sat (Own p x.cells :: SatL ((refsL vcs vrs cu).set i Emp) :: RefP m g.M :: Row ba 3 0 true (g.ths.map fun t => iN t.1) :: Row bc kc 0 true (vcs.set i nilp) :: Row br kr 0 true (vrs.set i (ptr p 0)) :: ThrR (slc bx 0 calls.length cx) calls :: IntsR (slc b 0 picks.length c) picks :: R) H54 := by rw [hs1, hs2]; exact hX.ent (by repeat (first | exact Ent.refl _ | exact Ent.none | apply Ent.cons (by repeat (first | exact Pull.here | apply Pull.there)) | refine Ent.drop ?_))
            clear hX h54 h55 h56
            repeat (first | refine run ?_ | refine Cd.t rfl ?_ | refine Cd.f rfl ?_ | refine Cd.t (by decide +kernel) ?_ | refine Cd.f (by decide +kernel) ?_ | refine Sc.mk rfl ?_ | refine ld (by assumption) rfl ?_ | refine nw (by assumption) fun _ _ _ => ?_ | refine stB (by assumption) rfl rfl fun _ _ => ?_)
            refine Must.mk (ltN_t hin) (ld hY (row_get (hvr1 _)) ?_)
            repeat (first | refine run ?_ | refine Cd.t rfl ?_ | refine Cd.f rfl ?_ | refine Cd.t (by decide +kernel) ?_ | refine Cd.f (by decide +kernel) ?_ | refine Sc.mk rfl ?_ | refine ld (by assumption) rfl ?_ | refine nw (by assumption) fun _ _ _ => ?_ | refine stB (by assumption) rfl rfl fun _ _ => ?_)
            refine Must.mk (ltN_t hin) (ld hY (row_get (hvc1 _)) ?_)
            repeat (first | refine run ?_ | refine Cd.t rfl ?_ | refine Cd.f rfl ?_ | refine Cd.t (by decide +kernel) ?_ | refine Cd.f (by decide +kernel) ?_ | refine Sc.mk rfl ?_ | refine ld (by assumption) rfl ?_ | refine nw (by assumption) fun _ _ _ => ?_ | refine stB (by assumption) rfl rfl fun _ _ => ?_)
            refine Must.mk (ltN_t hin) (ld hY (row_get (hvr1 _)) ?_)
            refine ref9Proc_ok (th := Int.ofNat i) hc (x) (PrS.past s0) hx hY (by repeat (first | exact Pull.here | apply Pull.there)) (by repeat (first | exact Pull.here | apply Pull.there)) htr hok (fun ho H1 h1 => ?_) (fun ho x' H1 hx' h1 => ?_)
            · refine AsBool.mk (Cd.t rfl ?_)
              simp only [ho, if_true] at k
              repeat (first | refine run ?_ | refine Cd.t rfl ?_ | refine Cd.f rfl ?_ | refine Cd.t (by decide +kernel) ?_ | refine Cd.f (by decide +kernel) ?_ | refine Sc.mk rfl ?_ | refine ld (by assumption) rfl ?_ | refine nw (by assumption) fun _ _ _ => ?_ | refine stB (by assumption) rfl rfl fun _ _ => ?_)
              have hR1 : Sat (Row ba 3 0 true (g.ths.map fun t => iN t.1) :: Row bc kc 0 true (vcs.set i (nilp)) :: Row br kr 0 true (vrs.set i (ptr p 0)) :: SatL ((refsL vcs vrs cu).set i Emp) :: RefP m ((PrS.past s0).step g.M (Int.ofNat i)).2 :: ThrR (slc bx 0 calls.length cx) calls :: IntsR (slc b 0 picks.length c) picks :: R) H1 := Sat.ent h1 (by repeat (first | exact Ent.refl _ | exact Ent.none | apply Ent.cons (by repeat (first | exact Pull.here | apply Pull.there)) | refine Ent.drop ?_))
              refine Must.mk (ltN_t hin) (st hR1 (by rw [off1]; simp [hvc]; omega) rfl fun HA hA => ?_)
              rw [off1, List.set_set] at hA
              repeat (first | refine run ?_ | refine Cd.t rfl ?_ | refine Cd.f rfl ?_ | refine Cd.t (by decide +kernel) ?_ | refine Cd.f (by decide +kernel) ?_ | refine Sc.mk rfl ?_ | refine ld (by assumption) rfl ?_ | refine nw (by assumption) fun _ _ _ => ?_ | refine stB (by assumption) rfl rfl fun _ _ => ?_)
              refine Must.mk (ltN_t hin) (st hA (by rw [off1]; simp [hvr]; omega) rfl fun HB hB => ?_)
              rw [off1, List.set_set] at hB
              repeat (first | refine run ?_ | refine Cd.t rfl ?_ | refine Cd.f rfl ?_ | refine Cd.t (by decide +kernel) ?_ | refine Cd.f (by decide +kernel) ?_ | refine Sc.mk rfl ?_ | refine ld (by assumption) rfl ?_ | refine nw (by assumption) fun _ _ _ => ?_ | refine stB (by assumption) rfl rfl fun _ _ => ?_)
              refine Must.mk (ltN_t hin) (ld hB (row_get eat) ?_)
              repeat (first | refine run ?_ | refine Cd.t rfl ?_ | refine Cd.f rfl ?_ | refine Cd.t (by decide +kernel) ?_ | refine Cd.f (by decide +kernel) ?_ | refine Sc.mk rfl ?_ | refine ld (by assumption) rfl ?_ | refine nw (by assumption) fun _ _ _ => ?_ | refine stB (by assumption) rfl rfl fun _ _ => ?_)
              rw [addInt]
              refine inR_nat (by have := (hsh cs (List.mem_of_getElem? ec)).1; omega) ?_
              repeat (first | refine run ?_ | refine Cd.t rfl ?_ | refine Cd.f rfl ?_ | refine Cd.t (by decide +kernel) ?_ | refine Cd.f (by decide +kernel) ?_ | refine Sc.mk rfl ?_ | refine ld (by assumption) rfl ?_ | refine nw (by assumption) fun _ _ _ => ?_ | refine stB (by assumption) rfl rfl fun _ _ => ?_)
              refine Must.mk (ltN_t hin) (st hB (by rw [off1]; simp; omega) rfl fun HC hC => ?_)
              rw [off1, show (g.ths.map fun t => iN t.1).set i (iN (a + 1)) = (g.ths.set i (a + 1, false)).map fun t => iN t.1 by rw [List.map_set]] at hC
              repeat (first | refine run ?_ | refine Cd.t rfl ?_ | refine Cd.f rfl ?_ | refine Cd.t (by decide +kernel) ?_ | refine Cd.f (by decide +kernel) ?_ | refine Sc.mk rfl ?_ | refine ld (by assumption) rfl ?_ | refine nw (by assumption) fun _ _ _ => ?_ | refine stB (by assumption) rfl rfl fun _ _ => ?_)
              refine hnx ?_
              have hD := (hC.triv (A := RefTh nilp nilp none) fun _ => ⟨rfl, rfl⟩)
              have hE : Sat (RefTh nilp nilp none :: SatL ((refsL vcs vrs cu).set i Emp) :: RefP m ((PrS.past s0).step g.M (Int.ofNat i)).2 :: Row ba 3 0 true ((g.ths.set i (a + 1, false)).map fun t => iN t.1) :: Row bc kc 0 true (vcs.set i nilp) :: Row br kr 0 true (vrs.set i nilp) :: ThrR (slc bx 0 calls.length cx) calls :: IntsR (slc b 0 picks.length c) picks :: R) HC := hD.ent (by repeat (first | exact Ent.refl _ | exact Ent.none | apply Ent.cons (by repeat (first | exact Pull.here | apply Pull.there)) | refine Ent.drop ?_))
              have hF := hE.putAll hrl
              rw [refs_set (by omega) (by omega) (by have := hcu.1; omega)] at hF
              exact k _ HC (cu.set i none) (vcs.set i nilp) (vrs.set i nilp) e0 e1 e2 e6 e7 e8 rfl (cuOk_set (o' := false) hcu (by omega) (by omega)) (by simp [hvc]) (by simp [hvr]) (hF.ent (by repeat (first | exact Ent.refl _ | exact Ent.none | apply Ent.cons (by repeat (first | exact Pull.here | apply Pull.there)) | refine Ent.drop ?_)))
            · refine AsBool.mk (Cd.f rfl ?_)
              simp only [ho, Bool.false_eq_true, if_false] at k
              repeat (first | refine run ?_ | refine Cd.t rfl ?_ | refine Cd.f rfl ?_ | refine Cd.t (by decide +kernel) ?_ | refine Cd.f (by decide +kernel) ?_ | refine Sc.mk rfl ?_ | refine ld (by assumption) rfl ?_ | refine nw (by assumption) fun _ _ _ => ?_ | refine stB (by assumption) rfl rfl fun _ _ => ?_)
              have h2 : Sat (RefTh nilp (ptr p 0) (some ((PrS.past s0).step g.M (Int.ofNat i)).1) :: SatL ((refsL vcs vrs cu).set i Emp) :: RefP m ((PrS.past s0).step g.M (Int.ofNat i)).2 :: Row ba 3 0 true (g.ths.map fun t => iN t.1) :: Row bc kc 0 true (vcs.set i nilp) :: Row br kr 0 true (vrs.set i (ptr p 0)) :: ThrR (slc bx 0 calls.length cx) calls :: IntsR (slc b 0 picks.length c) picks :: R) H1 := Sat.close (L1 := [Own p x'.cells]) (h1.ent (by repeat (first | exact Ent.refl _ | exact Ent.none | apply Ent.cons (by repeat (first | exact Pull.here | apply Pull.there)) | refine Ent.drop ?_))) fun g a => ⟨p, x', rfl, rfl, hx', a.head fun _ a s => Own.mono a s⟩
              refine hnx ?_
              have hF := (h2).putAll hrl
              rw [refs_set (by omega) (by omega) (by have := hcu.1; omega)] at hF
              have hG : (g.ths.map fun t => iN t.1) = (g.ths.set i (a, true)).map fun t => iN t.1 := by rw [List.map_set]; exact (set_get_self eat).symm
              rw [hG] at hF
              have hcu' := cuOk_set (o' := true) (a' := a) (ss' := ss.set a ((PrS.past s0).step g.M (Int.ofNat i)).1) (M' := ((PrS.past s0).step g.M (Int.ofNat i)).2) hcu (show i < g.ths.length by omega) (show i < g.st.length by omega)
              rw [if_pos rfl, List.getElem?_set_self (by omega)] at hcu'
              exact k _ H1 (cu.set i (some ((PrS.past s0).step g.M (Int.ofNat i)).1)) (vcs.set i (nilp)) (vrs.set i (ptr p 0)) e0 e1 e2 e6 e7 e8 rfl hcu' (by simp [hvc]) (by simp [hvr]) (hF.ent (by repeat (first | exact Ent.refl _ | exact Ent.none | apply Ent.cons (by repeat (first | exact Pull.here | apply Pull.there)) | refine Ent.drop ?_)))
        | false =>
          obtain ⟨rfl, rfl⟩ := hth
          obtain rfl := hfr rfl
          have h57 := h56.drop
          have hs1 : vcs.set i nilp = vcs := set_get_self evc
          have hs2 : vrs.set i nilp = vrs := set_get_self evr
          clear hd h54 h55 h56 hRR
          repeat (first | refine run ?_ | refine Cd.t rfl ?_ | refine Cd.f rfl ?_ | refine Cd.t (by decide +kernel) ?_ | refine Cd.f (by decide +kernel) ?_ | refine Sc.mk rfl ?_ | refine ld (by assumption) rfl ?_ | refine nw (by assumption) fun _ _ _ => ?_ | refine stB (by assumption) rfl rfl fun _ _ => ?_)
          refine Must.mk (ltN_t hin) (ld h57 (row_get evr) ?_)
          repeat (first | refine run ?_ | refine Cd.t rfl ?_ | refine Cd.f rfl ?_ | refine Cd.t (by decide +kernel) ?_ | refine Cd.f (by decide +kernel) ?_ | refine Sc.mk rfl ?_ | refine ld (by assumption) rfl ?_ | refine nw (by assumption) fun _ _ _ => ?_ | refine stB (by assumption) rfl rfl fun _ _ => ?_)
          by_cases ek : cl.kind = Int.ofNat 0
          · refine Cd.t (decide_eq_true ek) ?_
            have ef : cl.fresh = .cas ⟨1, cl.o, cl.a, cl.b, 0, 0, 0, ⟨0, 0, 0, 0⟩⟩ := by unfold CallS.fresh; rw [if_pos ek]
            rw [ef] at hok k
            repeat (first | refine run ?_ | refine Cd.t rfl ?_ | refine Cd.f rfl ?_ | refine Cd.t (by decide +kernel) ?_ | refine Cd.f (by decide +kernel) ?_ | refine Sc.mk rfl ?_ | refine ld (by assumption) rfl ?_ | refine nw (by assumption) fun _ _ _ => ?_ | refine stB (by assumption) rfl rfl fun _ _ => ?_)
            refine ref9Begin_ok hc h57 fun p H60 h60 => ?_
            repeat (first | refine run ?_ | refine Cd.t rfl ?_ | refine Cd.f rfl ?_ | refine Cd.t (by decide +kernel) ?_ | refine Cd.f (by decide +kernel) ?_ | refine Sc.mk rfl ?_ | refine ld (by assumption) rfl ?_ | refine nw (by assumption) fun _ _ _ => ?_ | refine stB (by assumption) rfl rfl fun _ _ => ?_)
            refine Must.mk (ltN_t hin) (Sc.mk rfl (st h60 (by rw [off1]; omega) rfl fun H61 h61 => ?_))
            rw [off1] at h61
            have hY : Sat (Own p (pc0 1 cl.o cl.a cl.b 1).cells :: SatL ((refsL vcs vrs cu).set i Emp) :: RefP m g.M :: Row ba 3 0 true (g.ths.map fun t => iN t.1) :: Row bc kc 0 true (vcs.set i nilp) :: Row br kr 0 true (vrs.set i (ptr p 0)) :: ThrR (slc bx 0 calls.length cx) calls :: IntsR (slc b 0 picks.length c) picks :: R) H61 := by rw [hs1]; exact h61.ent (by repeat (first | exact Ent.refl _ | exact Ent.none | apply Ent.cons (by repeat (first | exact Pull.here | apply Pull.there)) | refine Ent.drop ?_))
            repeat (first | refine run ?_ | refine Cd.t rfl ?_ | refine Cd.f rfl ?_ | refine Cd.t (by decide +kernel) ?_ | refine Cd.f (by decide +kernel) ?_ | refine Sc.mk rfl ?_ | refine ld (by assumption) rfl ?_ | refine nw (by assumption) fun _ _ _ => ?_ | refine stB (by assumption) rfl rfl fun _ _ => ?_)
            refine Must.mk (ltN_t hin) (ld hY (row_get (hvc1 _)) ?_)
            repeat (first | refine run ?_ | refine Cd.t rfl ?_ | refine Cd.f rfl ?_ | refine Cd.t (by decide +kernel) ?_ | refine Cd.f (by decide +kernel) ?_ | refine Sc.mk rfl ?_ | refine ld (by assumption) rfl ?_ | refine nw (by assumption) fun _ _ _ => ?_ | refine stB (by assumption) rfl rfl fun _ _ => ?_)
            refine Must.mk (ltN_t hin) (ld hY (row_get (hvr1 _)) ?_)
            refine ref9Proc_ok (th := Int.ofNat i) hc (pc0 1 cl.o cl.a cl.b 1) (PrS.cas ⟨1, cl.o, cl.a, cl.b, 0, 0, 0, ⟨0, 0, 0, 0⟩⟩) ⟨rfl, rfl⟩ hY (by repeat (first | exact Pull.here | apply Pull.there)) (by repeat (first | exact Pull.here | apply Pull.there)) htr hok (fun ho H1 h1 => ?_) (fun ho x' H1 hx' h1 => ?_)
            · refine AsBool.mk (Cd.t rfl ?_)
              simp only [ho, if_true] at k
              repeat (first | refine run ?_ | refine Cd.t rfl ?_ | refine Cd.f rfl ?_ | refine Cd.t (by decide +kernel) ?_ | refine Cd.f (by decide +kernel) ?_ | refine Sc.mk rfl ?_ | refine ld (by assumption) rfl ?_ | refine nw (by assumption) fun _ _ _ => ?_ | refine stB (by assumption) rfl rfl fun _ _ => ?_)
              have hR1 : Sat (Row ba 3 0 true (g.ths.map fun t => iN t.1) :: Row bc kc 0 true (vcs.set i (nilp)) :: Row br kr 0 true (vrs.set i (ptr p 0)) :: SatL ((refsL vcs vrs cu).set i Emp) :: RefP m ((PrS.cas ⟨1, cl.o, cl.a, cl.b, 0, 0, 0, ⟨0, 0, 0, 0⟩⟩).step g.M (Int.ofNat i)).2 :: ThrR (slc bx 0 calls.length cx) calls :: IntsR (slc b 0 picks.length c) picks :: R) H1 := Sat.ent h1 (by repeat (first | exact Ent.refl _ | exact Ent.none | apply Ent.cons (by repeat (first | exact Pull.here | apply Pull.there)) | refine Ent.drop ?_))
              refine Must.mk (ltN_t hin) (st hR1 (by rw [off1]; simp [hvc]; omega) rfl fun HA hA => ?_)
              rw [off1, List.set_set] at hA
              repeat (first | refine run ?_ | refine Cd.t rfl ?_ | refine Cd.f rfl ?_ | refine Cd.t (by decide +kernel) ?_ | refine Cd.f (by decide +kernel) ?_ | refine Sc.mk rfl ?_ | refine ld (by assumption) rfl ?_ | refine nw (by assumption) fun _ _ _ => ?_ | refine stB (by assumption) rfl rfl fun _ _ => ?_)
              refine Must.mk (ltN_t hin) (st hA (by rw [off1]; simp [hvr]; omega) rfl fun HB hB => ?_)
              rw [off1, List.set_set] at hB
              repeat (first | refine run ?_ | refine Cd.t rfl ?_ | refine Cd.f rfl ?_ | refine Cd.t (by decide +kernel) ?_ | refine Cd.f (by decide +kernel) ?_ | refine Sc.mk rfl ?_ | refine ld (by assumption) rfl ?_ | refine nw (by assumption) fun _ _ _ => ?_ | refine stB (by assumption) rfl rfl fun _ _ => ?_)
              refine Must.mk (ltN_t hin) (ld hB (row_get eat) ?_)
              repeat (first | refine run ?_ | refine Cd.t rfl ?_ | refine Cd.f rfl ?_ | refine Cd.t (by decide +kernel) ?_ | refine Cd.f (by decide +kernel) ?_ | refine Sc.mk rfl ?_ | refine ld (by assumption) rfl ?_ | refine nw (by assumption) fun _ _ _ => ?_ | refine stB (by assumption) rfl rfl fun _ _ => ?_)
              rw [addInt]
              refine inR_nat (by have := (hsh cs (List.mem_of_getElem? ec)).1; omega) ?_
              repeat (first | refine run ?_ | refine Cd.t rfl ?_ | refine Cd.f rfl ?_ | refine Cd.t (by decide +kernel) ?_ | refine Cd.f (by decide +kernel) ?_ | refine Sc.mk rfl ?_ | refine ld (by assumption) rfl ?_ | refine nw (by assumption) fun _ _ _ => ?_ | refine stB (by assumption) rfl rfl fun _ _ => ?_)
              refine Must.mk (ltN_t hin) (st hB (by rw [off1]; simp; omega) rfl fun HC hC => ?_)
              rw [off1, show (g.ths.map fun t => iN t.1).set i (iN (a + 1)) = (g.ths.set i (a + 1, false)).map fun t => iN t.1 by rw [List.map_set]] at hC
              repeat (first | refine run ?_ | refine Cd.t rfl ?_ | refine Cd.f rfl ?_ | refine Cd.t (by decide +kernel) ?_ | refine Cd.f (by decide +kernel) ?_ | refine Sc.mk rfl ?_ | refine ld (by assumption) rfl ?_ | refine nw (by assumption) fun _ _ _ => ?_ | refine stB (by assumption) rfl rfl fun _ _ => ?_)
              refine hnx ?_
              have hD := (hC.triv (A := RefTh nilp nilp none) fun _ => ⟨rfl, rfl⟩)
              have hE : Sat (RefTh nilp nilp none :: SatL ((refsL vcs vrs cu).set i Emp) :: RefP m ((PrS.cas ⟨1, cl.o, cl.a, cl.b, 0, 0, 0, ⟨0, 0, 0, 0⟩⟩).step g.M (Int.ofNat i)).2 :: Row ba 3 0 true ((g.ths.set i (a + 1, false)).map fun t => iN t.1) :: Row bc kc 0 true (vcs.set i nilp) :: Row br kr 0 true (vrs.set i nilp) :: ThrR (slc bx 0 calls.length cx) calls :: IntsR (slc b 0 picks.length c) picks :: R) HC := hD.ent (by repeat (first | exact Ent.refl _ | exact Ent.none | apply Ent.cons (by repeat (first | exact Pull.here | apply Pull.there)) | refine Ent.drop ?_))
              have hF := hE.putAll hrl
              rw [refs_set (by omega) (by omega) (by have := hcu.1; omega)] at hF
              exact k _ HC (cu.set i none) (vcs.set i nilp) (vrs.set i nilp) e0 e1 e2 e6 e7 e8 rfl (cuOk_set (o' := false) hcu (by omega) (by omega)) (by simp [hvc]) (by simp [hvr]) (hF.ent (by repeat (first | exact Ent.refl _ | exact Ent.none | apply Ent.cons (by repeat (first | exact Pull.here | apply Pull.there)) | refine Ent.drop ?_)))
            · refine AsBool.mk (Cd.f rfl ?_)
              simp only [ho, Bool.false_eq_true, if_false] at k
              repeat (first | refine run ?_ | refine Cd.t rfl ?_ | refine Cd.f rfl ?_ | refine Cd.t (by decide +kernel) ?_ | refine Cd.f (by decide +kernel) ?_ | refine Sc.mk rfl ?_ | refine ld (by assumption) rfl ?_ | refine nw (by assumption) fun _ _ _ => ?_ | refine stB (by assumption) rfl rfl fun _ _ => ?_)
              have h2 : Sat (RefTh nilp (ptr p 0) (some ((PrS.cas ⟨1, cl.o, cl.a, cl.b, 0, 0, 0, ⟨0, 0, 0, 0⟩⟩).step g.M (Int.ofNat i)).1) :: SatL ((refsL vcs vrs cu).set i Emp) :: RefP m ((PrS.cas ⟨1, cl.o, cl.a, cl.b, 0, 0, 0, ⟨0, 0, 0, 0⟩⟩).step g.M (Int.ofNat i)).2 :: Row ba 3 0 true (g.ths.map fun t => iN t.1) :: Row bc kc 0 true (vcs.set i nilp) :: Row br kr 0 true (vrs.set i (ptr p 0)) :: ThrR (slc bx 0 calls.length cx) calls :: IntsR (slc b 0 picks.length c) picks :: R) H1 := Sat.close (L1 := [Own p x'.cells]) (h1.ent (by repeat (first | exact Ent.refl _ | exact Ent.none | apply Ent.cons (by repeat (first | exact Pull.here | apply Pull.there)) | refine Ent.drop ?_))) fun g a => ⟨p, x', rfl, rfl, hx', a.head fun _ a s => Own.mono a s⟩
              refine hnx ?_
              have hF := (h2).putAll hrl
              rw [refs_set (by omega) (by omega) (by have := hcu.1; omega)] at hF
              have hG : (g.ths.map fun t => iN t.1) = (g.ths.set i (a, true)).map fun t => iN t.1 := by rw [List.map_set]; exact (set_get_self eat).symm
              rw [hG] at hF
              have hcu' := cuOk_set (o' := true) (a' := a) (ss' := ss.set a ((PrS.cas ⟨1, cl.o, cl.a, cl.b, 0, 0, 0, ⟨0, 0, 0, 0⟩⟩).step g.M (Int.ofNat i)).1) (M' := ((PrS.cas ⟨1, cl.o, cl.a, cl.b, 0, 0, 0, ⟨0, 0, 0, 0⟩⟩).step g.M (Int.ofNat i)).2) hcu (show i < g.ths.length by omega) (show i < g.st.length by omega)
              rw [if_pos rfl, List.getElem?_set_self (by omega)] at hcu'
              exact k _ H1 (cu.set i (some ((PrS.cas ⟨1, cl.o, cl.a, cl.b, 0, 0, 0, ⟨0, 0, 0, 0⟩⟩).step g.M (Int.ofNat i)).1)) (vcs.set i (nilp)) (vrs.set i (ptr p 0)) e0 e1 e2 e6 e7 e8 rfl hcu' (by simp [hvc]) (by simp [hvr]) (hF.ent (by repeat (first | exact Ent.refl _ | exact Ent.none | apply Ent.cons (by repeat (first | exact Pull.here | apply Pull.there)) | refine Ent.drop ?_)))
          · refine Cd.f (decide_eq_false ek) ?_
            repeat (first | refine run ?_ | refine Cd.t rfl ?_ | refine Cd.f rfl ?_ | refine Cd.t (by decide +kernel) ?_ | refine Cd.f (by decide +kernel) ?_ | refine Sc.mk rfl ?_ | refine ld (by assumption) rfl ?_ | refine nw (by assumption) fun _ _ _ => ?_ | refine stB (by assumption) rfl rfl fun _ _ => ?_)
            by_cases ek1 : cl.kind = Int.ofNat 1
            · refine Cd.t (decide_eq_true ek1) ?_
              have ef : cl.fresh = .take ⟨1, 1073741824, 0, 0⟩ := by unfold CallS.fresh; rw [if_neg ek, if_pos ek1]
              rw [ef] at hok k
              repeat (first | refine run ?_ | refine Cd.t rfl ?_ | refine Cd.f rfl ?_ | refine Cd.t (by decide +kernel) ?_ | refine Cd.f (by decide +kernel) ?_ | refine Sc.mk rfl ?_ | refine ld (by assumption) rfl ?_ | refine nw (by assumption) fun _ _ _ => ?_ | refine stB (by assumption) rfl rfl fun _ _ => ?_)
              refine ref9Begin_ok hc h57 fun p H60 h60 => ?_
              repeat (first | refine run ?_ | refine Cd.t rfl ?_ | refine Cd.f rfl ?_ | refine Cd.t (by decide +kernel) ?_ | refine Cd.f (by decide +kernel) ?_ | refine Sc.mk rfl ?_ | refine ld (by assumption) rfl ?_ | refine nw (by assumption) fun _ _ _ => ?_ | refine stB (by assumption) rfl rfl fun _ _ => ?_)
              refine Must.mk (ltN_t hin) (Sc.mk rfl (st h60 (by rw [off1]; omega) rfl fun H61 h61 => ?_))
              rw [off1] at h61
              have hY : Sat (Own p (pc0 3 0 1073741824 0 1).cells :: SatL ((refsL vcs vrs cu).set i Emp) :: RefP m g.M :: Row ba 3 0 true (g.ths.map fun t => iN t.1) :: Row bc kc 0 true (vcs.set i nilp) :: Row br kr 0 true (vrs.set i (ptr p 0)) :: ThrR (slc bx 0 calls.length cx) calls :: IntsR (slc b 0 picks.length c) picks :: R) H61 := by rw [hs1]; exact h61.ent (by repeat (first | exact Ent.refl _ | exact Ent.none | apply Ent.cons (by repeat (first | exact Pull.here | apply Pull.there)) | refine Ent.drop ?_))
              repeat (first | refine run ?_ | refine Cd.t rfl ?_ | refine Cd.f rfl ?_ | refine Cd.t (by decide +kernel) ?_ | refine Cd.f (by decide +kernel) ?_ | refine Sc.mk rfl ?_ | refine ld (by assumption) rfl ?_ | refine nw (by assumption) fun _ _ _ => ?_ | refine stB (by assumption) rfl rfl fun _ _ => ?_)
              refine Must.mk (ltN_t hin) (ld hY (row_get (hvc1 _)) ?_)
              repeat (first | refine run ?_ | refine Cd.t rfl ?_ | refine Cd.f rfl ?_ | refine Cd.t (by decide +kernel) ?_ | refine Cd.f (by decide +kernel) ?_ | refine Sc.mk rfl ?_ | refine ld (by assumption) rfl ?_ | refine nw (by assumption) fun _ _ _ => ?_ | refine stB (by assumption) rfl rfl fun _ _ => ?_)
              refine Must.mk (ltN_t hin) (ld hY (row_get (hvr1 _)) ?_)
              refine ref9Proc_ok (th := Int.ofNat i) hc (pc0 3 0 1073741824 0 1) (PrS.take ⟨1, 1073741824, 0, 0⟩) ⟨rfl, rfl, rfl, rfl⟩ hY (by repeat (first | exact Pull.here | apply Pull.there)) (by repeat (first | exact Pull.here | apply Pull.there)) htr hok (fun ho H1 h1 => ?_) (fun ho x' H1 hx' h1 => ?_)
              · refine AsBool.mk (Cd.t rfl ?_)
                simp only [ho, if_true] at k
                repeat (first | refine run ?_ | refine Cd.t rfl ?_ | refine Cd.f rfl ?_ | refine Cd.t (by decide +kernel) ?_ | refine Cd.f (by decide +kernel) ?_ | refine Sc.mk rfl ?_ | refine ld (by assumption) rfl ?_ | refine nw (by assumption) fun _ _ _ => ?_ | refine stB (by assumption) rfl rfl fun _ _ => ?_)
                have hR1 : Sat (Row ba 3 0 true (g.ths.map fun t => iN t.1) :: Row bc kc 0 true (vcs.set i (nilp)) :: Row br kr 0 true (vrs.set i (ptr p 0)) :: SatL ((refsL vcs vrs cu).set i Emp) :: RefP m ((PrS.take ⟨1, 1073741824, 0, 0⟩).step g.M (Int.ofNat i)).2 :: ThrR (slc bx 0 calls.length cx) calls :: IntsR (slc b 0 picks.length c) picks :: R) H1 := Sat.ent h1 (by repeat (first | exact Ent.refl _ | exact Ent.none | apply Ent.cons (by repeat (first | exact Pull.here | apply Pull.there)) | refine Ent.drop ?_))
                refine Must.mk (ltN_t hin) (st hR1 (by rw [off1]; simp [hvc]; omega) rfl fun HA hA => ?_)
                rw [off1, List.set_set] at hA
                repeat (first | refine run ?_ | refine Cd.t rfl ?_ | refine Cd.f rfl ?_ | refine Cd.t (by decide +kernel) ?_ | refine Cd.f (by decide +kernel) ?_ | refine Sc.mk rfl ?_ | refine ld (by assumption) rfl ?_ | refine nw (by assumption) fun _ _ _ => ?_ | refine stB (by assumption) rfl rfl fun _ _ => ?_)
                refine Must.mk (ltN_t hin) (st hA (by rw [off1]; simp [hvr]; omega) rfl fun HB hB => ?_)
                rw [off1, List.set_set] at hB
                repeat (first | refine run ?_ | refine Cd.t rfl ?_ | refine Cd.f rfl ?_ | refine Cd.t (by decide +kernel) ?_ | refine Cd.f (by decide +kernel) ?_ | refine Sc.mk rfl ?_ | refine ld (by assumption) rfl ?_ | refine nw (by assumption) fun _ _ _ => ?_ | refine stB (by assumption) rfl rfl fun _ _ => ?_)
                refine Must.mk (ltN_t hin) (ld hB (row_get eat) ?_)
                repeat (first | refine run ?_ | refine Cd.t rfl ?_ | refine Cd.f rfl ?_ | refine Cd.t (by decide +kernel) ?_ | refine Cd.f (by decide +kernel) ?_ | refine Sc.mk rfl ?_ | refine ld (by assumption) rfl ?_ | refine nw (by assumption) fun _ _ _ => ?_ | refine stB (by assumption) rfl rfl fun _ _ => ?_)
                rw [addInt]
                refine inR_nat (by have := (hsh cs (List.mem_of_getElem? ec)).1; omega) ?_
                repeat (first | refine run ?_ | refine Cd.t rfl ?_ | refine Cd.f rfl ?_ | refine Cd.t (by decide +kernel) ?_ | refine Cd.f (by decide +kernel) ?_ | refine Sc.mk rfl ?_ | refine ld (by assumption) rfl ?_ | refine nw (by assumption) fun _ _ _ => ?_ | refine stB (by assumption) rfl rfl fun _ _ => ?_)
                refine Must.mk (ltN_t hin) (st hB (by rw [off1]; simp; omega) rfl fun HC hC => ?_)
                rw [off1, show (g.ths.map fun t => iN t.1).set i (iN (a + 1)) = (g.ths.set i (a + 1, false)).map fun t => iN t.1 by rw [List.map_set]] at hC
                repeat (first | refine run ?_ | refine Cd.t rfl ?_ | refine Cd.f rfl ?_ | refine Cd.t (by decide +kernel) ?_ | refine Cd.f (by decide +kernel) ?_ | refine Sc.mk rfl ?_ | refine ld (by assumption) rfl ?_ | refine nw (by assumption) fun _ _ _ => ?_ | refine stB (by assumption) rfl rfl fun _ _ => ?_)
                refine hnx ?_
                have hD := (hC.triv (A := RefTh nilp nilp none) fun _ => ⟨rfl, rfl⟩)
                have hE : Sat (RefTh nilp nilp none :: SatL ((refsL vcs vrs cu).set i Emp) :: RefP m ((PrS.take ⟨1, 1073741824, 0, 0⟩).step g.M (Int.ofNat i)).2 :: Row ba 3 0 true ((g.ths.set i (a + 1, false)).map fun t => iN t.1) :: Row bc kc 0 true (vcs.set i nilp) :: Row br kr 0 true (vrs.set i nilp) :: ThrR (slc bx 0 calls.length cx) calls :: IntsR (slc b 0 picks.length c) picks :: R) HC := hD.ent (by repeat (first | exact Ent.refl _ | exact Ent.none | apply Ent.cons (by repeat (first | exact Pull.here | apply Pull.there)) | refine Ent.drop ?_))
                have hF := hE.putAll hrl
                rw [refs_set (by omega) (by omega) (by have := hcu.1; omega)] at hF
                exact k _ HC (cu.set i none) (vcs.set i nilp) (vrs.set i nilp) e0 e1 e2 e6 e7 e8 rfl (cuOk_set (o' := false) hcu (by omega) (by omega)) (by simp [hvc]) (by simp [hvr]) (hF.ent (by repeat (first | exact Ent.refl _ | exact Ent.none | apply Ent.cons (by repeat (first | exact Pull.here | apply Pull.there)) | refine Ent.drop ?_)))
              · refine AsBool.mk (Cd.f rfl ?_)
                simp only [ho, Bool.false_eq_true, if_false] at k
                repeat (first | refine run ?_ | refine Cd.t rfl ?_ | refine Cd.f rfl ?_ | refine Cd.t (by decide +kernel) ?_ | refine Cd.f (by decide +kernel) ?_ | refine Sc.mk rfl ?_ | refine ld (by assumption) rfl ?_ | refine nw (by assumption) fun _ _ _ => ?_ | refine stB (by assumption) rfl rfl fun _ _ => ?_)
                have h2 : Sat (RefTh nilp (ptr p 0) (some ((PrS.take ⟨1, 1073741824, 0, 0⟩).step g.M (Int.ofNat i)).1) :: SatL ((refsL vcs vrs cu).set i Emp) :: RefP m ((PrS.take ⟨1, 1073741824, 0, 0⟩).step g.M (Int.ofNat i)).2 :: Row ba 3 0 true (g.ths.map fun t => iN t.1) :: Row bc kc 0 true (vcs.set i nilp) :: Row br kr 0 true (vrs.set i (ptr p 0)) :: ThrR (slc bx 0 calls.length cx) calls :: IntsR (slc b 0 picks.length c) picks :: R) H1 := Sat.close (L1 := [Own p x'.cells]) (h1.ent (by repeat (first | exact Ent.refl _ | exact Ent.none | apply Ent.cons (by repeat (first | exact Pull.here | apply Pull.there)) | refine Ent.drop ?_))) fun g a => ⟨p, x', rfl, rfl, hx', a.head fun _ a s => Own.mono a s⟩
                refine hnx ?_
                have hF := (h2).putAll hrl
                rw [refs_set (by omega) (by omega) (by have := hcu.1; omega)] at hF
                have hG : (g.ths.map fun t => iN t.1) = (g.ths.set i (a, true)).map fun t => iN t.1 := by rw [List.map_set]; exact (set_get_self eat).symm
                rw [hG] at hF
                have hcu' := cuOk_set (o' := true) (a' := a) (ss' := ss.set a ((PrS.take ⟨1, 1073741824, 0, 0⟩).step g.M (Int.ofNat i)).1) (M' := ((PrS.take ⟨1, 1073741824, 0, 0⟩).step g.M (Int.ofNat i)).2) hcu (show i < g.ths.length by omega) (show i < g.st.length by omega)
                rw [if_pos rfl, List.getElem?_set_self (by omega)] at hcu'
                exact k _ H1 (cu.set i (some ((PrS.take ⟨1, 1073741824, 0, 0⟩).step g.M (Int.ofNat i)).1)) (vcs.set i (nilp)) (vrs.set i (ptr p 0)) e0 e1 e2 e6 e7 e8 rfl hcu' (by simp [hvc]) (by simp [hvr]) (hF.ent (by repeat (first | exact Ent.refl _ | exact Ent.none | apply Ent.cons (by repeat (first | exact Pull.here | apply Pull.there)) | refine Ent.drop ?_)))
            · refine Cd.f (decide_eq_false ek1) ?_
              repeat (first | refine run ?_ | refine Cd.t rfl ?_ | refine Cd.f rfl ?_ | refine Cd.t (by decide +kernel) ?_ | refine Cd.f (by decide +kernel) ?_ | refine Sc.mk rfl ?_ | refine ld (by assumption) rfl ?_ | refine nw (by assumption) fun _ _ _ => ?_ | refine stB (by assumption) rfl rfl fun _ _ => ?_)
              by_cases ek2 : cl.kind = Int.ofNat 2
              · refine Cd.t (decide_eq_true ek2) ?_
                have ef : cl.fresh = .cut ⟨cl.o, cl.fl, cl.st, 0, 0, 0, 0, 0, 0, 0, 0, 0⟩ := by unfold CallS.fresh; rw [if_neg ek, if_neg ek1, if_pos ek2]
                rw [ef] at hok k
                repeat (first | refine run ?_ | refine Cd.t rfl ?_ | refine Cd.f rfl ?_ | refine Cd.t (by decide +kernel) ?_ | refine Cd.f (by decide +kernel) ?_ | refine Sc.mk rfl ?_ | refine ld (by assumption) rfl ?_ | refine nw (by assumption) fun _ _ _ => ?_ | refine stB (by assumption) rfl rfl fun _ _ => ?_)
                rename_i p H60 h60
                refine Must.mk (ltN_t hin) (st h60 (by rw [off1]; omega) rfl fun H61 h61 => ?_)
                rw [off1] at h61
                have hY : Sat (Own p (rcutC ⟨cl.o, cl.fl, cl.st, 0, 0, 0, 0, 0, 0, 0, 0, 0⟩ 0 xb) :: NumsR xb cl.st :: SatL ((refsL vcs vrs cu).set i Emp) :: RefP m g.M :: Row ba 3 0 true (g.ths.map fun t => iN t.1) :: Row bc kc 0 true (vcs.set i (ptr p 0)) :: Row br kr 0 true (vrs.set i nilp) :: ThrR (slc bx 0 calls.length cx) calls :: IntsR (slc b 0 picks.length c) picks :: R) H61 := by rw [hs2]; exact h61.ent (by repeat (first | exact Ent.refl _ | exact Ent.none | apply Ent.cons (by repeat (first | exact Pull.here | apply Pull.there)) | refine Ent.drop ?_))
                repeat (first | refine run ?_ | refine Cd.t rfl ?_ | refine Cd.f rfl ?_ | refine Cd.t (by decide +kernel) ?_ | refine Cd.f (by decide +kernel) ?_ | refine Sc.mk rfl ?_ | refine ld (by assumption) rfl ?_ | refine nw (by assumption) fun _ _ _ => ?_ | refine stB (by assumption) rfl rfl fun _ _ => ?_)
                refine Must.mk (ltN_t hin) (ld hY (row_get (hvc1 _)) ?_)
                repeat (first | refine run ?_ | refine Cd.t rfl ?_ | refine Cd.f rfl ?_ | refine Cd.t (by decide +kernel) ?_ | refine Cd.f (by decide +kernel) ?_ | refine Sc.mk rfl ?_ | refine ld (by assumption) rfl ?_ | refine nw (by assumption) fun _ _ _ => ?_ | refine stB (by assumption) rfl rfl fun _ _ => ?_)
                refine Must.mk (ltN_t hin) (ld hY (row_get (hvc1 _)) ?_)
                refine rcutStep_ok (th := Int.ofNat i) hc ((⟨cl.o, cl.fl, cl.st, 0, 0, 0, 0, 0, 0, 0, 0, 0⟩ : CutS)) (0) (fun h => nomatch h) hY (by repeat (first | exact Pull.here | apply Pull.there)) (by repeat (first | exact Pull.here | apply Pull.there)) (fun g a => (Has.here (A := NumsR xb ((⟨cl.o, cl.fl, cl.st, 0, 0, 0, 0, 0, 0, 0, 0, 0⟩ : CutS)).st) (fun a t => NumsR.mono a t) g a).nums) hok.2 htr hok.1 fun nx' H1 hnx1 h1 => ?_
                have hov : eqZ (Int.ofNat (((⟨cl.o, cl.fl, cl.st, 0, 0, 0, 0, 0, 0, 0, 0, 0⟩ : CutS)).step g.M (Int.ofNat i)).1.at_) (Int.ofNat 7) = ((PrS.cut ((⟨cl.o, cl.fl, cl.st, 0, 0, 0, 0, 0, 0, 0, 0, 0⟩ : CutS))).step g.M (Int.ofNat i)).1.over := rfl
                rw [hov]
                refine AsBool.mk ?_
                cases ho : ((PrS.cut ((⟨cl.o, cl.fl, cl.st, 0, 0, 0, 0, 0, 0, 0, 0, 0⟩ : CutS))).step g.M (Int.ofNat i)).1.over with
                | true =>
                  refine Cd.t rfl ?_
                  simp only [ho, if_true] at k
                  repeat (first | refine run ?_ | refine Cd.t rfl ?_ | refine Cd.f rfl ?_ | refine Cd.t (by decide +kernel) ?_ | refine Cd.f (by decide +kernel) ?_ | refine Sc.mk rfl ?_ | refine ld (by assumption) rfl ?_ | refine nw (by assumption) fun _ _ _ => ?_ | refine stB (by assumption) rfl rfl fun _ _ => ?_)
                  have hR1 : Sat (Row ba 3 0 true (g.ths.map fun t => iN t.1) :: Row bc kc 0 true (vcs.set i (ptr p 0)) :: Row br kr 0 true (vrs.set i (nilp)) :: SatL ((refsL vcs vrs cu).set i Emp) :: RefP m ((PrS.cut ((⟨cl.o, cl.fl, cl.st, 0, 0, 0, 0, 0, 0, 0, 0, 0⟩ : CutS))).step g.M (Int.ofNat i)).2 :: ThrR (slc bx 0 calls.length cx) calls :: IntsR (slc b 0 picks.length c) picks :: R) H1 := Sat.ent h1 (by repeat (first | exact Ent.refl _ | exact Ent.none | apply Ent.cons (by repeat (first | exact Pull.here | apply Pull.there)) | refine Ent.drop ?_))
                  refine Must.mk (ltN_t hin) (st hR1 (by rw [off1]; simp [hvc]; omega) rfl fun HA hA => ?_)
                  rw [off1, List.set_set] at hA
                  repeat (first | refine run ?_ | refine Cd.t rfl ?_ | refine Cd.f rfl ?_ | refine Cd.t (by decide +kernel) ?_ | refine Cd.f (by decide +kernel) ?_ | refine Sc.mk rfl ?_ | refine ld (by assumption) rfl ?_ | refine nw (by assumption) fun _ _ _ => ?_ | refine stB (by assumption) rfl rfl fun _ _ => ?_)
                  refine Must.mk (ltN_t hin) (st hA (by rw [off1]; simp [hvr]; omega) rfl fun HB hB => ?_)
                  rw [off1, List.set_set] at hB
                  repeat (first | refine run ?_ | refine Cd.t rfl ?_ | refine Cd.f rfl ?_ | refine Cd.t (by decide +kernel) ?_ | refine Cd.f (by decide +kernel) ?_ | refine Sc.mk rfl ?_ | refine ld (by assumption) rfl ?_ | refine nw (by assumption) fun _ _ _ => ?_ | refine stB (by assumption) rfl rfl fun _ _ => ?_)
                  refine Must.mk (ltN_t hin) (ld hB (row_get eat) ?_)
                  repeat (first | refine run ?_ | refine Cd.t rfl ?_ | refine Cd.f rfl ?_ | refine Cd.t (by decide +kernel) ?_ | refine Cd.f (by decide +kernel) ?_ | refine Sc.mk rfl ?_ | refine ld (by assumption) rfl ?_ | refine nw (by assumption) fun _ _ _ => ?_ | refine stB (by assumption) rfl rfl fun _ _ => ?_)
                  rw [addInt]
                  refine inR_nat (by have := (hsh cs (List.mem_of_getElem? ec)).1; omega) ?_
                  repeat (first | refine run ?_ | refine Cd.t rfl ?_ | refine Cd.f rfl ?_ | refine Cd.t (by decide +kernel) ?_ | refine Cd.f (by decide +kernel) ?_ | refine Sc.mk rfl ?_ | refine ld (by assumption) rfl ?_ | refine nw (by assumption) fun _ _ _ => ?_ | refine stB (by assumption) rfl rfl fun _ _ => ?_)
                  refine Must.mk (ltN_t hin) (st hB (by rw [off1]; simp; omega) rfl fun HC hC => ?_)
                  rw [off1, show (g.ths.map fun t => iN t.1).set i (iN (a + 1)) = (g.ths.set i (a + 1, false)).map fun t => iN t.1 by rw [List.map_set]] at hC
                  repeat (first | refine run ?_ | refine Cd.t rfl ?_ | refine Cd.f rfl ?_ | refine Cd.t (by decide +kernel) ?_ | refine Cd.f (by decide +kernel) ?_ | refine Sc.mk rfl ?_ | refine ld (by assumption) rfl ?_ | refine nw (by assumption) fun _ _ _ => ?_ | refine stB (by assumption) rfl rfl fun _ _ => ?_)
                  refine hnx ?_
                  have hD := (hC.triv (A := RefTh nilp nilp none) fun _ => ⟨rfl, rfl⟩)
                  have hE : Sat (RefTh nilp nilp none :: SatL ((refsL vcs vrs cu).set i Emp) :: RefP m ((PrS.cut ((⟨cl.o, cl.fl, cl.st, 0, 0, 0, 0, 0, 0, 0, 0, 0⟩ : CutS))).step g.M (Int.ofNat i)).2 :: Row ba 3 0 true ((g.ths.set i (a + 1, false)).map fun t => iN t.1) :: Row bc kc 0 true (vcs.set i nilp) :: Row br kr 0 true (vrs.set i nilp) :: ThrR (slc bx 0 calls.length cx) calls :: IntsR (slc b 0 picks.length c) picks :: R) HC := hD.ent (by repeat (first | exact Ent.refl _ | exact Ent.none | apply Ent.cons (by repeat (first | exact Pull.here | apply Pull.there)) | refine Ent.drop ?_))
                  have hF := hE.putAll hrl
                  rw [refs_set (by omega) (by omega) (by have := hcu.1; omega)] at hF
                  exact k _ HC (cu.set i none) (vcs.set i nilp) (vrs.set i nilp) e0 e1 e2 e6 e7 e8 rfl (cuOk_set (o' := false) hcu (by omega) (by omega)) (by simp [hvc]) (by simp [hvr]) (hF.ent (by repeat (first | exact Ent.refl _ | exact Ent.none | apply Ent.cons (by repeat (first | exact Pull.here | apply Pull.there)) | refine Ent.drop ?_)))
                | false =>
                  refine Cd.f rfl ?_
                  simp only [ho, Bool.false_eq_true, if_false] at k
                  repeat (first | refine run ?_ | refine Cd.t rfl ?_ | refine Cd.f rfl ?_ | refine Cd.t (by decide +kernel) ?_ | refine Cd.f (by decide +kernel) ?_ | refine Sc.mk rfl ?_ | refine ld (by assumption) rfl ?_ | refine nw (by assumption) fun _ _ _ => ?_ | refine stB (by assumption) rfl rfl fun _ _ => ?_)
                  have h2 : Sat (RefTh (ptr p 0) nilp (some ((PrS.cut ((⟨cl.o, cl.fl, cl.st, 0, 0, 0, 0, 0, 0, 0, 0, 0⟩ : CutS))).step g.M (Int.ofNat i)).1) :: SatL ((refsL vcs vrs cu).set i Emp) :: RefP m (((⟨cl.o, cl.fl, cl.st, 0, 0, 0, 0, 0, 0, 0, 0, 0⟩ : CutS)).step g.M (Int.ofNat i)).2 :: Row ba 3 0 true (g.ths.map fun t => iN t.1) :: Row bc kc 0 true (vcs.set i (ptr p 0)) :: Row br kr 0 true (vrs.set i nilp) :: ThrR (slc bx 0 calls.length cx) calls :: IntsR (slc b 0 picks.length c) picks :: R) H1 := Sat.close (L1 := [Own p (rcutC (((⟨cl.o, cl.fl, cl.st, 0, 0, 0, 0, 0, 0, 0, 0, 0⟩ : CutS)).step g.M (Int.ofNat i)).1 nx' xb), NumsR xb (((⟨cl.o, cl.fl, cl.st, 0, 0, 0, 0, 0, 0, 0, 0, 0⟩ : CutS)).step g.M (Int.ofNat i)).1.st]) (by rw [step_st]; exact h1.ent (by repeat (first | exact Ent.refl _ | exact Ent.none | apply Ent.cons (by repeat (first | exact Pull.here | apply Pull.there)) | refine Ent.drop ?_))) fun g a => ⟨p, nx', xb, rfl, rfl, hnx1, a⟩
                  refine hnx ?_
                  have hF := (h2).putAll hrl
                  rw [refs_set (by omega) (by omega) (by have := hcu.1; omega)] at hF
                  have hG : (g.ths.map fun t => iN t.1) = (g.ths.set i (a, true)).map fun t => iN t.1 := by rw [List.map_set]; exact (set_get_self eat).symm
                  rw [hG] at hF
                  have hcu' := cuOk_set (o' := true) (a' := a) (ss' := ss.set a ((PrS.cut ((⟨cl.o, cl.fl, cl.st, 0, 0, 0, 0, 0, 0, 0, 0, 0⟩ : CutS))).step g.M (Int.ofNat i)).1) (M' := ((PrS.cut ((⟨cl.o, cl.fl, cl.st, 0, 0, 0, 0, 0, 0, 0, 0, 0⟩ : CutS))).step g.M (Int.ofNat i)).2) hcu (show i < g.ths.length by omega) (show i < g.st.length by omega)
                  rw [if_pos rfl, List.getElem?_set_self (by omega)] at hcu'
                  exact k _ H1 (cu.set i (some ((PrS.cut ((⟨cl.o, cl.fl, cl.st, 0, 0, 0, 0, 0, 0, 0, 0, 0⟩ : CutS))).step g.M (Int.ofNat i)).1)) (vcs.set i (ptr p 0)) (vrs.set i (nilp)) e0 e1 e2 e6 e7 e8 rfl hcu' (by simp [hvc]) (by simp [hvr]) (hF.ent (by repeat (first | exact Ent.refl _ | exact Ent.none | apply Ent.cons (by repeat (first | exact Pull.here | apply Pull.there)) | refine Ent.drop ?_)))
              · refine Cd.f (decide_eq_false ek2) ?_
                have ef : cl.fresh = .past ⟨1, cl.o, cl.a, 0, 0, ⟨0, 0, 0, 0⟩⟩ := by unfold CallS.fresh; rw [if_neg ek, if_neg ek1, if_neg ek2]
                rw [ef] at hok k
                repeat (first | refine run ?_ | refine Cd.t rfl ?_ | refine Cd.f rfl ?_ | refine Cd.t (by decide +kernel) ?_ | refine Cd.f (by decide +kernel) ?_ | refine Sc.mk rfl ?_ | refine ld (by assumption) rfl ?_ | refine nw (by assumption) fun _ _ _ => ?_ | refine stB (by assumption) rfl rfl fun _ _ => ?_)
                refine ref9Begin_ok hc h57 fun p H60 h60 => ?_
                repeat (first | refine run ?_ | refine Cd.t rfl ?_ | refine Cd.f rfl ?_ | refine Cd.t (by decide +kernel) ?_ | refine Cd.f (by decide +kernel) ?_ | refine Sc.mk rfl ?_ | refine ld (by assumption) rfl ?_ | refine nw (by assumption) fun _ _ _ => ?_ | refine stB (by assumption) rfl rfl fun _ _ => ?_)
                refine Must.mk (ltN_t hin) (Sc.mk rfl (st h60 (by rw [off1]; omega) rfl fun H61 h61 => ?_))
                rw [off1] at h61
                have hY : Sat (Own p (pc0 2 cl.o cl.a 0 1).cells :: SatL ((refsL vcs vrs cu).set i Emp) :: RefP m g.M :: Row ba 3 0 true (g.ths.map fun t => iN t.1) :: Row bc kc 0 true (vcs.set i nilp) :: Row br kr 0 true (vrs.set i (ptr p 0)) :: ThrR (slc bx 0 calls.length cx) calls :: IntsR (slc b 0 picks.length c) picks :: R) H61 := by rw [hs1]; exact h61.ent (by repeat (first | exact Ent.refl _ | exact Ent.none | apply Ent.cons (by repeat (first | exact Pull.here | apply Pull.there)) | refine Ent.drop ?_))
                repeat (first | refine run ?_ | refine Cd.t rfl ?_ | refine Cd.f rfl ?_ | refine Cd.t (by decide +kernel) ?_ | refine Cd.f (by decide +kernel) ?_ | refine Sc.mk rfl ?_ | refine ld (by assumption) rfl ?_ | refine nw (by assumption) fun _ _ _ => ?_ | refine stB (by assumption) rfl rfl fun _ _ => ?_)
                refine Must.mk (ltN_t hin) (ld hY (row_get (hvc1 _)) ?_)
                repeat (first | refine run ?_ | refine Cd.t rfl ?_ | refine Cd.f rfl ?_ | refine Cd.t (by decide +kernel) ?_ | refine Cd.f (by decide +kernel) ?_ | refine Sc.mk rfl ?_ | refine ld (by assumption) rfl ?_ | refine nw (by assumption) fun _ _ _ => ?_ | refine stB (by assumption) rfl rfl fun _ _ => ?_)
                refine Must.mk (ltN_t hin) (ld hY (row_get (hvr1 _)) ?_)
                refine ref9Proc_ok (th := Int.ofNat i) hc (pc0 2 cl.o cl.a 0 1) (PrS.past ⟨1, cl.o, cl.a, 0, 0, ⟨0, 0, 0, 0⟩⟩) ⟨rfl, rfl⟩ hY (by repeat (first | exact Pull.here | apply Pull.there)) (by repeat (first | exact Pull.here | apply Pull.there)) htr hok (fun ho H1 h1 => ?_) (fun ho x' H1 hx' h1 => ?_)
                · refine AsBool.mk (Cd.t rfl ?_)
                  simp only [ho, if_true] at k
                  repeat (first | refine run ?_ | refine Cd.t rfl ?_ | refine Cd.f rfl ?_ | refine Cd.t (by decide +kernel) ?_ | refine Cd.f (by decide +kernel) ?_ | refine Sc.mk rfl ?_ | refine ld (by assumption) rfl ?_ | refine nw (by assumption) fun _ _ _ => ?_ | refine stB (by assumption) rfl rfl fun _ _ => ?_)
                  have hR1 : Sat (Row ba 3 0 true (g.ths.map fun t => iN t.1) :: Row bc kc 0 true (vcs.set i (nilp)) :: Row br kr 0 true (vrs.set i (ptr p 0)) :: SatL ((refsL vcs vrs cu).set i Emp) :: RefP m ((PrS.past ⟨1, cl.o, cl.a, 0, 0, ⟨0, 0, 0, 0⟩⟩).step g.M (Int.ofNat i)).2 :: ThrR (slc bx 0 calls.length cx) calls :: IntsR (slc b 0 picks.length c) picks :: R) H1 := Sat.ent h1 (by repeat (first | exact Ent.refl _ | exact Ent.none | apply Ent.cons (by repeat (first | exact Pull.here | apply Pull.there)) | refine Ent.drop ?_))
                  refine Must.mk (ltN_t hin) (st hR1 (by rw [off1]; simp [hvc]; omega) rfl fun HA hA => ?_)
                  rw [off1, List.set_set] at hA
                  repeat (first | refine run ?_ | refine Cd.t rfl ?_ | refine Cd.f rfl ?_ | refine Cd.t (by decide +kernel) ?_ | refine Cd.f (by decide +kernel) ?_ | refine Sc.mk rfl ?_ | refine ld (by assumption) rfl ?_ | refine nw (by assumption) fun _ _ _ => ?_ | refine stB (by assumption) rfl rfl fun _ _ => ?_)
                  refine Must.mk (ltN_t hin) (st hA (by rw [off1]; simp [hvr]; omega) rfl fun HB hB => ?_)
                  rw [off1, List.set_set] at hB
                  repeat (first | refine run ?_ | refine Cd.t rfl ?_ | refine Cd.f rfl ?_ | refine Cd.t (by decide +kernel) ?_ | refine Cd.f (by decide +kernel) ?_ | refine Sc.mk rfl ?_ | refine ld (by assumption) rfl ?_ | refine nw (by assumption) fun _ _ _ => ?_ | refine stB (by assumption) rfl rfl fun _ _ => ?_)
                  refine Must.mk (ltN_t hin) (ld hB (row_get eat) ?_)
                  repeat (first | refine run ?_ | refine Cd.t rfl ?_ | refine Cd.f rfl ?_ | refine Cd.t (by decide +kernel) ?_ | refine Cd.f (by decide +kernel) ?_ | refine Sc.mk rfl ?_ | refine ld (by assumption) rfl ?_ | refine nw (by assumption) fun _ _ _ => ?_ | refine stB (by assumption) rfl rfl fun _ _ => ?_)
                  rw [addInt]
                  refine inR_nat (by have := (hsh cs (List.mem_of_getElem? ec)).1; omega) ?_
                  repeat (first | refine run ?_ | refine Cd.t rfl ?_ | refine Cd.f rfl ?_ | refine Cd.t (by decide +kernel) ?_ | refine Cd.f (by decide +kernel) ?_ | refine Sc.mk rfl ?_ | refine ld (by assumption) rfl ?_ | refine nw (by assumption) fun _ _ _ => ?_ | refine stB (by assumption) rfl rfl fun _ _ => ?_)
                  refine Must.mk (ltN_t hin) (st hB (by rw [off1]; simp; omega) rfl fun HC hC => ?_)
                  rw [off1, show (g.ths.map fun t => iN t.1).set i (iN (a + 1)) = (g.ths.set i (a + 1, false)).map fun t => iN t.1 by rw [List.map_set]] at hC
                  repeat (first | refine run ?_ | refine Cd.t rfl ?_ | refine Cd.f rfl ?_ | refine Cd.t (by decide +kernel) ?_ | refine Cd.f (by decide +kernel) ?_ | refine Sc.mk rfl ?_ | refine ld (by assumption) rfl ?_ | refine nw (by assumption) fun _ _ _ => ?_ | refine stB (by assumption) rfl rfl fun _ _ => ?_)
                  refine hnx ?_
                  have hD := (hC.triv (A := RefTh nilp nilp none) fun _ => ⟨rfl, rfl⟩)
                  have hE : Sat (RefTh nilp nilp none :: SatL ((refsL vcs vrs cu).set i Emp) :: RefP m ((PrS.past ⟨1, cl.o, cl.a, 0, 0, ⟨0, 0, 0, 0⟩⟩).step g.M (Int.ofNat i)).2 :: Row ba 3 0 true ((g.ths.set i (a + 1, false)).map fun t => iN t.1) :: Row bc kc 0 true (vcs.set i nilp) :: Row br kr 0 true (vrs.set i nilp) :: ThrR (slc bx 0 calls.length cx) calls :: IntsR (slc b 0 picks.length c) picks :: R) HC := hD.ent (by repeat (first | exact Ent.refl _ | exact Ent.none | apply Ent.cons (by repeat (first | exact Pull.here | apply Pull.there)) | refine Ent.drop ?_))
                  have hF := hE.putAll hrl
                  rw [refs_set (by omega) (by omega) (by have := hcu.1; omega)] at hF
                  exact k _ HC (cu.set i none) (vcs.set i nilp) (vrs.set i nilp) e0 e1 e2 e6 e7 e8 rfl (cuOk_set (o' := false) hcu (by omega) (by omega)) (by simp [hvc]) (by simp [hvr]) (hF.ent (by repeat (first | exact Ent.refl _ | exact Ent.none | apply Ent.cons (by repeat (first | exact Pull.here | apply Pull.there)) | refine Ent.drop ?_)))
                · refine AsBool.mk (Cd.f rfl ?_)
                  simp only [ho, Bool.false_eq_true, if_false] at k
                  repeat (first | refine run ?_ | refine Cd.t rfl ?_ | refine Cd.f rfl ?_ | refine Cd.t (by decide +kernel) ?_ | refine Cd.f (by decide +kernel) ?_ | refine Sc.mk rfl ?_ | refine ld (by assumption) rfl ?_ | refine nw (by assumption) fun _ _ _ => ?_ | refine stB (by assumption) rfl rfl fun _ _ => ?_)
                  have h2 : Sat (RefTh nilp (ptr p 0) (some ((PrS.past ⟨1, cl.o, cl.a, 0, 0, ⟨0, 0, 0, 0⟩⟩).step g.M (Int.ofNat i)).1) :: SatL ((refsL vcs vrs cu).set i Emp) :: RefP m ((PrS.past ⟨1, cl.o, cl.a, 0, 0, ⟨0, 0, 0, 0⟩⟩).step g.M (Int.ofNat i)).2 :: Row ba 3 0 true (g.ths.map fun t => iN t.1) :: Row bc kc 0 true (vcs.set i nilp) :: Row br kr 0 true (vrs.set i (ptr p 0)) :: ThrR (slc bx 0 calls.length cx) calls :: IntsR (slc b 0 picks.length c) picks :: R) H1 := Sat.close (L1 := [Own p x'.cells]) (h1.ent (by repeat (first | exact Ent.refl _ | exact Ent.none | apply Ent.cons (by repeat (first | exact Pull.here | apply Pull.there)) | refine Ent.drop ?_))) fun g a => ⟨p, x', rfl, rfl, hx', a.head fun _ a s => Own.mono a s⟩
                  refine hnx ?_
                  have hF := (h2).putAll hrl
                  rw [refs_set (by omega) (by omega) (by have := hcu.1; omega)] at hF
                  have hG : (g.ths.map fun t => iN t.1) = (g.ths.set i (a, true)).map fun t => iN t.1 := by rw [List.map_set]; exact (set_get_self eat).symm
                  rw [hG] at hF
                  have hcu' := cuOk_set (o' := true) (a' := a) (ss' := ss.set a ((PrS.past ⟨1, cl.o, cl.a, 0, 0, ⟨0, 0, 0, 0⟩⟩).step g.M (Int.ofNat i)).1) (M' := ((PrS.past ⟨1, cl.o, cl.a, 0, 0, ⟨0, 0, 0, 0⟩⟩).step g.M (Int.ofNat i)).2) hcu (show i < g.ths.length by omega) (show i < g.st.length by omega)
                  rw [if_pos rfl, List.getElem?_set_self (by omega)] at hcu'
                  exact k _ H1 (cu.set i (some ((PrS.past ⟨1, cl.o, cl.a, 0, 0, ⟨0, 0, 0, 0⟩⟩).step g.M (Int.ofNat i)).1)) (vcs.set i (nilp)) (vrs.set i (ptr p 0)) e0 e1 e2 e6 e7 e8 rfl hcu' (by simp [hvc]) (by simp [hvr]) (hF.ent (by repeat (first | exact Ent.refl _ | exact Ent.none | apply Ent.cons (by repeat (first | exact Pull.here | apply Pull.there)) | refine Ent.drop ?_)))
      · refine Cd.t (leZ_t (by omega)) ?_
        repeat (first | refine run ?_ | refine Cd.t rfl ?_ | refine Cd.f rfl ?_ | refine Cd.t (by decide +kernel) ?_ | refine Cd.f (by decide +kernel) ?_ | refine Sc.mk rfl ?_ | refine ld (by assumption) rfl ?_ | refine nw (by assumption) fun _ _ _ => ?_ | refine stB (by assumption) rfl rfl fun _ _ => ?_)
        refine hnx ?_
        exact idle _ (by simp only [G.pick, et1, et2, List.getElem?_eq_none (show ss.length ≤ a by omega)]) e0 e1 e2 e6 e7 e8 rfl
    · obtain ⟨px, cx, ex⟩ := (hs.has (Has.skip (Has.skip (Has.skip (Has.skip (Has.skip (Has.here fun a t => ThrR.mono a t))))))).len
      rw [ex]
      repeat (first | refine run ?_ | refine Cd.t rfl ?_ | refine Cd.f rfl ?_ | refine Cd.t (by decide +kernel) ?_ | refine Cd.f (by decide +kernel) ?_ | refine Sc.mk rfl ?_ | refine ld (by assumption) rfl ?_ | refine nw (by assumption) fun _ _ _ => ?_ | refine stB (by assumption) rfl rfl fun _ _ => ?_)
      refine Cd.t (leZ_t (by omega)) ?_
      repeat (first | refine run ?_ | refine Cd.t rfl ?_ | refine Cd.f rfl ?_ | refine Cd.t (by decide +kernel) ?_ | refine Cd.f (by decide +kernel) ?_ | refine Sc.mk rfl ?_ | refine ld (by assumption) rfl ?_ | refine nw (by assumption) fun _ _ _ => ?_ | refine stB (by assumption) rfl rfl fun _ _ => ?_)
      refine hnx ?_
      exact idle _ (by simp only [G.pick, List.getElem?_eq_none (show g.ths.length ≤ i by omega)]) e0 e1 e2 e6 e7 e8 rfl
end Go.Proofs.YtipbbnoepphdkaaGreat

set_option linter.unusedVariables false
set_option linter.unusedSimpArgs false
namespace Go.Proofs.YtipbbnoepphdkaaGreat
open Go Go.CM
theorem all_triv : ∀ {l : List HP} {h : PH}, (∀ A ∈ l, ∀ g, A g) → SatL l h
  | [], _, _ => trivial
  | A :: l, h, hl => ⟨fun _ => none, fun _ => none, (fun _ _ e => nomatch e), (fun _ _ e => nomatch e), (fun _ _ _ e => nomatch e), hl A (List.mem_cons_self ..) _, all_triv fun B hB => hl B (List.mem_cons_of_mem _ hB)⟩

attribute [local irreducible] AsBool AsWant AsNat AsInt AsCnt AsPtr AsSlc AsLen AsStr AsAgg AsTup AsFn AsIfc Nth Sc NotNil IsNil Must Cd codeW funW Sat SatL wrapN subM mkRow ltZ leZ ltN leN
variable {con : CallT}

/-- The type of a slice's elements. -/
def elT (P : Program) (t : Nat) : Nat := match P.underlying t with | some (.slice e) => e | _ => 0
theorem el_cuts : elemOk Tryz.prog 180 (elT Tryz.prog 180) 1 8 = true := by kernel_rfl
theorem el_rests : elemOk Tryz.prog 181 (elT Tryz.prog 181) 1 8 = true := by kernel_rfl
theorem zero_cuts : (zeroOf Tryz.prog (elT Tryz.prog 180)).map cellsF = some [nilp] := by kernel_rfl
theorem zero_rests : (zeroOf Tryz.prog (elT Tryz.prog 181)).map cellsF = some [nilp] := by kernel_rfl
theorem zero_int : (zeroOf Tryz.prog 3).map cellsF = some [iN 0] := by kernel_rfl
theorem rep_v (n : Nat) (v : Value) : (List.replicate n [v]).flatten = List.replicate n v := by
  induction n with
  | zero => rfl
  | succ n ih => rw [List.replicate_succ, List.replicate_succ, List.flatten_cons, ih]; rfl

theorem refs_zero (n : Nat) (h : PH) : SatL (refsL (List.replicate n nilp) (List.replicate n nilp) (List.replicate n none)) h := by
  refine all_triv fun A hA g => ?_
  have e : refsL (List.replicate n nilp) (List.replicate n nilp) (List.replicate n none) = List.replicate n (RefTh nilp nilp none) := by unfold refsL; rw [List.zipWith_replicate', List.zipWith_replicate']
  rw [e] at hA
  rw [List.eq_of_mem_replicate hA]
  exact ⟨rfl, rfl⟩

theorem cuOk0 (M : Mem) (calls : List (List CallS)) : CuOk (g0 M calls) (List.replicate calls.length none) := by
  refine ⟨by simp [g0], fun i a o ss h1 h2 => ?_⟩
  simp only [g0, List.getElem?_replicate] at h1
  split at h1
  · rename_i h; cases h1; rw [List.getElem?_replicate, if_pos h]; rfl
  · cases h1

theorem law15Play_ok (hc : Con con lives) {calls : List (List CallS)} (hsh : Short calls) {M : Mem} {R : List HP} {H : CH} {m : Nat} {xv xw : Value} {picks : List Int} {K : KP}
    (hn2 : calls.length ≤ 64) (hpk : picks.length < 100000000) (htr : M.tr.length ≤ 10)
    (hs : Sat (RefP m M :: ThrR xv calls :: IntsR xw picks :: R) H)
    (k : ∀ H1, Sat (RefP m (gAt (g0 M calls) picks picks.length).M :: R) H1 → K unit H1) : Call1 Tryz.prog con 17 [ptr m 0, xv, xw] H K := by
  refine call_of (hc _ _ _ rfl) ?_
  rw [law15Play_W]
  obtain ⟨px, cx, ex⟩ := (hs.has (Has.skip (Has.here fun a t => ThrR.mono a t))).len
  have eL : ∀ {K : Nat → Prop}, K calls.length → AsLen xv K := fun {K} h => by rw [ex]; exact AsLen.mk h
  refine eL (mkS hs el_int zero_int (Nat.le_refl _) (by omega) (by omega) fun ba H1 h1 => eL (mkS h1 el_cuts zero_cuts (Nat.le_refl _) (by omega) (by omega) fun bc H2 h2 => eL (mkS h2 el_rests zero_rests (Nat.le_refl _) (by omega) (by omega) fun br H3 h3 => ?_)))
  simp only [rep_v] at h3
  clear h1 h2
  refine LoopC.indP (n := 200) (id := 0) (fun σ H => Sat (RefP m (gAt (g0 M calls) picks picks.length).M :: R) H) (by kernel_rfl)
    (fun (j : Nat) σ H => σ 0 = ptr m 0 ∧ σ 1 = xv ∧ σ 2 = xw ∧ σ 6 = slc ba 0 calls.length calls.length ∧ σ 7 = slc bc 0 calls.length calls.length ∧ σ 8 = slc br 0 calls.length calls.length ∧ σ 9 = iN j ∧ j ≤ picks.length ∧
      ∃ cu vcs vrs, CuOk (gAt (g0 M calls) picks j) cu ∧ vcs.length = calls.length ∧ vrs.length = calls.length ∧
      Sat (RefP m (gAt (g0 M calls) picks j).M :: Row ba 3 0 true ((gAt (g0 M calls) picks j).ths.map fun t => iN t.1) :: Row bc (elT Tryz.prog 180) 0 true vcs :: Row br (elT Tryz.prog 181) 0 true vrs :: SatL (refsL vcs vrs cu) :: ThrR xv calls :: IntsR xw picks :: R) H) (fun j => picks.length - j) (fun j σ H hI => ?_) (fun σ H hP => ?_) 0 _ _
    ⟨rfl, rfl, rfl, rfl, rfl, rfl, rfl, Nat.zero_le _, List.replicate calls.length none, List.replicate calls.length nilp, List.replicate calls.length nilp, cuOk0 M calls, by simp, by simp, ?_⟩
  · obtain ⟨e0, e1, e2, e6, e7, e8, e9, hj, cu, vcs, vrs, hcu, hvc, hvr, hs1⟩ := hI
    by_cases hlt : j < picks.length
    · obtain ⟨t, et⟩ : ∃ x, picks[j]? = some x := ⟨_, List.getElem?_eq_getElem hlt⟩
      refine play_pick hc hsh (gAt_good hsh (good0 M hsh) picks j) hcu rfl hn2 hvc hvr hlt hpk et (by have := gAt_tr (g := g0 M calls) picks j; simp only [g0] at this ⊢; omega) hs1 e0 e1 e2 e6 e7 e8 e9 fun σ1 H1 cu' vcs' vrs' a0 a1 a2 a6 a7 a8 a9 hcu' hvc' hvr' h1 => ?_
      rw [← gAt_succ et] at hcu' h1
      show ∃ y, _ ∧ _
      exact ⟨j + 1, by omega, a0, a1, a2, a6, a7, a8, a9, hlt, cu', vcs', vrs', hcu', hvc', hvr', h1⟩
    · have : j = picks.length := by omega
      subst this
      obtain ⟨p, c, ep⟩ := (hs1.has (Has.skip (Has.skip (Has.skip (Has.skip (Has.skip (Has.skip (Has.here fun a t => IntsR.mono a t)))))))).len
      rw [law15PlayL_W, e2, e9, ep]
      repeat (first | refine run ?_ | refine Cd.t rfl ?_ | refine Cd.f rfl ?_ | refine Cd.t (by decide +kernel) ?_ | refine Cd.f (by decide +kernel) ?_ | refine Sc.mk rfl ?_ | refine ld (by assumption) rfl ?_ | refine nw (by assumption) fun _ _ _ => ?_ | refine stB (by assumption) rfl rfl fun _ _ => ?_)
      refine Cd.f (ltZ_f (Nat.le_refl _)) ?_
      show _ = _ ∧ _
      exact ⟨rfl, hs1.ent (by repeat (first | exact Ent.refl _ | exact Ent.none | apply Ent.cons (by repeat (first | exact Pull.here | apply Pull.there)) | refine Ent.drop ?_))⟩
  · show Cd _ _ _
    refine Cd.t (eqN_self 0) ?_
    exact k _ hP
  · have h4 := h3.triv (A := SatL (refsL (List.replicate calls.length nilp) (List.replicate calls.length nilp) (List.replicate calls.length none))) (fun g => refs_zero _ g)
    have e : ((gAt (g0 M calls) picks 0).ths.map fun t => iN t.1) = List.replicate calls.length (iN 0) := by
      show ((List.replicate calls.length (0, false)).map fun t => iN t.1) = _
      rw [List.map_replicate]
    rw [e]
    exact h4.ent (by repeat (first | exact Ent.refl _ | exact Ent.none | apply Ent.cons (by repeat (first | exact Pull.here | apply Pull.there)) | refine Ent.drop ?_))
end Go.Proofs.YtipbbnoepphdkaaGreat

set_option linter.unusedVariables false
set_option linter.unusedSimpArgs false
namespace Go.Proofs.YtipbbnoepphdkaaGreat
open Go Go.CM
attribute [local irreducible] AsBool AsWant AsNat AsInt AsCnt AsPtr AsSlc AsLen AsStr AsAgg AsTup AsFn AsIfc Nth Sc NotNil IsNil Must Cd codeW funW Sat SatL wrapN subM mkRow ltZ leZ ltN leN
variable {con : CallT}

theorem el_pss : elemOk Tryz.prog 38 39 1 24 = true := by kernel_rfl
theorem sl_pss : ∃ e, Tryz.prog.underlying 38 = some (.slice e) := ⟨39, by kernel_rfl⟩

theorem AsLen.of {v : Value} {p : Option Addr} {l c : Nat} {K : Nat → Prop} (e : v = .slice p l c) (h : K l) : AsLen v K := by rw [e]; exact AsLen.mk h
theorem IsNil.slcOf {v : Value} {p : Option Addr} {l c : Nat} {K : Bool → Prop} (e : v = .slice p l c) (h : K p.isNone) : IsNil .slc v K := by
  subst e
  cases p with
  | none => exact IsNil.slc0 h
  | some a => exact IsNil.slc h

def longC (calls : List (List CallS)) : Bool := calls.any fun l => decide (4096 < l.length)
theorem law15Long_ok (hc : Con con lives) {L : List HP} {H : CH} {xv : Value} {calls : List (List CallS)} {K : KP} (hs : Sat L H) (hq : Has L (ThrR xv calls)) (hl : calls.length ≤ 1000000000) (k : K (.bool (longC calls)) H) : Call1 Tryz.prog con 15 [xv] H K := by
  refine call_of (hc _ _ _ rfl) ?_
  rw [law15Long_W]
  obtain ⟨px, cx, ex⟩ := (hs.has hq).len
  refine LoopC.indP (n := 100) (id := 0) (fun σ H1 => H1 = H ∧ longC calls = false) (by kernel_rfl) (fun (i : Nat) σ H1 => σ 0 = xv ∧ σ 3 = iN i ∧ i ≤ calls.length ∧ (calls.take i).any (fun l => decide (4096 < l.length)) = false ∧ H1 = H) (fun i => calls.length - i) (fun i σ H1 hI => ?_) (fun σ H1 hP => ?_) 0 _ _ ⟨rfl, rfl, Nat.zero_le _, rfl, rfl⟩
  · obtain ⟨e0, e3, hi, hno, rfl⟩ := hI
    rw [law15LongL_W]
    simp only [e0, e3, ex]
    repeat (first | refine run ?_ | refine Cd.t rfl ?_ | refine Cd.f rfl ?_ | refine Cd.t (by decide +kernel) ?_ | refine Cd.f (by decide +kernel) ?_ | refine Sc.mk rfl ?_ | refine ld (by assumption) rfl ?_ | refine nw (by assumption) fun _ _ _ => ?_ | refine stB (by assumption) rfl rfl fun _ _ => ?_)
    by_cases hlt : i < calls.length
    · refine Cd.t (ltZ_t hlt) ?_
      obtain ⟨l, el⟩ : ∃ x, calls[i]? = some x := ⟨_, List.getElem?_eq_getElem hlt⟩
      obtain ⟨b, c, cs, eb, _, ⟨xl, ecs, hl'⟩, hld⟩ := rows_at hs hq el
      rw [ex] at eb
      injection eb with eb1 _ _
      subst eb1
      obtain ⟨pl, cl, exl⟩ := RowsR.len hl'
      repeat (first | refine run ?_ | refine Cd.t rfl ?_ | refine Cd.f rfl ?_ | refine Cd.t (by decide +kernel) ?_ | refine Cd.f (by decide +kernel) ?_ | refine Sc.mk rfl ?_ | refine ld (by assumption) rfl ?_ | refine nw (by assumption) fun _ _ _ => ?_ | refine stB (by assumption) rfl rfl fun _ _ => ?_)
      refine Must.mk (ltN_t hlt) (hld _ 0 _ _ (by show 0 + i * 1 = _; omega) (by rw [ecs]; rfl) ?_)
      rw [exl]
      repeat (first | refine run ?_ | refine Cd.t rfl ?_ | refine Cd.f rfl ?_ | refine Cd.t (by decide +kernel) ?_ | refine Cd.f (by decide +kernel) ?_ | refine Sc.mk rfl ?_ | refine ld (by assumption) rfl ?_ | refine nw (by assumption) fun _ _ _ => ?_ | refine stB (by assumption) rfl rfl fun _ _ => ?_)
      refine Cd.of (fun h => ?_) (fun h => ?_)
      · have : longC calls = true := List.any_eq_true.2 ⟨l, List.mem_of_getElem? el, decide_eq_true (ltZ_e h)⟩
        rw [this] at k
        exact k
      · repeat (first | refine run ?_ | refine Cd.t rfl ?_ | refine Cd.f rfl ?_ | refine Cd.t (by decide +kernel) ?_ | refine Cd.f (by decide +kernel) ?_ | refine Sc.mk rfl ?_ | refine ld (by assumption) rfl ?_ | refine nw (by assumption) fun _ _ _ => ?_ | refine stB (by assumption) rfl rfl fun _ _ => ?_)
        rw [addInt]
        refine inR_nat (by omega) ?_
        show ∃ y, _ ∧ _
        refine ⟨i + 1, by omega, e0.trans (by rw [ex]), rfl, hlt, ?_, rfl⟩
        rw [List.take_add_one, el, List.any_append, hno]
        simp only [Option.toList_some, List.any_cons, List.any_nil, Bool.or_false, Bool.false_or]
        exact decide_eq_false (by have := ltZ_n h; omega)
    · refine Cd.f (ltZ_f (by omega)) ?_
      show _ = _ ∧ _
      rw [List.take_of_length_le (by omega)] at hno
      exact ⟨rfl, rfl, hno⟩
  · obtain ⟨rfl, hno⟩ := hP
    show Cd _ _ _
    refine Cd.t (eqN_self 0) ?_
    rw [hno] at k
    exact k

def stOf (calls : List (List CallS)) : List (List PrS) := calls.map fun cs => cs.map CallS.fresh
theorem objs_snoc {prs : List (List Value)} {st : List (List PrS)} {l : List Value} {ss : List PrS} (h : prs.length = st.length) : objsL (prs ++ [l]) (st ++ [ss]) = objsL prs st ++ [SatL (List.zipWith PrcAt l ss)] := by
  unfold objsL; rw [List.zipWith_append h]; rfl

theorem cutPlaysB_ok (hc : Con con lives) {calls : List (List CallS)} {R : List HP} {H : CH} {i : Nat} {cs : List CallS} {xv : Value} {σ : TF} {Q : KX} (hcl : calls.length ≤ 1000000000) (hl : cs.length ≤ 1000000000) (hst : ∀ c ∈ cs, c.st.length ≤ 1000000000) (ec : calls[i]? = some cs) (hR : Has R (ThrR xv calls)) (hs : Sat R H)
    (e0 : σ 0 = xv) (e10 : σ 10 = iN i) (e11 : σ 11 = snil) (e12 : σ 12 = iN 0)
    (k : ∀ σ1 H1 v l, σ1 0 = xv → σ1 1 = σ 1 → σ1 5 = σ 5 → σ1 7 = σ 7 → σ1 9 = σ 9 → σ1 10 = iN i → σ1 11 = v → l.length = cs.length → l.all isCell = true → Sat (Vec v 42 1 (l.map fun x => [x]) :: SatL (List.zipWith PrcAt l (cs.map CallS.fresh)) :: R) H1 → Q (.exit 2) σ1 H1) :
    LoopC Tryz.prog con (lpAt Tryz.prog 3 1) σ H Q := by
  refine LoopC.indP (n := 200) (id := 2) (fun σ1 H1 => ∃ v l, σ1 0 = xv ∧ σ1 1 = σ 1 ∧ σ1 5 = σ 5 ∧ σ1 7 = σ 7 ∧ σ1 9 = σ 9 ∧ σ1 10 = iN i ∧ σ1 11 = v ∧ l.length = cs.length ∧ l.all isCell = true ∧ Sat (Vec v 42 1 (l.map fun x => [x]) :: SatL (List.zipWith PrcAt l (cs.map CallS.fresh)) :: R) H1) (by kernel_rfl)
    (fun (j : Nat) σ1 H1 => j ≤ cs.length ∧ σ1 12 = iN j ∧ ∃ v l, σ1 0 = xv ∧ σ1 1 = σ 1 ∧ σ1 5 = σ 5 ∧ σ1 7 = σ 7 ∧ σ1 9 = σ 9 ∧ σ1 10 = iN i ∧ σ1 11 = v ∧ l.length = j ∧ l.all isCell = true ∧ Sat (Vec v 42 1 (l.map fun x => [x]) :: SatL (List.zipWith PrcAt l ((cs.take j).map CallS.fresh)) :: R) H1)
    (fun j => cs.length - j) (fun j σ1 H1 hI => ?_) (fun σ1 H1 hP => ?_) 0 _ _ ⟨Nat.zero_le _, e12, snil, [], e0, rfl, rfl, rfl, rfl, e10, e11, rfl, rfl, (Sat.none hs).nilV.ent (by repeat (first | exact Ent.refl _ | exact Ent.none | apply Ent.cons (by repeat (first | exact Pull.here | apply Pull.there)) | refine Ent.drop ?_))⟩
  · obtain ⟨hj, a12, v, l, a0, a1, a5, a7, a9, a10, a11, hll, hcell, hs1⟩ := hI
    rw [cutPlaysB_W]
    simp only [a0, a10, a12, a11]
    have hR1 : Has (Vec v 42 1 (l.map fun x => [x]) :: SatL (List.zipWith PrcAt l ((cs.take j).map CallS.fresh)) :: R) (ThrR xv calls) := Has.skip (Has.skip hR)
    obtain ⟨b, c, cs1, rfl, _, ⟨xl, ecs, hcl'⟩, hld⟩ := rows_at hs1 hR1 ec
    have hi : i < calls.length := (List.getElem?_eq_some_iff.1 ec).1
    obtain ⟨pl, cl', exl⟩ := RowsR.len hcl'
    repeat (first | refine run ?_ | refine Cd.t rfl ?_ | refine Cd.f rfl ?_ | refine Cd.t (by decide +kernel) ?_ | refine Cd.f (by decide +kernel) ?_ | refine Sc.mk rfl ?_ | refine ld (by assumption) rfl ?_ | refine nw (by assumption) fun _ _ _ => ?_ | refine stB (by assumption) rfl rfl fun _ _ => ?_)
    refine Must.mk (ltN_t hi) (hld _ 0 _ _ (by show 0 + i * 1 = _; omega) (by rw [ecs]; rfl) ?_)
    refine AsLen.of exl ?_
    repeat (first | refine run ?_ | refine Cd.t rfl ?_ | refine Cd.f rfl ?_ | refine Cd.t (by decide +kernel) ?_ | refine Cd.f (by decide +kernel) ?_ | refine Sc.mk rfl ?_ | refine ld (by assumption) rfl ?_ | refine nw (by assumption) fun _ _ _ => ?_ | refine stB (by assumption) rfl rfl fun _ _ => ?_)
    by_cases hlt : j < cs.length
    · refine Cd.t (ltZ_t hlt) ?_
      obtain ⟨cl, ecl⟩ : ∃ x, cs[j]? = some x := ⟨_, List.getElem?_eq_getElem hlt⟩
      repeat (first | refine run ?_ | refine Cd.t rfl ?_ | refine Cd.f rfl ?_ | refine Cd.t (by decide +kernel) ?_ | refine Cd.f (by decide +kernel) ?_ | refine Sc.mk rfl ?_ | refine ld (by assumption) rfl ?_ | refine nw (by assumption) fun _ _ _ => ?_ | refine stB (by assumption) rfl rfl fun _ _ => ?_)
      refine Must.mk (ltN_t hi) (hld _ 0 _ _ (by show 0 + i * 1 = _; omega) (by rw [ecs]; rfl) ?_)
      obtain ⟨bi, ci', cc, rfl, _, ⟨xb, rfl, hnum⟩, hldc⟩ := rows_at' hcl' ecl
      repeat (first | refine run ?_ | refine Cd.t rfl ?_ | refine Cd.f rfl ?_ | refine Cd.t (by decide +kernel) ?_ | refine Cd.f (by decide +kernel) ?_ | refine Sc.mk rfl ?_ | refine ld (by assumption) rfl ?_ | refine nw (by assumption) fun _ _ _ => ?_ | refine stB (by assumption) rfl rfl fun _ _ => ?_)
      refine Must.mk (ltN_t hlt) ?_
      refine hldc _ 0 _ _ (by show 0 + j * 6 + 0 = _; omega) rfl ?_
      refine hldc _ 1 _ _ (by show 0 + j * 6 + 1 = _; omega) rfl ?_
      refine hldc _ 2 _ _ (by show 0 + j * 6 + 2 = _; omega) rfl ?_
      refine hldc _ 3 _ _ (by show 0 + j * 6 + 3 = _; omega) rfl ?_
      refine hldc _ 4 _ _ (by show 0 + j * 6 + 4 = _; omega) rfl ?_
      refine hldc _ 5 _ _ (by show 0 + j * 6 + 5 = _; omega) rfl ?_
      have hd := Sat.dup' hs1 hnum NumsR.ro
      refine law15Begin_ok hc cl hd (fun g a => (Has.here (A := NumsR xb cl.st) (fun a t => NumsR.mono a t) g a).nums) (hst cl (List.mem_of_getElem? ecl)) fun v' H2 h2 => ?_
      have hv' : IfcOk v' := (h2.has (Has.here fun a t => prc_mono a t)).ifc
      refine Sc.mk hv'.cell (nw h2 fun p28 H3 h3 => ?_)
      refine app_vec (new := [[v']]) h3 (by repeat (first | exact Pull.here | apply Pull.there)) el_pr (by omega) sl_pr (Src.cell (n := 1) (by rfl)) rfl (by simp) (by simp; omega) (by simp [hv'.cell]) fun v2 H4 h4 => ?_
      repeat (first | refine run ?_ | refine Cd.t rfl ?_ | refine Cd.f rfl ?_ | refine Cd.t (by decide +kernel) ?_ | refine Cd.f (by decide +kernel) ?_ | refine Sc.mk rfl ?_ | refine ld (by assumption) rfl ?_ | refine nw (by assumption) fun _ _ _ => ?_ | refine stB (by assumption) rfl rfl fun _ _ => ?_)
      rw [addInt]
      refine inR_nat (by omega) ?_
      show ∃ y, _ ∧ _
      refine ⟨j + 1, by omega, hlt, rfl, v2, l ++ [v'], a0, a1, a5, a7, a9, a10, rfl, by simp [hll], by simp [hcell, hv'.cell], ?_⟩
      have e1 : (l.map fun x => [x]) ++ [[v']] = (l ++ [v']).map fun x => [x] := by simp
      have e2 : List.zipWith PrcAt l ((cs.take j).map CallS.fresh) ++ [PrcAt v' cl.fresh] = List.zipWith PrcAt (l ++ [v']) ((cs.take (j + 1)).map CallS.fresh) := by
        rw [List.take_add_one, ecl]
        simp only [Option.toList_some, List.map_append, List.map_cons, List.map_nil]
        rw [List.zipWith_append (by simp; omega)]; rfl
      rw [e1] at h4
      have h5 : Sat (PrcAt v' cl.fresh :: SatL (List.zipWith PrcAt l ((cs.take j).map CallS.fresh)) :: Vec v2 42 1 ((l ++ [v']).map fun x => [x]) :: R) H4 := h4.ent (by repeat (first | exact Ent.refl _ | exact Ent.none | apply Ent.cons (by repeat (first | exact Pull.here | apply Pull.there)) | refine Ent.drop ?_))
      have h6 := h5.snoc
      rw [e2] at h6
      exact h6.ent (by repeat (first | exact Ent.refl _ | exact Ent.none | apply Ent.cons (by repeat (first | exact Pull.here | apply Pull.there)) | refine Ent.drop ?_))
    · refine Cd.f (ltZ_f (by omega)) ?_
      show _ = _ ∧ _
      have : j = cs.length := by omega
      subst this
      rw [List.take_of_length_le (Nat.le_refl _)] at hs1
      exact ⟨rfl, v, l, a0, a1, a5, a7, a9, a10, a11, hll, hcell, hs1⟩
  · obtain ⟨v, l, a0, a1, a5, a7, a9, a10, a11, hll, hcell, hs1⟩ := hP
    exact k σ1 H1 v l a0 a1 a5 a7 a9 a10 a11 hll hcell hs1
end Go.Proofs.YtipbbnoepphdkaaGreat

set_option linter.unusedVariables false
set_option linter.unusedSimpArgs false
namespace Go.Proofs.YtipbbnoepphdkaaGreat
open Go Go.CM
attribute [local irreducible] AsBool AsWant AsNat AsInt AsCnt AsPtr AsSlc AsLen AsStr AsAgg AsTup AsFn AsIfc Nth Sc NotNil IsNil Must Cd codeW funW Sat SatL wrapN subM mkRow ltZ leZ ltN leN
variable {con : CallT}

theorem room3 {n : Nat} (h : 128 ≤ n) : (mem0 n).room [1, 0, 0] = 1 := by
  unfold Mem.room mem0
  rw [if_pos]
  simp
  omega

theorem cutPlays_ok (hc : Con con lives) (hlive : ∀ H, con 8 ⟨[]⟩ H = some (.bool true, H)) {R : List HP} {H : CH} {xv xw : Value} {threads : List (List CallS)} {picks : List Int}
    (hs : Sat (ThrR xv threads :: IntsR xw picks :: R) H) (hl1 : threads.length ≤ 10000000) (hl2 : ∀ cs ∈ threads, cs.length ≤ 10000000 ∧ ∀ c ∈ cs, c.st.length ≤ 1000000000) (hl3 : picks.length < 100000000) :
    Call1 Tryz.prog con 3 [xv, xw] H (fun v _ => v = .bool true) := by
  refine call_of (hc _ _ _ rfl) ?_
  rw [cutPlays_W]
  refine arenaNew_ok hc hs (by omega) (by omega) fun m H2 g2 => ?_
  refine AsTup.mk (Nth.mk rfl (AsTup.mk (Nth.mk rfl (call_con (hlive _) (AsBool.mk (Cd.f rfl (AsInt.mk (Cd.f rfl ?_))))))))
  refine refNew_ok hc g2 (by omega) (by omega) fun r H3 g3 => ?_
  refine AsTup.mk (Nth.mk rfl (AsTup.mk (Nth.mk rfl ?_)))
  refine memView_ok hc g3 fun q H4 g4 => ?_
  refine nw g4 fun p1 H5 g5 => ?_
  refine viewAlloc_ok (vals := [1, 0, 0]) hc g5 (by repeat (first | exact Pull.here | apply Pull.there)) (by repeat (first | exact Pull.here | apply Pull.there)) (Has.own3 (l := [1, 0, 0])) (by simp) (by omega) (by show 0 < _; omega) fun H6 g6 => ?_
  refine nw g6 fun p2 H7 g7 => ?_
  refine refAlloc_ok (vals := [1, 0, 0]) hc g7 (by repeat (first | exact Pull.here | apply Pull.there)) (Has.own3 (l := [1, 0, 0])) (by simp) (by show 0 < _; omega) fun H8 g8 => ?_
  have hM : ∀ th, (mem0 4096).alloc th [1, 0, 0] = (mem0 4096).alloc th [1, 0, 0] := fun _ => rfl
  generalize hM1 : (mem0 4096).alloc (Int.negSucc 0) [1, 0, 0] = M1 at g6 g7 g8
  have g9 : Sat (MemP m M1 :: RefP r M1 :: ThrR xv threads :: IntsR xw picks :: R) H8 := g8.ent (by repeat (first | exact Ent.refl _ | exact Ent.none | apply Ent.cons (by repeat (first | exact Pull.here | apply Pull.there)) | refine Ent.drop ?_))
  have tr1 : M1.tr.length ≤ 10 := by rw [← hM1, alloc_tr]; show 0 + 1 ≤ 10; omega
  have calm1 : CalmV M1 := by
    rw [← hM1]
    refine CalmV.alloc ?_ (by simp)
    exact fun a ha => nomatch ha
  clear g2 g3 g4 g5 g6 g7 g8 hM
  obtain ⟨pxv, cxv, exv⟩ := (g9.has (Has.skip (Has.skip (Has.here fun a t => ThrR.mono a t)))).len
  refine LoopC.indP (n := 200) (id := 0) (fun σ H => σ 0 = xv ∧ σ 1 = xw ∧ σ 5 = ptr m 0 ∧ σ 7 = ptr r 0 ∧ ∃ ts lvs prs, σ 9 = ts ∧ prs.map List.length = threads.map List.length ∧ lvs.length = prs.length ∧ (∀ l ∈ prs, l.all isCell = true) ∧
      Sat (Vec ts 39 1 (lvs.map fun x => [x]) :: SatL (procsL lvs prs) :: SatL (objsL prs (stOf threads)) :: MemP m M1 :: RefP r M1 :: ThrR xv threads :: IntsR xw picks :: R) H) (by kernel_rfl)
    (fun (i : Nat) σ H => σ 0 = xv ∧ σ 1 = xw ∧ σ 5 = ptr m 0 ∧ σ 7 = ptr r 0 ∧ σ 10 = iN i ∧ i ≤ threads.length ∧ ∃ ts lvs prs, σ 9 = ts ∧ prs.map List.length = (threads.take i).map List.length ∧ lvs.length = prs.length ∧ (∀ l ∈ prs, l.all isCell = true) ∧
      Sat (Vec ts 39 1 (lvs.map fun x => [x]) :: SatL (procsL lvs prs) :: SatL (objsL prs (stOf (threads.take i))) :: MemP m M1 :: RefP r M1 :: ThrR xv threads :: IntsR xw picks :: R) H)
    (fun i => threads.length - i) (fun i σ H hI => ?_) (fun σ H hP => ?_) 0 _ _ ⟨rfl, rfl, rfl, rfl, rfl, Nat.zero_le _, snil, [], [], rfl, rfl, rfl, (fun l hl => nomatch hl), (Sat.none (Sat.none g9)).nilV.ent (by repeat (first | exact Ent.refl _ | exact Ent.none | apply Ent.cons (by repeat (first | exact Pull.here | apply Pull.there)) | refine Ent.drop ?_))⟩
  · obtain ⟨e0, e1, e5, e7, e10, hi, ts, lvs, prs, e9, hpl, hll, hcell, hs1⟩ := hI
    rw [cutPlaysA_W]
    simp only [e10]
    refine AsLen.of (e0.trans exv) ?_
    repeat (first | refine run ?_ | refine Cd.t rfl ?_ | refine Cd.f rfl ?_ | refine Cd.t (by decide +kernel) ?_ | refine Cd.f (by decide +kernel) ?_ | refine Sc.mk rfl ?_ | refine ld (by assumption) rfl ?_ | refine nw (by assumption) fun _ _ _ => ?_ | refine stB (by assumption) rfl rfl fun _ _ => ?_)
    by_cases hlt : i < threads.length
    · refine Cd.t (ltZ_t hlt) ?_
      obtain ⟨cs, ec⟩ : ∃ x, threads[i]? = some x := ⟨_, List.getElem?_eq_getElem hlt⟩
      have hcs := hl2 cs (List.mem_of_getElem? ec)
      refine cutPlaysB_ok hc (cs := cs) (calls := threads) (i := i) (by omega) (by omega) hcs.2 ec (Has.skip (Has.skip (Has.skip (Has.skip (Has.skip (Has.here fun a t => ThrR.mono a t)))))) hs1 e0 e10 rfl rfl fun σ1 H1 v l a0 a1 a5 a7 a9 a10 a11 hl hcl h1 => ?_
      show Cd _ _ _
      refine Cd.t rfl ?_
      obtain ⟨pv, ev⟩ := (h1.has Has.vec).shape
      rw [List.length_map] at ev
      subst ev
      simp only [a10, a11]
      refine Sc.mk rfl (nw h1 fun p11 H2 h2 => ?_)
      rw [show σ1 9 = ts from a9.trans e9]
      have epl : prs.length = i := by have := congrArg List.length hpl; simp at this; omega
      refine app_vec (x := ts) (new := [[Value.slice pv l.length l.length]]) h2 (by repeat (first | exact Pull.here | apply Pull.there)) el_pss (by omega) sl_pss (Src.cell (n := 1) (by rfl)) rfl (by simp) (by simp; omega) rfl fun v2 H3 h3 => ?_
      refine AsInt.mk ?_
      rw [addInt]
      refine inR_nat (by omega) ?_
      show ∃ y, _ ∧ _
      refine ⟨i + 1, by omega, a0, a1.trans e1, a5.trans e5, a7.trans e7, rfl, hlt, v2, lvs ++ [Value.slice pv l.length l.length], prs ++ [l], rfl, ?_, by simp [hll], ?_, ?_⟩
      · rw [List.take_add_one, ec]; simp [hpl, hl]
      · intro x hx
        rcases List.mem_append.1 hx with h | h
        · exact hcell x h
        · rw [List.mem_singleton.1 h]; exact hcl
      · have e1 : (lvs.map fun x => [x]) ++ [[Value.slice pv l.length l.length]] = (lvs ++ [Value.slice pv l.length l.length]).map fun x => [x] := by simp
        have e2 : procsL lvs prs ++ [Vec (.slice pv l.length l.length) 42 1 (l.map fun x => [x])] = procsL (lvs ++ [Value.slice pv l.length l.length]) (prs ++ [l]) := (procsL_snoc hll).symm
        have e3 : objsL prs (stOf (threads.take i)) ++ [SatL (List.zipWith PrcAt l (cs.map CallS.fresh))] = objsL (prs ++ [l]) (stOf (threads.take (i + 1))) := by
          rw [List.take_add_one, ec]
          simp only [stOf, Option.toList_some, List.map_append, List.map_cons, List.map_nil]
          rw [objs_snoc (by simp; omega)]
        rw [e1] at h3
        have h4 : Sat (Vec (Value.slice pv l.length l.length) 42 1 (l.map fun x => [x]) :: SatL (procsL lvs prs) :: SatL (List.zipWith PrcAt l (cs.map CallS.fresh)) :: SatL (objsL prs (stOf (threads.take i))) :: Vec v2 39 1 ((lvs ++ [Value.slice pv l.length l.length]).map fun x => [x]) :: MemP m M1 :: RefP r M1 :: ThrR xv threads :: IntsR xw picks :: R) H3 := h3.ent (by repeat (first | exact Ent.refl _ | exact Ent.none | apply Ent.cons (by repeat (first | exact Pull.here | apply Pull.there)) | refine Ent.drop ?_))
        have h5 := h4.snoc
        rw [e2] at h5
        have h6 : Sat (SatL (List.zipWith PrcAt l (cs.map CallS.fresh)) :: SatL (objsL prs (stOf (threads.take i))) :: SatL (procsL (lvs ++ [Value.slice pv l.length l.length]) (prs ++ [l])) :: Vec v2 39 1 ((lvs ++ [Value.slice pv l.length l.length]).map fun x => [x]) :: MemP m M1 :: RefP r M1 :: ThrR xv threads :: IntsR xw picks :: R) H3 := h5.ent (by repeat (first | exact Ent.refl _ | exact Ent.none | apply Ent.cons (by repeat (first | exact Pull.here | apply Pull.there)) | refine Ent.drop ?_))
        have h7 := h6.snoc
        rw [e3] at h7
        exact h7.ent (by repeat (first | exact Ent.refl _ | exact Ent.none | apply Ent.cons (by repeat (first | exact Pull.here | apply Pull.there)) | refine Ent.drop ?_))
    · refine Cd.f (ltZ_f (by omega)) ?_
      show _ = _ ∧ _
      have : i = threads.length := by omega
      subst this
      rw [List.take_of_length_le (Nat.le_refl _)] at hpl hs1
      exact ⟨rfl, e0, e1, e5, e7, ts, lvs, prs, e9, hpl, hll, hcell, hs1⟩
  · obtain ⟨e0, e1, e5, e7, ts, lvs, prs, e9, hpl, hll, hcell, hs1⟩ := hP
    have elen : prs.length = threads.length := by have := congrArg List.length hpl; simpa using this
    have elong : longB prs = longC threads := by
      have e1 : prs.any (fun l => decide (4096 < l.length)) = (prs.map List.length).any (fun n => decide (4096 < n)) := by rw [List.any_map]; rfl
      have e2 : threads.any (fun l => decide (4096 < l.length)) = (threads.map List.length).any (fun n => decide (4096 < n)) := by rw [List.any_map]; rfl
      unfold longB longC
      rw [e1, e2, hpl]
    show Cd _ _ _
    refine Cd.t (eqN_self 0) ?_
    simp only [e0, e1, e5, e7, e9]
    refine stepNew_ok hc hs1 Has.vec (Has.skip Has.sat) hll (by omega) hcell (fun hbad => ?_) (fun h64 hlong rr tv pv qs H9 hqs h9 => ?_)
    · refine AsTup.mk (Nth.mk rfl (AsTup.mk (Nth.mk rfl (AsInt.mk (Cd.t rfl ?_)))))
      refine AsLen.of exv (Cd.of (fun _ => by first | trivial | rfl) fun h => ?_)
      refine law15Long_ok hc hs1 (Has.skip (Has.skip (Has.skip (Has.skip (Has.skip (Has.here fun a t => ThrR.mono a t)))))) (by omega) ?_
      rcases hbad with hb | hb
      · have := ltZ_n h; omega
      · rw [← elong, hb]
    · refine AsTup.mk (Nth.mk rfl (AsTup.mk (Nth.mk rfl (AsInt.mk (Cd.f rfl ?_)))))
      have hsh : Short threads := fun cs hcs => ⟨by
        have h1 : ¬ (4096 < cs.length) := fun h => by
          have : longC threads = true := List.any_eq_true.2 ⟨cs, hcs, decide_eq_true h⟩
          rw [← elong, hlong] at this; cases this
        omega, (hl2 cs hcs).2⟩
      rw [elen] at h9
      have h10 : Sat (RunAt rr m tv pv prs (g0 M1 threads).ths (vwsOf qs) 0 0 :: MemP m (g0 M1 threads).M :: SatL (viewsL m 0 (qs.map fun q => (q, 0))) :: SatL (objsL prs (g0 M1 threads).st) :: IntsR xw picks :: RefP r M1 :: ThrR xv threads :: IntsR xw picks :: R) H9 := by
        have h11 := h9.dup (Has.skip (Has.skip (Has.skip (Has.skip (Has.skip (Has.skip (Has.skip (Has.skip (Has.here (A := IntsR xw picks) fun a t => IntsR.mono a t))))))))) IntsR.ro
        exact h11.ent (by repeat (first | exact Ent.refl _ | exact Ent.none | apply Ent.cons (by repeat (first | exact Pull.here | apply Pull.there)) | refine Ent.drop ?_))
      refine stepRun_ok (L := []) hc hsh (good0 M1 hsh) h10 (by simp [Function.comp_def]) (by omega) hpl (fun x hx => ?_) tr1 hl3 fun H11 h11 => ?_
      · obtain ⟨q, _, rfl⟩ := List.mem_map.1 hx
        exact Nat.le_refl _
      have h12 : Sat (RefP r M1 :: ThrR xv threads :: IntsR xw picks :: MemP m (gAt (g0 M1 threads) picks picks.length).M :: R) H11 := h11.ent (by repeat (first | exact Ent.refl _ | exact Ent.none | apply Ent.cons (by repeat (first | exact Pull.here | apply Pull.there)) | refine Ent.drop ?_))
      refine law15Play_ok hc hsh (by omega) hl3 tr1 h12 fun H13 h13 => ?_
      have htr := gAt_tr (g := g0 M1 threads) picks picks.length
      have hcalm := gAt_calm (g := g0 M1 threads) calm1 picks picks.length
      have htr0 : (g0 M1 threads).M.tr.length ≤ 10 := tr1
      generalize (gAt (g0 M1 threads) picks picks.length).M = MZ at *
      obtain ⟨f1, f2, u1, u2, d, ⟨bl, tr, ⟨hn, hf⟩, hin⟩, hR⟩ := h13.opens Pull.here
      have hs5 := Sat.merge u1 u2 d hin hR
      simp only [List.cons_append, List.nil_append] at hs5
      obtain ⟨g1, g2, t1, t2, d2, hT, _⟩ := hs5.opens (A := TrAt tr tA MZ.tr) (.there (.there .here))
      obtain ⟨pt, rfl⟩ := hT.shape
      refine memTrace_ok hc hs5 (by repeat (first | exact Pull.here | apply Pull.there)) (by omega) hcalm fun x H14 h14 => ?_
      repeat (first | refine run ?_ | refine Cd.t rfl ?_ | refine Cd.f rfl ?_ | refine Cd.t (by decide +kernel) ?_ | refine Cd.f (by decide +kernel) ?_ | refine Sc.mk rfl ?_ | refine ld (by assumption) rfl ?_ | refine nw (by assumption) fun _ _ _ => ?_ | refine stB (by assumption) rfl rfl fun _ _ => ?_)
      refine sameTrace_ok hc h14 (by repeat (first | exact Pull.here | apply Pull.there)) (by repeat (first | exact Pull.here | apply Pull.there)) (by omega) hcalm fun H15 h15 => ?_
      repeat (first | refine run ?_ | refine Cd.t rfl ?_ | refine Cd.f rfl ?_ | refine Cd.t (by decide +kernel) ?_ | refine Cd.f (by decide +kernel) ?_ | refine Sc.mk rfl ?_ | refine ld (by assumption) rfl ?_ | refine nw (by assumption) fun _ _ _ => ?_ | refine stB (by assumption) rfl rfl fun _ _ => ?_)
      rfl
end Go.Proofs.YtipbbnoepphdkaaGreat
