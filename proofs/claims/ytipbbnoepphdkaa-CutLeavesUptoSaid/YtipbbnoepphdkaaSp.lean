/- What the functions do to the memories and procs that they are given: their contracts. The conditions stand in each. -/
import Derived.Test.YtipbbnoepphdkaaSpA
set_option linter.unusedVariables false
set_option linter.unusedSimpArgs false

set_option linter.unusedVariables false
set_option linter.unusedSimpArgs false
namespace Go.Proofs.Ytipbbnoepphdkaa
open Go Go.CM
attribute [local irreducible] AsBool AsWant AsNat AsInt AsCnt AsPtr AsSlc AsLen AsStr AsAgg AsTup AsFn AsIfc Nth Sc NotNil IsNil Must Cd codeW funW Sat SatL wrapN subM mkRow ltZ leZ ltN leN
variable {con : CallT}

abbrev nilp : Value := .pointer none
def CallPE (c : CallS) (cs : List Value) : HP := fun h => ∃ xv, cs = [i64 c.kind, u64 c.obj, u64 c.a, u64 c.b, u64 c.fl, xv] ∧ NumsR xv c.st h
def CallsR : Value → List CallS → HP := RowsR 6 CallPE
def ThrPE (l : List CallS) (cs : List Value) : HP := fun h => ∃ xv, cs = [xv] ∧ CallsR xv l h
def ThrR : Value → List (List CallS) → HP := RowsR 1 ThrPE
theorem CallsR.mono {v : Value} {l : List CallS} {g h : PH} (a : CallsR v l g) (t : Subh g h) : CallsR v l h := RowsR.mono (fun ⟨x, e, a⟩ t => ⟨x, e, a.mono t⟩) a t
theorem ThrR.mono {v : Value} {l : List (List CallS)} {g h : PH} (a : ThrR v l g) (t : Subh g h) : ThrR v l h := RowsR.mono (fun ⟨x, e, a⟩ t => ⟨x, e, CallsR.mono a t⟩) a t

def gAt (g : G) (picks : List Int) (j : Nat) : G := (picks.take j).foldl G.pick g
theorem gAt_succ {g : G} {picks : List Int} {j : Nat} {t : Int} (h : picks[j]? = some t) : gAt g picks (j + 1) = (gAt g picks j).pick t := by
  unfold gAt
  rw [List.take_add_one, h, List.foldl_append]; rfl
theorem gAt_good {calls : List (List CallS)} (hs : Short calls) {g : G} (h : Good calls g) (picks : List Int) (j : Nat) : Good calls (gAt g picks j) := by
  unfold gAt
  generalize picks.take j = l
  induction l generalizing g with
  | nil => exact h
  | cons t l ih => exact ih (good_pick hs h t)
theorem gAt_calm {g : G} (h : CalmV g.M) (picks : List Int) (j : Nat) : CalmV (gAt g picks j).M := by
  unfold gAt
  generalize picks.take j = l
  induction l generalizing g with
  | nil => exact h
  | cons t l ih => exact ih (pick_calm h t)
theorem gAt_tr {g : G} (picks : List Int) : ∀ (j : Nat), (gAt g picks j).M.tr.length ≤ g.M.tr.length + j
  | 0 => Nat.le_refl _
  | j + 1 => by
    cases h : picks[j]? with
    | none =>
      have := gAt_tr (g := g) picks j
      unfold gAt at this ⊢
      rw [List.take_add_one, h]
      simp
      omega
    | some t =>
      rw [gAt_succ h]
      have h1 := gAt_tr (g := g) picks j
      have h2 := (pick_tr (gAt g picks j) t).2
      omega

/-! ### the Runner's run -/
theorem stepRun_ok (hc : Con con lives) {calls : List (List CallS)} (hsh : Short calls) {g : G} (hg : Good calls g) {L R : List HP} {H : CH} {r m : Nat} {xw tv : Value} {pv : List Value} {prs : List (List Value)} {q0 : List Nat} {qs : List (Nat × Nat)} {picks : List Int} {K : KP}
    (hs : Sat (RunAt r m tv pv prs g.ths (vwsOf q0) 0 0 :: MemP m g.M :: SatL (viewsL m 0 qs) :: SatL (objsL prs g.st) :: IntsR xw picks :: R) H)
    (hq : qs.map Prod.fst = q0) (hql : q0.length = calls.length) (hpl : prs.map List.length = calls.map List.length) (hqn : ∀ x ∈ qs, x.2 ≤ 0) (htr : g.M.tr.length ≤ 10) (hpk : picks.length < 100000000)
    (k : ∀ H1, Sat (MemP m (gAt g picks picks.length).M :: IntsR xw picks :: R) H1 → K unit H1) : Call1 Try.prog con 38 [ptr r 0, xw] H K := by
  refine call_of (hc _ _ _ rfl) ?_
  rw [stepRun_W]
  obtain ⟨px, cx, ex⟩ := (hs.has (Has.skip (Has.skip (Has.skip (Has.skip (Has.here fun a t => IntsR.mono a t)))))).len
  subst ex
  repeat (first | refine run ?_ | refine Cd.t rfl ?_ | refine Cd.f rfl ?_ | refine Cd.t (by decide +kernel) ?_ | refine Cd.f (by decide +kernel) ?_ | refine Sc.mk rfl ?_ | refine ld (by assumption) rfl ?_ | refine nw (by assumption) fun _ _ _ => ?_ | refine stB (by assumption) rfl rfl fun _ _ => ?_)
  refine LoopC.indP (n := 100) (id := 0) (fun σ H => Sat (MemP m (gAt g picks picks.length).M :: IntsR (.slice px picks.length cx) picks :: R) H) (by kernel_rfl)
    (fun (j : Nat) σ H => σ 0 = ptr r 0 ∧ σ 6 = .slice px picks.length cx ∧ σ 7 = iN picks.length ∧ σ 8 = iN j ∧ j ≤ picks.length ∧ ∃ T qs, qs.map Prod.fst = q0 ∧ (∀ x ∈ qs, x.2 ≤ j) ∧ T ≤ (gAt g picks j).M.tr.length ∧
      Sat (RunAt r m tv pv prs (gAt g picks j).ths (vwsOf q0) j T :: MemP m (gAt g picks j).M :: SatL (viewsL m 0 qs) :: SatL (objsL prs (gAt g picks j).st) :: IntsR (.slice px picks.length cx) picks :: R) H) (fun j => picks.length - j) (fun j σ H hI => ?_) (fun σ H hP => ?_) 0 _ _
    ⟨rfl, rfl, rfl, rfl, Nat.zero_le _, 0, qs, hq, hqn, Nat.zero_le _, hs⟩
  · obtain ⟨e0, e6, e7, e8, hj, T, qs, hq, hqn, hT, hs1⟩ := hI
    rw [stepRunL_W]
    simp only [e0, e6, e7, e8]
    repeat (first | refine run ?_ | refine Cd.t rfl ?_ | refine Cd.f rfl ?_ | refine Cd.t (by decide +kernel) ?_ | refine Cd.f (by decide +kernel) ?_ | refine Sc.mk rfl ?_ | refine ld (by assumption) rfl ?_ | refine nw (by assumption) fun _ _ _ => ?_ | refine stB (by assumption) rfl rfl fun _ _ => ?_)
    by_cases hlt : j < picks.length
    · refine Cd.t (ltZ_t hlt) ?_
      obtain ⟨t, et⟩ : ∃ x, picks[j]? = some x := ⟨_, List.getElem?_eq_getElem hlt⟩
      obtain ⟨b, c, cs, eb, _, ecs, hld⟩ := rows_at hs1 (Has.skip (Has.skip (Has.skip (Has.skip (Has.here fun a t => IntsR.mono a t))))) et
      injection eb with eb _ _
      subst eb
      repeat (first | refine run ?_ | refine Cd.t rfl ?_ | refine Cd.f rfl ?_ | refine Cd.t (by decide +kernel) ?_ | refine Cd.f (by decide +kernel) ?_ | refine Sc.mk rfl ?_ | refine ld (by assumption) rfl ?_ | refine nw (by assumption) fun _ _ _ => ?_ | refine stB (by assumption) rfl rfl fun _ _ => ?_)
      refine Must.mk (ltN_t hlt) ?_
      refine hld _ 0 _ _ (by show 0 + j * 1 = _; omega) (by rw [ecs]; rfl) ?_
      refine run_pick (L := []) hc hsh (gAt_good hsh hg picks j) hs1 hq hql hpl (by omega) hqn hT (by have := gAt_tr (g := g) picks j; omega) fun b' H1 T' qs' hq' hqn' hT' h1 => ?_
      rw [← gAt_succ et] at h1 hT'
      repeat (first | refine run ?_ | refine Cd.t rfl ?_ | refine Cd.f rfl ?_ | refine Cd.t (by decide +kernel) ?_ | refine Cd.f (by decide +kernel) ?_ | refine Sc.mk rfl ?_ | refine ld (by assumption) rfl ?_ | refine nw (by assumption) fun _ _ _ => ?_ | refine stB (by assumption) rfl rfl fun _ _ => ?_)
      rw [addInt]
      refine inR_nat (n := j + 1) (by omega) ?_
      show ∃ y, _ ∧ _
      exact ⟨j + 1, by omega, e0, e6, e7, rfl, hlt, T', qs', hq', hqn', hT', h1⟩
    · refine Cd.f (ltZ_f (by omega)) ?_
      show _ = _ ∧ _
      have : j = picks.length := by omega
      subst this
      exact ⟨rfl, hs1.ent (by repeat (first | exact Ent.refl _ | exact Ent.none | apply Ent.cons (by repeat (first | exact Pull.here | apply Pull.there)) | refine Ent.drop ?_))⟩
  · show Cd _ _ _
    refine Cd.t (eqN_self 0) ?_
    exact k _ hP
end Go.Proofs.Ytipbbnoepphdkaa

set_option linter.unusedVariables false
set_option linter.unusedSimpArgs false
namespace Go.Proofs.Ytipbbnoepphdkaa
open Go Go.CM

/-! ### what stands in a memory of versions: in plain Lean -/
def vers (l : List Acs) : List Nat := (l.drop 1).filterMap fun a => if a.kind = 5 ∧ a.a ≠ 0 then some a.a else none
theorem vers_snoc {l : List Acs} (h : l ≠ []) (a : Acs) : vers (l ++ [a]) = vers l ++ (if a.kind = 5 ∧ a.a ≠ 0 then [a.a] else []) := by
  unfold vers
  cases l with
  | nil => contradiction
  | cons b l =>
    rw [List.cons_append, List.drop_succ_cons, List.drop_zero, List.drop_succ_cons, List.drop_zero, List.filterMap_append]
    congr 1
    by_cases e : a.kind = 5 ∧ a.a ≠ 0
    · simp [e]
    · simp [e]
def StOk (V : List Nat) (a : Acs) : Prop := a.kind = 2 → (a.x = 0 ∨ a.x ∈ V) ∧ (∃ v ∈ V, v + 2 = a.a ∧ a.a < 18446744073709551616) ∧ a.x < a.a
def TrOk (l : List Acs) : Prop := ∀ i a, 1 ≤ i → l[i]? = some a → StOk (vers (l.take i)) a
theorem TrOk.snoc {l : List Acs} (h : TrOk l) {a : Acs} (ha : StOk (vers l) a) : TrOk (l ++ [a]) := fun i b hi hb => by
  by_cases h1 : i < l.length
  · rw [List.getElem?_append_left h1] at hb
    rw [List.take_append_of_le_length (by omega)]
    exact h i b hi hb
  · have h2 : i = l.length := by
      have := (List.getElem?_eq_some_iff.1 hb).1
      simp at this; omega
    subst h2
    rw [List.getElem?_append_right (Nat.le_refl _), Nat.sub_self] at hb
    simp at hb
    subst hb
    rw [List.take_left]
    exact ha

structure Inv0 (V : List Nat) (M : Mem) : Prop where
  fr : M.free ≤ M.cells.length ∧ M.cells.length ≤ 4194304 ∧ 4 ≤ M.free
  lo : ∀ v ∈ V, 4 ≤ v ∧ v + 3 ≤ M.free
  dj : ∀ u ∈ V, ∀ v ∈ V, u = v ∨ u + 3 ≤ v ∨ v + 3 ≤ u
  ol : ∀ v ∈ V, M.peek (v + 2) = 0 ∨ (M.peek (v + 2) ∈ V ∧ M.peek (v + 2) < v)
  ob : ∀ o, o = 2 ∨ o = 3 → M.peek o = 0 ∨ M.peek o ∈ V
  cm : M.peek 1 ≠ 0
def InvM (M : Mem) : Prop := M.tr ≠ [] ∧ TrOk M.tr ∧ Inv0 (vers M.tr) M

theorem peek_put (M : Mem) (a x b : Nat) : (M.put a x).peek b = if a = b ∧ a < M.cells.length then x else M.peek b := by
  unfold Mem.put Mem.peek
  simp only [List.getD_eq_getElem?_getD, List.getElem?_set]
  by_cases h : a = b
  · subst h
    by_cases h2 : a < M.cells.length
    · simp [h2]
    · simp [h2]
  · simp [h]
theorem peek_note (M : Mem) (c : Acs) (b : Nat) : (M.note c).peek b = M.peek b := rfl

theorem Inv0.note {V : List Nat} {M : Mem} (h : Inv0 V M) (c : Acs) : Inv0 V (M.note c) := ⟨h.fr, h.lo, h.dj, h.ol, h.ob, h.cm⟩
/-- What may be written where. -/
def WOk (V : List Nat) (a y : Nat) : Prop := ((a = 2 ∨ a = 3) ∧ y ∈ V) ∨ (a = 1 ∧ y ≠ 0) ∨ (∃ v ∈ V, a = v + 1) ∨ (∃ v ∈ V, a = v + 2 ∧ (y = 0 ∨ (y ∈ V ∧ y < v)))
theorem Inv0.put {V : List Nat} {M : Mem} (h : Inv0 V M) {a y : Nat} (hw : WOk V a y) : Inv0 V (M.put a y) := by
  refine ⟨by rw [put_len]; exact h.fr, h.lo, h.dj, fun v hv => ?_, fun o ho => ?_, ?_⟩
  · rw [peek_put]
    have hvl := h.lo v hv
    rcases hw with ⟨h1, h2⟩ | ⟨h1, h2⟩ | ⟨u, hu, h1⟩ | ⟨u, hu, h1, h2⟩
    · rw [if_neg (by omega)]; exact h.ol v hv
    · rw [if_neg (by omega)]; exact h.ol v hv
    · have := h.dj u hu v hv
      rw [if_neg (by omega)]; exact h.ol v hv
    · by_cases e : a = v + 2 ∧ a < M.cells.length
      · rw [if_pos e]
        have : u = v := by omega
        subst this
        exact h2
      · rw [if_neg e]; exact h.ol v hv
  · rw [peek_put]
    rcases hw with ⟨h1, h2⟩ | ⟨h1, h2⟩ | ⟨u, hu, h1⟩ | ⟨u, hu, h1, h2⟩
    · by_cases e : a = o ∧ a < M.cells.length
      · rw [if_pos e]; exact .inr h2
      · rw [if_neg e]; exact h.ob o ho
    · rw [if_neg (by omega)]; exact h.ob o ho
    · have := h.lo u hu
      rw [if_neg (by omega)]; exact h.ob o ho
    · have := h.lo u hu
      rw [if_neg (by omega)]; exact h.ob o ho
  · rw [peek_put]
    rcases hw with ⟨h1, h2⟩ | ⟨h1, h2⟩ | ⟨u, hu, h1⟩ | ⟨u, hu, h1, h2⟩
    · rw [if_neg (by omega)]; exact h.cm
    · by_cases e : a = 1 ∧ a < M.cells.length
      · rw [if_pos e]; exact h2
      · rw [if_neg e]; exact h.cm
    · have := h.lo u hu
      rw [if_neg (by omega)]; exact h.cm
    · have := h.lo u hu
      rw [if_neg (by omega)]; exact h.cm

theorem InvM.quiet {M M' : Mem} {c : Acs} (h : InvM M) (hc : c.kind ≠ 2 ∧ c.kind ≠ 5) (ht : M'.tr = M.tr) (h0 : Inv0 (vers M.tr) M') : InvM (M'.note c) ∧ vers (M'.note c).tr = vers M.tr := by
  obtain ⟨h1, h2, h3⟩ := h
  have e : vers (M'.note c).tr = vers M.tr := by
    show vers (M'.tr ++ [c]) = _
    rw [ht, vers_snoc h1, if_neg (fun h => hc.2 h.1), List.append_nil]
  refine ⟨⟨by simp [Mem.note], ?_, ?_⟩, e⟩
  · show TrOk (M'.tr ++ [c])
    rw [ht]
    exact h2.snoc fun h => absurd h hc.1
  · rw [e]; exact h0.note c
theorem InvM.load {M : Mem} (h : InvM M) (th : Int) (a : Nat) : InvM (M.load th a) ∧ vers (M.load th a).tr = vers M.tr := h.quiet (M' := M) (by simp [accLd]) rfl h.2.2
theorem InvM.cas {M : Mem} (h : InvM M) (th : Int) (a x y : Nat) (hw : M.swaps a x = true → WOk (vers M.tr) a y) : InvM (M.cas th a x y) ∧ vers (M.cas th a x y).tr = vers M.tr := by
  unfold Mem.cas
  cases e : M.swaps a x with
  | true => exact h.quiet (M' := M.put a y) (by simp [accCas]) rfl (h.2.2.put (hw e))
  | false => exact h.quiet (M' := M) (by simp [accCas]) rfl h.2.2
theorem InvM.store {M : Mem} (h : InvM M) (th : Int) {v y : Nat} (hv : v ∈ vers M.tr) (hy : y = 0 ∨ (y ∈ vers M.tr ∧ y < v)) : InvM (M.store th (addM v 2) y) ∧ vers (M.store th (addM v 2) y).tr = vers M.tr := by
  obtain ⟨h1, h2, h3⟩ := h
  have hl := h3.lo v hv
  have hf := h3.fr
  have ea : addM v 2 = v + 2 := Nat.mod_eq_of_lt (by show v + 2 < _; omega)
  rw [ea]
  have e : vers (M.store th (v + 2) y).tr = vers M.tr := by
    show vers (M.tr ++ [accSt th (v + 2) y]) = _
    rw [vers_snoc h1, if_neg (by simp [accSt]), List.append_nil]
  refine ⟨⟨by simp [Mem.store, Mem.note], ?_, ?_⟩, e⟩
  · show TrOk (M.tr ++ [accSt th (v + 2) y])
    exact h2.snoc fun _ => ⟨hy.imp id fun h => h.1, ⟨v, hv, rfl, by show v + 2 < _; omega⟩, by show y < v + 2; omega⟩
  · rw [e]
    exact (h3.put (.inr (.inr (.inr ⟨v, hv, rfl, hy⟩)))).note _

theorem peek_ov {l : List Nat} : ∀ {vals : List Nat} {o b : Nat}, o + vals.length ≤ l.length → (ovN vals l o).getD b 0 = if o ≤ b ∧ b < o + vals.length then vals.getD (b - o) 0 else l.getD b 0
  | [], o, b, _ => by rw [ovN, if_neg (by simp only [List.length_nil]; omega)]
  | x :: r, o, b, h => by
    simp only [List.length_cons] at h
    rw [ovN, peek_ov (l := l.set o x) (by rw [List.length_set]; omega)]
    simp only [List.getD_eq_getElem?_getD, List.getElem?_set, List.length_cons]
    by_cases h1 : o + 1 ≤ b ∧ b < o + 1 + r.length
    · rw [if_pos h1, if_pos (by omega), show b - o = (b - (o + 1)) + 1 by omega, List.getElem?_cons_succ]
    · rw [if_neg h1]
      by_cases h2 : o = b
      · subst h2
        rw [if_pos rfl, if_pos (by omega), if_pos (by omega), Nat.sub_self]; rfl
      · rw [if_neg h2, if_neg (by omega)]
theorem InvM.alloc {M : Mem} (h : InvM M) (th : Int) {now x : Nat} (hx : x = 0 ∨ x ∈ vers M.tr) : InvM (M.alloc th [now, 0, x]) ∧
    ((M.room [now, 0, x] = 0 ∧ vers (M.alloc th [now, 0, x]).tr = vers M.tr) ∨ (M.room [now, 0, x] ≠ 0 ∧ vers (M.alloc th [now, 0, x]).tr = vers M.tr ++ [M.room [now, 0, x]])) := by
  obtain ⟨h1, h2, h3⟩ := h
  have hf := h3.fr
  by_cases hr : 0 < [now, 0, x].length ∧ [now, 0, x].length ≤ M.cells.length - M.free
  · rw [alloc_t hr.1 hr.2, room_t hr.1 hr.2]
    have e : vers ((M.take [now, 0, x]).note (accNew th M.free [now, 0, x])).tr = vers M.tr ++ [M.free] := by
      show vers (M.tr ++ [accNew th M.free [now, 0, x]]) = _
      rw [vers_snoc h1, if_pos ⟨rfl, by show M.free ≠ 0; omega⟩]; rfl
    have hlen : M.free + 3 ≤ M.cells.length := by have := hr.2; simp at this; omega
    have pk : ∀ b, (M.take [now, 0, x]).peek b = if M.free ≤ b ∧ b < M.free + 3 then [now, 0, x].getD (b - M.free) 0 else M.peek b := fun b => peek_ov (l := M.cells) (vals := [now, 0, x]) (by simpa using hlen)
    refine ⟨⟨by simp [Mem.note], ?_, ?_⟩, .inr ⟨by omega, e⟩⟩
    · show TrOk (M.tr ++ [accNew th M.free [now, 0, x]])
      exact h2.snoc fun h => nomatch h
    · rw [e]
      refine Inv0.note (M := M.take [now, 0, x]) ⟨?_, fun v hv => ?_, fun u hu v hv => ?_, fun v hv => ?_, fun o ho => ?_, ?_⟩ _
      · show M.free + 3 ≤ (ovN _ _ _).length ∧ (ovN _ _ _).length ≤ _ ∧ 4 ≤ M.free + 3
        rw [ovN_len]; omega
      · show 4 ≤ v ∧ v + 3 ≤ M.free + 3
        rcases List.mem_append.1 hv with h | h
        · have := h3.lo v h; omega
        · have := List.mem_singleton.1 h; omega
      · rcases List.mem_append.1 hu with h | h <;> rcases List.mem_append.1 hv with h' | h'
        · exact h3.dj u h v h'
        · have := List.mem_singleton.1 h'; have := h3.lo u h; omega
        · have := List.mem_singleton.1 h; have := h3.lo v h'; omega
        · have := List.mem_singleton.1 h; have := List.mem_singleton.1 h'; omega
      · rw [pk]
        rcases List.mem_append.1 hv with h | h
        · have := h3.lo v h
          rw [if_neg (by omega)]
          exact (h3.ol v h).imp id fun ⟨a, b⟩ => ⟨List.mem_append_left _ a, b⟩
        · have hv := List.mem_singleton.1 h
          subst hv
          rw [if_pos (by omega), show M.free + 2 - M.free = 2 by omega]
          show x = 0 ∨ _
          rcases hx with h0 | h0
          · exact .inl h0
          · exact .inr ⟨List.mem_append_left _ h0, by have := h3.lo x h0; show x < M.free; omega⟩
      · rw [pk, if_neg (by omega)]
        exact (h3.ob o ho).imp id fun a => List.mem_append_left _ a
      · rw [pk, if_neg (by omega)]; exact h3.cm
  · rw [alloc_f hr, room_f hr]
    have q := InvM.quiet (c := accNew th 0 [now, 0, x]) (M' := M) (M := M) ⟨h1, h2, h3⟩
    have e : vers (M.note (accNew th 0 [now, 0, x])).tr = vers M.tr := by
      show vers (M.tr ++ [accNew th 0 [now, 0, x]]) = _
      rw [vers_snoc h1, if_neg (by simp [accNew]), List.append_nil]
    refine ⟨⟨by simp [Mem.note], h2.snoc fun h => (nomatch h), ?_⟩, .inl ⟨rfl, e⟩⟩
    rw [e]; exact h3.note _

/-! ### what the procs are about -/
def IInv (V : List Nat) (i : IniS) : Prop := i.cam = 1 ∧ ((i.at_ = 0 ∧ i.ver = 0) ∨ i.ver ∈ V ∨ 3 ≤ i.at_)
def CInv (V : List Nat) (s : CasS) : Prop := (s.obj = 2 ∨ s.obj = 3) ∧ s.cam = 1 ∧ (1 ≤ s.at_ ∧ s.at_ ≤ 3 → s.h = 0 ∨ s.h ∈ V) ∧ (s.at_ = 4 → s.n ∈ V) ∧ (s.at_ = 1 ∨ s.at_ = 5 ∨ s.at_ = 7 → IInv V s.ini)
def TInv (s : TakeS) : Prop := s.cam = 1 ∧ s.most = 1073741824 ∧ (s.at_ = 1 → s.t < 1073741824)
def KInv (V : List Nat) (s : CutS) : Prop := (s.obj = 2 ∨ s.obj = 3) ∧ (1 ≤ s.at_ ∧ s.at_ ≤ 6 → s.x ∈ V) ∧ (s.at_ = 4 ∨ s.at_ = 5 → s.y ∈ V ∧ s.y < s.x) ∧ (s.at_ = 6 → s.y = 0 ∨ (s.y ∈ V ∧ s.y < s.x))
def PastInv (V : List Nat) (s : PastS) : Prop := (s.obj = 2 ∨ s.obj = 3) ∧ s.cam = 1 ∧ (s.at_ = 1 → IInv V s.ini)
def PInv (V : List Nat) (s : PrS) : Prop :=
  match s with
  | .cas s => CInv V s
  | .take s => TInv s
  | .cut s => KInv V s
  | .past s => PastInv V s
theorem IInv.mono {V W : List Nat} {i : IniS} (h : IInv V i) (s : ∀ x ∈ V, x ∈ W) : IInv W i := ⟨h.1, h.2.imp id fun h => h.imp (s _) id⟩
theorem PInv.mono {V W : List Nat} {p : PrS} (h : PInv V p) (s : ∀ x ∈ V, x ∈ W) : PInv W p := by
  cases p with
  | cas p => exact ⟨h.1, h.2.1, fun a => (h.2.2.1 a).imp id (s _), fun a => s _ (h.2.2.2.1 a), fun a => (h.2.2.2.2 a).mono s⟩
  | take p => exact h
  | cut p => exact ⟨h.1, fun a => s _ (h.2.1 a), fun a => ⟨s _ (h.2.2.1 a).1, (h.2.2.1 a).2⟩, fun a => (h.2.2.2 a).imp id fun b => ⟨s _ b.1, b.2⟩⟩
  | past p => exact ⟨h.1, h.2.1, fun a => (h.2.2 a).mono s⟩

theorem ini_inv {M : Mem} (h : InvM M) {i : IniS} (hi : IInv (vers M.tr) i) (hat : i.at_ < 3) (th : Int) : InvM (i.step M th).2 ∧ vers (i.step M th).2.tr = vers M.tr ∧ IInv (vers M.tr) (i.step M th).1 := by
  obtain ⟨cam, ver, at_, c⟩ := i
  obtain ⟨h1, h2⟩ := hi
  simp only at h1 h2 hat
  subst h1
  unfold IniS.step
  split
  · rename_i h0
    simp only at h0
    subst h0
    obtain ⟨q1, q2⟩ := h.load th (addM ver 1)
    refine ⟨q1, q2, rfl, ?_⟩
    show ((if M.peek (addM ver 1) = 0 then 1 else 3) = 0 ∧ ver = 0) ∨ ver ∈ vers M.tr ∨ 3 ≤ (if M.peek (addM ver 1) = 0 then 1 else 3)
    rcases h2 with ⟨_, rfl⟩ | h2 | h2
    · have : M.peek (addM 0 1) ≠ 0 := h.2.2.cm
      rw [if_neg this]
      exact .inr (.inr (Nat.le_refl _))
    · exact .inr (.inl h2)
    · omega
  · rename_i h0
    simp only at h0
    split
    · rename_i h3
      simp only at h3
      subst h3
      obtain ⟨q1, q2⟩ := h.load th 1
      refine ⟨q1, q2, rfl, ?_⟩
      rcases h2 with ⟨h2, _⟩ | h2 | h2
      · cases h2
      · exact .inr (.inl h2)
      · omega
    · rename_i h3
      simp only at h3
      have hv : ver ∈ vers M.tr := by
        rcases h2 with ⟨h2, _⟩ | h2 | h2
        · exact absurd h2 h0
        · exact h2
        · omega
      have hl := h.2.2.lo ver hv
      have hf := h.2.2.fr
      have ea : addM ver 1 = ver + 1 := Nat.mod_eq_of_lt (by show ver + 1 < _; omega)
      obtain ⟨q1, q2⟩ := h.cas th (addM ver 1) 0 c fun _ => .inr (.inr (.inl ⟨ver, hv, ea⟩))
      exact ⟨q1, q2, rfl, .inr (.inl hv)⟩

/-- What a step leaves. -/
def After (M M' : Mem) (s' : PrS) : Prop := InvM M' ∧ (∀ x ∈ vers M.tr, x ∈ vers M'.tr) ∧ PInv (vers M'.tr) s'
theorem After.same {M M' : Mem} {s' : PrS} (h : InvM M') (e : vers M'.tr = vers M.tr) (p : PInv (vers M.tr) s') : After M M' s' := ⟨h, fun x hx => by rw [e]; exact hx, by rw [e]; exact p⟩

theorem held_inv {V : List Nat} {s : CasS} (v : Nat) (h : CInv V { s with at_ := 2 }) : CInv V (s.held v) := by
  obtain ⟨h1, h2, h3, h4, h5⟩ := h
  unfold CasS.held
  split
  · split
    · exact ⟨h1, h2, fun a => by have := a.2; simp at this, fun a => by simp at a, fun a => by simp at a⟩
    · exact ⟨h1, h2, fun _ => h3 ⟨by simp, by simp⟩, fun a => by simp at a, fun a => by simp at a⟩
  · exact ⟨h1, h2, fun a => by have := a.2; simp at this, fun a => by simp at a, fun a => by simp at a⟩

theorem cas_inv {M : Mem} (h : InvM M) {s : CasS} (hs : CInv (vers M.tr) s) (hok : (PrS.cas s).Ok) (th : Int) : After M (s.step M th).2 (.cas (s.step M th).1) := by
  obtain ⟨cam, obj, old, now, at_, hh, n, ini⟩ := s
  obtain ⟨h1, h2, h3, h4, h5⟩ := hs
  obtain ⟨hat, hini⟩ := hok
  simp only at h1 h2 h3 h4 h5 hat hini
  subst h2
  have ob := h.2.2.ob obj h1
  rcases (by omega : at_ = 0 ∨ at_ = 1 ∨ at_ = 2 ∨ at_ = 3 ∨ at_ = 4 ∨ at_ = 5 ∨ at_ = 6 ∨ at_ = 7) with rfl | rfl | rfl | rfl | rfl | rfl | rfl | rfl
  · obtain ⟨q1, q2⟩ := h.load th obj
    refine After.same q1 q2 ?_
    show CInv _ (if M.peek obj = 0 then _ else _)
    split
    · refine held_inv 0 ⟨h1, rfl, fun _ => ob, fun a => by simp at a, fun a => by simp at a⟩
    · exact ⟨h1, rfl, fun _ => ob, fun a => by simp at a, fun _ => ⟨rfl, ob.imp (fun e => ⟨rfl, e⟩) .inl⟩⟩
  · obtain ⟨q1, q2, q3⟩ := ini_inv h (h5 (.inl rfl)) (hini (.inl rfl)) th
    refine After.same q1 q2 ⟨h1, rfl, fun _ => h3 ⟨by simp, by simp⟩, fun a => ?_, fun _ => q3⟩
    simp only [CasS.step] at a
    split at a <;> simp at a
  · obtain ⟨q1, q2⟩ := h.load th hh
    exact After.same q1 q2 (held_inv _ ⟨h1, rfl, fun _ => h3 ⟨by simp, by simp⟩, fun a => by simp at a, fun a => by simp at a⟩)
  · obtain ⟨q1, q2⟩ := h.alloc th (now := now) (x := hh) (h3 ⟨by simp, by simp⟩)
    refine ⟨q1, fun x hx => ?_, h1, rfl, fun a => ?_, fun a => ?_, fun a => ?_⟩
    · show x ∈ vers (M.alloc th [now, 0, hh]).tr
      rcases q2 with ⟨_, e⟩ | ⟨_, e⟩
      · rw [e]; exact hx
      · rw [e]; exact List.mem_append_left _ hx
    · have := a.2
      simp only [CasS.step] at this
      split at this <;> simp at this
    · simp only [CasS.step] at a ⊢
      rcases q2 with ⟨e1, e⟩ | ⟨e1, e⟩
      · rw [if_pos e1] at a; simp at a
      · rw [e]; simp
    · simp only [CasS.step] at a
      split at a <;> simp at a
  · have hn := h4 rfl
    obtain ⟨q1, q2⟩ := h.cas th obj hh n fun _ => .inl ⟨h1, hn⟩
    refine After.same q1 q2 ?_
    show CInv _ (if M.swaps obj hh = true then _ else _)
    split
    · exact ⟨h1, rfl, fun a => by have := a.2; simp at this, fun a => by simp at a, fun _ => ⟨rfl, .inr (.inl hn)⟩⟩
    · exact ⟨h1, rfl, fun a => by have := a.2; simp at this, fun a => by simp at a, fun a => by simp at a⟩
  · obtain ⟨q1, q2, q3⟩ := ini_inv h (h5 (.inr (.inl rfl))) (hini (.inr (.inl rfl))) th
    refine After.same q1 q2 ⟨h1, rfl, fun a => ?_, fun a => ?_, fun _ => q3⟩
    · have := a.2
      simp only [CasS.step] at this
      split at this <;> simp at this
    · simp only [CasS.step] at a
      split at a <;> simp at a
  · obtain ⟨q1, q2⟩ := h.load th obj
    exact After.same q1 q2 ⟨h1, rfl, fun a => by have := a.2; simp [CasS.step] at this, fun a => by simp [CasS.step] at a, fun _ => ⟨rfl, ob.imp (fun e => ⟨rfl, e⟩) .inl⟩⟩
  · obtain ⟨q1, q2, q3⟩ := ini_inv h (h5 (.inr (.inr rfl))) (hini (.inr (.inr rfl))) th
    refine After.same q1 q2 ⟨h1, rfl, fun a => ?_, fun a => ?_, fun _ => q3⟩
    · have := a.2
      simp only [CasS.step] at this
      split at this <;> simp at this
    · simp only [CasS.step] at a
      split at a <;> simp at a

theorem take_inv {M : Mem} (h : InvM M) {s : TakeS} (hs : TInv s) (hok : (PrS.take s).Ok) (th : Int) : After M (s.step M th).2 (.take (s.step M th).1) := by
  obtain ⟨cam, most, at_, t⟩ := s
  obtain ⟨h1, h2, h3⟩ := hs
  have hat : at_ < 2 := hok
  simp only at h1 h2 h3
  subst h1 h2
  rcases (by omega : at_ = 0 ∨ at_ = 1) with rfl | rfl
  · obtain ⟨q1, q2⟩ := h.load th 1
    refine After.same q1 q2 ⟨rfl, rfl, fun a => ?_⟩
    simp only [TakeS.step] at a ⊢
    split at a
    · assumption
    · simp at a
  · have ht := h3 rfl
    obtain ⟨q1, q2⟩ := h.cas th 1 t (addM t 1) fun _ => .inr (.inl ⟨rfl, by rw [show addM t 1 = t + 1 from Nat.mod_eq_of_lt (by show t + 1 < _; omega)]; omega⟩)
    exact After.same q1 q2 ⟨rfl, rfl, fun a => by simp [TakeS.step] at a⟩

theorem past_inv {M : Mem} (h : InvM M) {s : PastS} (hs : PastInv (vers M.tr) s) (hok : (PrS.past s).Ok) (th : Int) : After M (s.step M th).2 (.past (s.step M th).1) := by
  obtain ⟨cam, obj, stamp, at_, hh, ini⟩ := s
  obtain ⟨h1, h2, h3⟩ := hs
  obtain ⟨hat, hini⟩ := hok
  simp only at h1 h2 h3 hat hini
  subst h2
  have ob := h.2.2.ob obj h1
  rcases (by omega : at_ = 0 ∨ at_ = 1 ∨ at_ = 2 ∨ at_ = 3 ∨ at_ = 4) with rfl | rfl | rfl | rfl | rfl
  · obtain ⟨q1, q2⟩ := h.load th obj
    exact After.same q1 q2 ⟨h1, rfl, fun _ => ⟨rfl, ob.imp (fun e => ⟨rfl, e⟩) .inl⟩⟩
  · obtain ⟨q1, q2, q3⟩ := ini_inv h (h3 rfl) (hini rfl) th
    exact After.same q1 q2 ⟨h1, rfl, fun _ => q3⟩
  · obtain ⟨q1, q2⟩ := h.load th (addM hh 1)
    refine After.same q1 q2 ⟨h1, rfl, fun a => ?_⟩
    simp only [PastS.step] at a
    split at a <;> simp at a
  · obtain ⟨q1, q2⟩ := h.load th (addM hh 2)
    refine After.same q1 q2 ⟨h1, rfl, fun a => ?_⟩
    simp only [PastS.step] at a
    split at a <;> simp at a
  · obtain ⟨q1, q2⟩ := h.load th hh
    exact After.same q1 q2 ⟨h1, rfl, fun a => by simp [PastS.step] at a⟩

/-- How a cut goes on, with what it may be at. -/
def KMid (V : List Nat) (s : CutS) : Prop := (s.obj = 2 ∨ s.obj = 3) ∧ s.x ∈ V ∧ (s.y = 0 ∨ (s.y ∈ V ∧ s.y < s.x))
theorem further_inv {V : List Nat} {s : CutS} (h : KMid V s) : KInv V s.further := by
  obtain ⟨h1, h2, h3⟩ := h
  unfold CutS.further
  split
  · exact ⟨h1, fun a => by have := a.2; simp at this, fun a => by simp at a, fun a => by simp at a⟩
  · rename_i e
    exact ⟨h1, fun _ => (h3.resolve_left e).1, fun a => by simp at a, fun a => by simp at a⟩
theorem stay_inv {V : List Nat} {s : CutS} (h : KMid V s) : KInv V s.stay := by
  unfold CutS.stay
  split
  · exact further_inv h
  · exact ⟨h.1, fun _ => h.2.1, fun a => by simp at a, fun _ => h.2.2⟩
theorem on_inv {V : List Nat} {s : CutS} (h : KMid V s) : KInv V s.on := by
  unfold CutS.on
  split
  · exact stay_inv (s := { s with at_ := 4 }) h
  · rename_i e
    exact ⟨h.1, fun _ => h.2.1, fun _ => h.2.2.resolve_left e, fun a => by simp at a⟩
theorem fin_inv {V : List Nat} {s : CutS} (h : KInv V s) : KInv V s.fin := by
  unfold CutS.fin
  split
  · exact h
  · exact h

theorem cut_inv {M : Mem} (h : InvM M) {s : CutS} (hs : KInv (vers M.tr) s) (hok : (PrS.cut s).Ok) (th : Int) : After M (s.step M th).2 (.cut (s.step M th).1) := by
  obtain ⟨obj, fl, st, at_, x, sx, y, y0, sy, found, head, told⟩ := s
  obtain ⟨h1, h2, h3, h4⟩ := hs
  have hat : at_ < 7 := hok.1
  simp only at h1 h2 h3 h4
  have ob := h.2.2.ob obj h1
  have ea : ∀ v, v ∈ vers M.tr → addM v 2 = v + 2 := fun v hv => Nat.mod_eq_of_lt (by have := h.2.2.lo v hv; have := h.2.2.fr; show v + 2 < _; omega)
  unfold CutS.step
  rcases (by omega : at_ = 0 ∨ at_ = 1 ∨ at_ = 2 ∨ at_ = 3 ∨ at_ = 4 ∨ at_ = 5 ∨ at_ = 6) with rfl | rfl | rfl | rfl | rfl | rfl | rfl
  · simp only [go0]
    obtain ⟨q1, q2⟩ := h.load th obj
    refine After.same q1 q2 (fin_inv (V := vers M.tr) ⟨h1, fun a => ?_, fun a => ?_, fun a => ?_⟩)
    · simp only at a ⊢
      split at a
      · simp at a
      · rename_i e; exact ob.resolve_left e
    · simp only at a
      split at a <;> simp at a
    · simp only at a
      split at a <;> simp at a
  · simp only [go1]
    obtain ⟨q1, q2⟩ := h.load th (addM x 1)
    exact After.same q1 q2 (fin_inv (V := vers M.tr) ⟨h1, fun _ => h2 ⟨by simp, by simp⟩, fun a => by simp at a, fun a => by simp at a⟩)
  · simp only [go2]
    obtain ⟨q1, q2⟩ := h.load th x
    exact After.same q1 q2 (fin_inv (V := vers M.tr) ⟨h1, fun _ => h2 ⟨by simp, by simp⟩, fun a => by simp at a, fun a => by simp at a⟩)
  · simp only [go3]
    have hx := h2 ⟨by simp, by simp⟩
    obtain ⟨q1, q2⟩ := h.load th (addM x 2)
    refine After.same q1 q2 (fin_inv (on_inv (V := vers M.tr) ⟨h1, hx, ?_⟩))
    show M.peek (addM x 2) = 0 ∨ _
    rw [ea x hx]
    exact h.2.2.ol x hx
  · simp only [go4]
    have hx := h2 ⟨by simp, by simp⟩
    have hy := h3 (.inl rfl)
    obtain ⟨q1, q2⟩ := h.load th (addM y 1)
    refine After.same q1 q2 (fin_inv ?_)
    split
    · exact stay_inv ⟨h1, hx, .inr hy⟩
    · exact ⟨h1, fun _ => hx, fun _ => hy, fun a => by simp at a⟩
  · simp only [go5]
    have hx := h2 ⟨by simp, by simp⟩
    have hy := h3 (.inr rfl)
    obtain ⟨q1, q2⟩ := h.load th (addM y 2)
    refine After.same q1 q2 (fin_inv (on_inv (V := vers M.tr) ⟨h1, hx, ?_⟩))
    show M.peek (addM y 2) = 0 ∨ (M.peek (addM y 2) ∈ _ ∧ M.peek (addM y 2) < x)
    rw [ea y hy.1]
    exact (h.2.2.ol y hy.1).imp id fun ⟨a, b⟩ => ⟨a, by have := hy.2; omega⟩
  · simp only [go6]
    have hx := h2 ⟨by simp, by simp⟩
    obtain ⟨q1, q2⟩ := h.store th hx (h4 rfl)
    exact After.same q1 q2 (fin_inv (further_inv (V := vers M.tr) ⟨h1, hx, h4 rfl⟩))

theorem step_inv {M : Mem} (h : InvM M) {s : PrS} (hs : PInv (vers M.tr) s) (hok : s.Ok) (th : Int) : After M (s.step M th).2 (s.step M th).1 := by
  cases s with
  | cas s => exact cas_inv h hs hok th
  | take s => exact take_inv h hs hok th
  | cut s => exact cut_inv h hs hok th
  | past s => exact past_inv h hs hok th

def GInv (g : G) : Prop := InvM g.M ∧ ∀ ss ∈ g.st, ∀ s ∈ ss, PInv (vers g.M.tr) s
theorem pick_inv {calls : List (List CallS)} {g : G} (hg : Good calls g) (h : GInv g) (t : Int) : GInv (g.pick t) := by
  unfold G.pick
  split
  · exact h
  · rename_i i
    split
    · rename_i a o' ss e1 e2
      split
      · rename_i s e3
        have hss := h.2 ss (List.mem_of_getElem? e2)
        have hs := hss s (List.mem_of_getElem? e3)
        obtain ⟨l1, l2, l3⟩ := hg
        obtain ⟨cs, ec⟩ : ∃ x, calls[i]? = some x := ⟨_, List.getElem?_eq_getElem (by have := (List.getElem?_eq_some_iff.1 e1).1; omega)⟩
        obtain ⟨f1, f2⟩ := l3 i cs a o' ss ec e1 e2
        obtain ⟨c, ecl⟩ : ∃ x, cs[a]? = some x := ⟨_, List.getElem?_eq_getElem (by have := (List.getElem?_eq_some_iff.1 e3).1; omega)⟩
        obtain ⟨s', es', hok⟩ := (f2 a c ecl).2 rfl
        rw [e3] at es'
        cases es'
        obtain ⟨q1, q2, q3⟩ := step_inv h.1 hs hok (Int.ofNat i)
        refine ⟨q1, fun ss' hss' s'' hs'' => ?_⟩
        rcases List.mem_or_eq_of_mem_set hss' with h1 | rfl
        · exact (h.2 ss' h1 s'' hs'').mono q2
        · rcases List.mem_or_eq_of_mem_set hs'' with h1 | rfl
          · exact (hss s'' h1).mono q2
          · exact q3
      · exact h
    · exact h
theorem gAt_inv {calls : List (List CallS)} (hsh : Short calls) {g : G} (hg : Good calls g) (h : GInv g) (picks : List Int) (j : Nat) : GInv (gAt g picks j) := by
  unfold gAt
  generalize picks.take j = l
  induction l generalizing g with
  | nil => exact h
  | cons t l ih => exact ih (good_pick hsh hg t) (pick_inv hg h t)
theorem fresh_inv (V : List Nat) (c : CallS) : PInv V c.fresh := by
  have ho : c.o = 2 ∨ c.o = 3 := by
    show (2 + c.obj % 2) % 18446744073709551616 = 2 ∨ (2 + c.obj % 2) % 18446744073709551616 = 3
    omega
  unfold CallS.fresh
  split
  · exact ⟨ho, rfl, fun a => by have := a.1; simp at this, fun a => by simp at a, fun a => by simp at a⟩
  · split
    · exact ⟨rfl, rfl, fun a => by simp at a⟩
    · split
      · exact ⟨ho, fun a => by have := a.1; simp at this, fun a => by simp at a, fun a => by simp at a⟩
      · exact ⟨ho, rfl, fun a => by simp at a⟩
end Go.Proofs.Ytipbbnoepphdkaa

set_option linter.unusedVariables false
set_option linter.unusedSimpArgs false
namespace Go.Proofs.Ytipbbnoepphdkaa
open Go Go.CM
attribute [local irreducible] AsBool AsWant AsNat AsInt AsCnt AsPtr AsSlc AsLen AsStr AsAgg AsTup AsFn AsIfc Nth Sc NotNil IsNil Must Cd codeW funW Sat SatL wrapN subM mkRow ltZ leZ ltN leN
variable {con : CallT}

theorem el_pss : elemOk Try.prog 72 73 1 24 = true := by kernel_rfl
theorem sl_pss : ∃ e, Try.prog.underlying 72 = some (.slice e) := ⟨73, by kernel_rfl⟩

theorem AsLen.of {v : Value} {p : Option Addr} {l c : Nat} {K : Nat → Prop} (e : v = .slice p l c) (h : K l) : AsLen v K := by rw [e]; exact AsLen.mk h
theorem IsNil.slcOf {v : Value} {p : Option Addr} {l c : Nat} {K : Bool → Prop} (e : v = .slice p l c) (h : K p.isNone) : IsNil .slc v K := by
  subst e
  cases p with
  | none => exact IsNil.slc0 h
  | some a => exact IsNil.slc h

def longC (calls : List (List CallS)) : Bool := calls.any fun l => decide (4096 < l.length)
theorem law15Long_ok (hc : Con con lives) {L : List HP} {H : CH} {xv : Value} {calls : List (List CallS)} {K : KP} (hs : Sat L H) (hq : Has L (ThrR xv calls)) (hl : calls.length ≤ 1000000000) (k : K (.bool (longC calls)) H) : Call1 Try.prog con 37 [xv] H K := by
  refine call_of (hc _ _ _ rfl) ?_
  rw [law15Long_W]
  obtain ⟨px, cx, ex⟩ := (hs.has hq).len
  refine LoopC.indP (n := 100) (id := 0) (fun σ H1 => H1 = H ∧ longC calls = false) (by kernel_rfl) (fun (i : Nat) σ H1 => σ 0 = xv ∧ σ 3 = iN i ∧ i ≤ calls.length ∧ (calls.take i).any (fun l => decide (4096 < l.length)) = false ∧ H1 = H) (fun i => calls.length - i) (fun i σ H1 hI => ?_) (fun σ H1 hP => ?_) 0 _ _ ⟨rfl, rfl, Nat.zero_le _, rfl, rfl⟩
  · obtain ⟨e0, e3, hi, hno, rfl⟩ := hI
    rw [law15LongL_W]
    simp only [e0, e3, ex]
    repeat (first | refine run ?_ | refine Cd.t rfl ?_ | refine Cd.f rfl ?_ | refine Cd.t (by decide +kernel) ?_ | refine Cd.f (by decide +kernel) ?_ | refine Sc.mk rfl ?_ | refine ld (by assumption) rfl ?_ | refine nw (by assumption) fun _ _ _ => ?_ | refine stB (by assumption) rfl rfl fun _ _ => ?_)
    by_cases hlt : i < calls.length
    · refine Cd.t (ltZ_t hlt) ?_
      obtain ⟨l, el⟩ : ∃ x, calls[i]? = some x := ⟨_, List.getElem?_eq_getElem hlt⟩
      obtain ⟨b, c, cs, eb, _, ⟨xl, ecs, hl'⟩, hld⟩ := rows_at hs hq el
      rw [ex] at eb
      injection eb with eb1 _ _
      subst eb1
      obtain ⟨pl, cl, exl⟩ := RowsR.len hl'
      repeat (first | refine run ?_ | refine Cd.t rfl ?_ | refine Cd.f rfl ?_ | refine Cd.t (by decide +kernel) ?_ | refine Cd.f (by decide +kernel) ?_ | refine Sc.mk rfl ?_ | refine ld (by assumption) rfl ?_ | refine nw (by assumption) fun _ _ _ => ?_ | refine stB (by assumption) rfl rfl fun _ _ => ?_)
      refine Must.mk (ltN_t hlt) (hld _ 0 _ _ (by show 0 + i * 1 = _; omega) (by rw [ecs]; rfl) ?_)
      rw [exl]
      repeat (first | refine run ?_ | refine Cd.t rfl ?_ | refine Cd.f rfl ?_ | refine Cd.t (by decide +kernel) ?_ | refine Cd.f (by decide +kernel) ?_ | refine Sc.mk rfl ?_ | refine ld (by assumption) rfl ?_ | refine nw (by assumption) fun _ _ _ => ?_ | refine stB (by assumption) rfl rfl fun _ _ => ?_)
      refine Cd.of (fun h => ?_) (fun h => ?_)
      · have : longC calls = true := List.any_eq_true.2 ⟨l, List.mem_of_getElem? el, decide_eq_true (ltZ_e h)⟩
        rw [this] at k
        exact k
      · repeat (first | refine run ?_ | refine Cd.t rfl ?_ | refine Cd.f rfl ?_ | refine Cd.t (by decide +kernel) ?_ | refine Cd.f (by decide +kernel) ?_ | refine Sc.mk rfl ?_ | refine ld (by assumption) rfl ?_ | refine nw (by assumption) fun _ _ _ => ?_ | refine stB (by assumption) rfl rfl fun _ _ => ?_)
        rw [addInt]
        refine inR_nat (by omega) ?_
        show ∃ y, _ ∧ _
        refine ⟨i + 1, by omega, e0.trans (by rw [ex]), rfl, hlt, ?_, rfl⟩
        rw [List.take_add_one, el, List.any_append, hno]
        simp only [Option.toList_some, List.any_cons, List.any_nil, Bool.or_false, Bool.false_or]
        exact decide_eq_false (by have := ltZ_n h; omega)
    · refine Cd.f (ltZ_f (by omega)) ?_
      show _ = _ ∧ _
      rw [List.take_of_length_le (by omega)] at hno
      exact ⟨rfl, rfl, hno⟩
  · obtain ⟨rfl, hno⟩ := hP
    show Cd _ _ _
    refine Cd.t (eqN_self 0) ?_
    rw [hno] at k
    exact k

def stOf (calls : List (List CallS)) : List (List PrS) := calls.map fun cs => cs.map CallS.fresh
theorem objs_snoc {prs : List (List Value)} {st : List (List PrS)} {l : List Value} {ss : List PrS} (h : prs.length = st.length) : objsL (prs ++ [l]) (st ++ [ss]) = objsL prs st ++ [SatL (List.zipWith PrcAt l ss)] := by
  unfold objsL; rw [List.zipWith_append h]; rfl

theorem cutLeavesB_ok (hc : Con con lives) {calls : List (List CallS)} {R : List HP} {H : CH} {i : Nat} {cs : List CallS} {xv : Value} {σ : TF} {Q : KX} (hcl : calls.length ≤ 1000000000) (hl : cs.length ≤ 1000000000) (hst : ∀ c ∈ cs, c.st.length ≤ 1000000000) (ec : calls[i]? = some cs) (hR : Has R (ThrR xv calls)) (hs : Sat R H)
    (e0 : σ 0 = xv) (e10 : σ 8 = iN i) (e11 : σ 9 = snil) (e12 : σ 10 = iN 0)
    (k : ∀ σ1 H1 v l, σ1 0 = xv → σ1 1 = σ 1 → σ1 5 = σ 5 → σ1 7 = σ 7 → σ1 8 = iN i → σ1 9 = v → l.length = cs.length → l.all isCell = true → Sat (Vec v 76 1 (l.map fun x => [x]) :: SatL (List.zipWith PrcAt l (cs.map CallS.fresh)) :: R) H1 → Q (.exit 2) σ1 H1) :
    LoopC Try.prog con (lpAt Try.prog 7 1) σ H Q := by
  refine LoopC.indP (n := 200) (id := 2) (fun σ1 H1 => ∃ v l, σ1 0 = xv ∧ σ1 1 = σ 1 ∧ σ1 5 = σ 5 ∧ σ1 7 = σ 7 ∧ σ1 8 = iN i ∧ σ1 9 = v ∧ l.length = cs.length ∧ l.all isCell = true ∧ Sat (Vec v 76 1 (l.map fun x => [x]) :: SatL (List.zipWith PrcAt l (cs.map CallS.fresh)) :: R) H1) (by kernel_rfl)
    (fun (j : Nat) σ1 H1 => j ≤ cs.length ∧ σ1 10 = iN j ∧ ∃ v l, σ1 0 = xv ∧ σ1 1 = σ 1 ∧ σ1 5 = σ 5 ∧ σ1 7 = σ 7 ∧ σ1 8 = iN i ∧ σ1 9 = v ∧ l.length = j ∧ l.all isCell = true ∧ Sat (Vec v 76 1 (l.map fun x => [x]) :: SatL (List.zipWith PrcAt l ((cs.take j).map CallS.fresh)) :: R) H1)
    (fun j => cs.length - j) (fun j σ1 H1 hI => ?_) (fun σ1 H1 hP => ?_) 0 _ _ ⟨Nat.zero_le _, e12, snil, [], e0, rfl, rfl, rfl, e10, e11, rfl, rfl, (Sat.none hs).nilV.ent (by repeat (first | exact Ent.refl _ | exact Ent.none | apply Ent.cons (by repeat (first | exact Pull.here | apply Pull.there)) | refine Ent.drop ?_))⟩
  · obtain ⟨hj, a12, v, l, a0, a1, a5, a7, a10, a11, hll, hcell, hs1⟩ := hI
    rw [cutLeavesB_W]
    simp only [a0, a10, a12, a11]
    have hR1 : Has (Vec v 76 1 (l.map fun x => [x]) :: SatL (List.zipWith PrcAt l ((cs.take j).map CallS.fresh)) :: R) (ThrR xv calls) := Has.skip (Has.skip hR)
    obtain ⟨b, c, cs1, rfl, _, ⟨xl, ecs, hcl'⟩, hld⟩ := rows_at hs1 hR1 ec
    have hi : i < calls.length := (List.getElem?_eq_some_iff.1 ec).1
    obtain ⟨pl, cl', exl⟩ := RowsR.len hcl'
    repeat (first | refine run ?_ | refine Cd.t rfl ?_ | refine Cd.f rfl ?_ | refine Cd.t (by decide +kernel) ?_ | refine Cd.f (by decide +kernel) ?_ | refine Sc.mk rfl ?_ | refine ld (by assumption) rfl ?_ | refine nw (by assumption) fun _ _ _ => ?_ | refine stB (by assumption) rfl rfl fun _ _ => ?_)
    refine Must.mk (ltN_t hi) (hld _ 0 _ _ (by show 0 + i * 1 = _; omega) (by rw [ecs]; rfl) ?_)
    refine AsLen.of exl ?_
    repeat (first | refine run ?_ | refine Cd.t rfl ?_ | refine Cd.f rfl ?_ | refine Cd.t (by decide +kernel) ?_ | refine Cd.f (by decide +kernel) ?_ | refine Sc.mk rfl ?_ | refine ld (by assumption) rfl ?_ | refine nw (by assumption) fun _ _ _ => ?_ | refine stB (by assumption) rfl rfl fun _ _ => ?_)
    by_cases hlt : j < cs.length
    · refine Cd.t (ltZ_t hlt) ?_
      obtain ⟨cl, ecl⟩ : ∃ x, cs[j]? = some x := ⟨_, List.getElem?_eq_getElem hlt⟩
      repeat (first | refine run ?_ | refine Cd.t rfl ?_ | refine Cd.f rfl ?_ | refine Cd.t (by decide +kernel) ?_ | refine Cd.f (by decide +kernel) ?_ | refine Sc.mk rfl ?_ | refine ld (by assumption) rfl ?_ | refine nw (by assumption) fun _ _ _ => ?_ | refine stB (by assumption) rfl rfl fun _ _ => ?_)
      refine Must.mk (ltN_t hi) (hld _ 0 _ _ (by show 0 + i * 1 = _; omega) (by rw [ecs]; rfl) ?_)
      obtain ⟨bi, ci', cc, rfl, _, ⟨xb, rfl, hnum⟩, hldc⟩ := rows_at' hcl' ecl
      repeat (first | refine run ?_ | refine Cd.t rfl ?_ | refine Cd.f rfl ?_ | refine Cd.t (by decide +kernel) ?_ | refine Cd.f (by decide +kernel) ?_ | refine Sc.mk rfl ?_ | refine ld (by assumption) rfl ?_ | refine nw (by assumption) fun _ _ _ => ?_ | refine stB (by assumption) rfl rfl fun _ _ => ?_)
      refine Must.mk (ltN_t hlt) ?_
      refine hldc _ 0 _ _ (by show 0 + j * 6 + 0 = _; omega) rfl ?_
      refine hldc _ 1 _ _ (by show 0 + j * 6 + 1 = _; omega) rfl ?_
      refine hldc _ 2 _ _ (by show 0 + j * 6 + 2 = _; omega) rfl ?_
      refine hldc _ 3 _ _ (by show 0 + j * 6 + 3 = _; omega) rfl ?_
      refine hldc _ 4 _ _ (by show 0 + j * 6 + 4 = _; omega) rfl ?_
      refine hldc _ 5 _ _ (by show 0 + j * 6 + 5 = _; omega) rfl ?_
      have hd := Sat.dup' hs1 hnum NumsR.ro
      refine law15Begin_ok hc cl hd (fun g a => (Has.here (A := NumsR xb cl.st) (fun a t => NumsR.mono a t) g a).nums) (hst cl (List.mem_of_getElem? ecl)) fun v' H2 h2 => ?_
      have hv' : IfcOk v' := (h2.has (Has.here fun a t => prc_mono a t)).ifc
      refine Sc.mk hv'.cell (nw h2 fun p28 H3 h3 => ?_)
      refine app_vec (new := [[v']]) h3 (by repeat (first | exact Pull.here | apply Pull.there)) el_pr (by omega) sl_pr (Src.cell (n := 1) (by rfl)) rfl (by simp) (by simp; omega) (by simp [hv'.cell]) fun v2 H4 h4 => ?_
      repeat (first | refine run ?_ | refine Cd.t rfl ?_ | refine Cd.f rfl ?_ | refine Cd.t (by decide +kernel) ?_ | refine Cd.f (by decide +kernel) ?_ | refine Sc.mk rfl ?_ | refine ld (by assumption) rfl ?_ | refine nw (by assumption) fun _ _ _ => ?_ | refine stB (by assumption) rfl rfl fun _ _ => ?_)
      rw [addInt]
      refine inR_nat (by omega) ?_
      show ∃ y, _ ∧ _
      refine ⟨j + 1, by omega, hlt, rfl, v2, l ++ [v'], a0, a1, a5, a7, a10, rfl, by simp [hll], by simp [hcell, hv'.cell], ?_⟩
      have e1 : (l.map fun x => [x]) ++ [[v']] = (l ++ [v']).map fun x => [x] := by simp
      have e2 : List.zipWith PrcAt l ((cs.take j).map CallS.fresh) ++ [PrcAt v' cl.fresh] = List.zipWith PrcAt (l ++ [v']) ((cs.take (j + 1)).map CallS.fresh) := by
        rw [List.take_add_one, ecl]
        simp only [Option.toList_some, List.map_append, List.map_cons, List.map_nil]
        rw [List.zipWith_append (by simp; omega)]; rfl
      rw [e1] at h4
      have h5 : Sat (PrcAt v' cl.fresh :: SatL (List.zipWith PrcAt l ((cs.take j).map CallS.fresh)) :: Vec v2 76 1 ((l ++ [v']).map fun x => [x]) :: R) H4 := h4.ent (by repeat (first | exact Ent.refl _ | exact Ent.none | apply Ent.cons (by repeat (first | exact Pull.here | apply Pull.there)) | refine Ent.drop ?_))
      have h6 := h5.snoc
      rw [e2] at h6
      exact h6.ent (by repeat (first | exact Ent.refl _ | exact Ent.none | apply Ent.cons (by repeat (first | exact Pull.here | apply Pull.there)) | refine Ent.drop ?_))
    · refine Cd.f (ltZ_f (by omega)) ?_
      show _ = _ ∧ _
      have : j = cs.length := by omega
      subst this
      rw [List.take_of_length_le (Nat.le_refl _)] at hs1
      exact ⟨rfl, v, l, a0, a1, a5, a7, a10, a11, hll, hcell, hs1⟩
  · obtain ⟨v, l, a0, a1, a5, a7, a10, a11, hll, hcell, hs1⟩ := hP
    exact k σ1 H1 v l a0 a1 a5 a7 a10 a11 hll hcell hs1
end Go.Proofs.Ytipbbnoepphdkaa

set_option linter.unusedVariables false
set_option linter.unusedSimpArgs false
namespace Go.Proofs.Ytipbbnoepphdkaa
open Go Go.CM
attribute [local irreducible] AsBool AsWant AsNat AsInt AsCnt AsPtr AsSlc AsLen AsStr AsAgg AsTup AsFn AsIfc Nth Sc NotNil IsNil Must Cd codeW funW Sat SatL wrapN subM mkRow ltZ leZ ltN leN
variable {con : CallT}

def olderB (V : List Nat) (A : Nat) : Bool := eqN A 0 || V.any fun v => eqN v A
def rowB (V : List Nat) (a : Nat) : Bool := V.any fun v => eqN (addM v 2) a
theorem older_succ {V : List Nat} {k A : Nat} (h : k < V.length) : olderB (V.take (k + 1)) A = (olderB (V.take k) A || eqN (V.getD k 0) A) := by
  unfold olderB; rw [any_take_succ _ h, Bool.or_assoc]
theorem row_succ {V : List Nat} {k a : Nat} (h : k < V.length) : rowB (V.take (k + 1)) a = (rowB (V.take k) a || eqN (addM (V.getD k 0) 2) a) := by
  unfold rowB; rw [any_take_succ _ h]

theorem leavesD_ok (hc : Con con lives) {L : List HP} {H : CH} {b e i : Nat} {tr : List Acs} {vs : List Value} {a : Acs} {w xv : Value} {V : List Nat} {σ : TF} {Q : KX} (hs : Sat L H)
    (hV : Has L (Vec (slc b 0 tr.length tr.length) e 8 (List.zipWith encA tr vs))) (hW : Has L (Vec xv tU 1 (V.map fun v => [u64 v]))) (ha : tr[i]? = some a) (hw : vs[i]? = some w) (hl : V.length ≤ 1000000000)
    (e12 : σ 12 = slc b 0 tr.length tr.length) (e13 : σ 13 = xv) (e14 : σ 14 = iN i) (e15 : σ 15 = .bool (eqN a.x 0)) (e16 : σ 16 = .bool false) (e17 : σ 17 = iN 0)
    (kk : ∀ σ1, σ1 12 = slc b 0 tr.length tr.length → σ1 13 = xv → σ1 14 = iN i → σ1 15 = .bool (olderB V a.x) → σ1 16 = .bool (rowB V a.a) → Q (.exit 6) σ1 H) :
    LoopC Try.prog con (lpAt Try.prog 7 3) σ H Q := by
  have hin : i < tr.length := (List.getElem?_eq_some_iff.1 ha).1
  refine LoopC.indP (n := 200) (id := 6) (fun σ1 H1 => H1 = H ∧ σ1 12 = slc b 0 tr.length tr.length ∧ σ1 13 = xv ∧ σ1 14 = iN i ∧ σ1 15 = .bool (olderB V a.x) ∧ σ1 16 = .bool (rowB V a.a)) (by kernel_rfl)
    (fun (k : Nat) σ1 H1 => H1 = H ∧ k ≤ V.length ∧ σ1 12 = slc b 0 tr.length tr.length ∧ σ1 13 = xv ∧ σ1 14 = iN i ∧ σ1 15 = .bool (olderB (V.take k) a.x) ∧ σ1 16 = .bool (rowB (V.take k) a.a) ∧ σ1 17 = iN k)
    (fun k => V.length - k) (fun k σ1 H1 hI => ?_) (fun σ1 H1 hP => ?_) 0 _ _ ⟨rfl, Nat.zero_le _, e12, e13, e14, by rw [e15, List.take_zero]; simp [olderB], by rw [e16, List.take_zero]; rfl, e17⟩
  · obtain ⟨rfl, hk, a12, a13, a14, a15, a16, a17⟩ := hI
    rw [cutLeavesD_W]
    simp only [a12, a14, a15, a16, a17]
    obtain ⟨pw, ew⟩ := (hs.has hW).shape
    rw [List.length_map] at ew
    refine AsLen.of (a13.trans ew) ?_
    repeat (first | refine run ?_ | refine Cd.t rfl ?_ | refine Cd.f rfl ?_ | refine Cd.t (by decide +kernel) ?_ | refine Cd.f (by decide +kernel) ?_ | refine Sc.mk rfl ?_ | refine ld (by assumption) rfl ?_ | refine nw (by assumption) fun _ _ _ => ?_ | refine stB (by assumption) rfl rfl fun _ _ => ?_)
    by_cases hlt : k < V.length
    · refine Cd.t (ltZ_t hlt) ?_
      have hr : (V.map fun v => [u64 v])[k]? = some [u64 (V.getD k 0)] := by rw [List.getElem?_map, List.getElem?_eq_getElem hlt, List.getD_eq_getElem?_getD, List.getElem?_eq_getElem hlt]; rfl
      obtain ⟨bw, ebw, _⟩ := (hs.has hW).slot hr
      rw [List.length_map] at ebw
      have a13' : σ1 13 = slc bw 0 V.length V.length := a13.trans ebw
      have next : ∀ σ2 : TF, σ2 12 = slc b 0 tr.length tr.length → σ2 13 = xv → σ2 14 = iN i → σ2 15 = .bool (olderB (V.take k) a.x || eqN (V.getD k 0) a.x) → σ2 16 = .bool (rowB (V.take k) a.a || eqN (addM (V.getD k 0) 2) a.a) → σ2 17 = iN (k + 1) →
          ∃ y, V.length - y < V.length - k ∧ H1 = H1 ∧ y ≤ V.length ∧ σ2 12 = slc b 0 tr.length tr.length ∧ σ2 13 = xv ∧ σ2 14 = iN i ∧ σ2 15 = .bool (olderB (V.take y) a.x) ∧ σ2 16 = .bool (rowB (V.take y) a.a) ∧ σ2 17 = iN y := fun σ2 c12 c13 c14 c15 c16 c17 =>
        ⟨k + 1, by omega, rfl, hlt, c12, c13, c14, by rw [older_succ hlt]; exact c15, by rw [row_succ hlt]; exact c16, c17⟩
      rw [a13']
      repeat (first | refine run ?_ | refine Cd.t rfl ?_ | refine Cd.f rfl ?_ | refine Cd.t (by decide +kernel) ?_ | refine Cd.f (by decide +kernel) ?_ | refine Sc.mk rfl ?_ | refine ld (by assumption) rfl ?_ | refine nw (by assumption) fun _ _ _ => ?_ | refine stB (by assumption) rfl rfl fun _ _ => ?_)
      cases h15 : olderB (V.take k) a.x with
      | true =>
        rw [h15] at next
        refine Cd.t rfl ?_
        repeat (first | refine run ?_ | refine Cd.t rfl ?_ | refine Cd.f rfl ?_ | refine Cd.t (by decide +kernel) ?_ | refine Cd.f (by decide +kernel) ?_ | refine Sc.mk rfl ?_ | refine ld (by assumption) rfl ?_ | refine nw (by assumption) fun _ _ _ => ?_ | refine stB (by assumption) rfl rfl fun _ _ => ?_)
        cases h16 : rowB (V.take k) a.a with
        | true =>
          rw [h16] at next
          refine Cd.t rfl ?_
          repeat (first | refine run ?_ | refine Cd.t rfl ?_ | refine Cd.f rfl ?_ | refine Cd.t (by decide +kernel) ?_ | refine Cd.f (by decide +kernel) ?_ | refine Sc.mk rfl ?_ | refine ld (by assumption) rfl ?_ | refine nw (by assumption) fun _ _ _ => ?_ | refine stB (by assumption) rfl rfl fun _ _ => ?_)
          rw [addInt]
          refine inR_nat (by omega) ?_
          exact next _ a12 a13 a14 rfl rfl rfl
        | false =>
          rw [h16] at next
          refine Cd.f rfl ?_
          repeat (first | refine run ?_ | refine Cd.t rfl ?_ | refine Cd.f rfl ?_ | refine Cd.t (by decide +kernel) ?_ | refine Cd.f (by decide +kernel) ?_ | refine Sc.mk rfl ?_ | refine ld (by assumption) rfl ?_ | refine nw (by assumption) fun _ _ _ => ?_ | refine stB (by assumption) rfl rfl fun _ _ => ?_)
          refine Must.mk (ltN_t hlt) (ldVec hs hW ebw hr (j := 0) (by show 0 + k * 1 = _; omega) (by omega) rfl ?_)
          repeat (first | refine run ?_ | refine Cd.t rfl ?_ | refine Cd.f rfl ?_ | refine Cd.t (by decide +kernel) ?_ | refine Cd.f (by decide +kernel) ?_ | refine Sc.mk rfl ?_ | refine ld (by assumption) rfl ?_ | refine nw (by assumption) fun _ _ _ => ?_ | refine stB (by assumption) rfl rfl fun _ _ => ?_)
          refine Must.mk (ltN_t hin) (ldTr hs hV rfl ha hw (j := 2) (by show 0 + i * 8 + 2 = _; omega) (by omega) rfl ?_)
          repeat (first | refine run ?_ | refine Cd.t rfl ?_ | refine Cd.f rfl ?_ | refine Cd.t (by decide +kernel) ?_ | refine Cd.f (by decide +kernel) ?_ | refine Sc.mk rfl ?_ | refine ld (by assumption) rfl ?_ | refine nw (by assumption) fun _ _ _ => ?_ | refine stB (by assumption) rfl rfl fun _ _ => ?_)
          rw [addInt]
          refine inR_nat (by omega) ?_
          exact next _ a12 a13 a14 rfl rfl rfl
      | false =>
        rw [h15] at next
        refine Cd.f rfl ?_
        repeat (first | refine run ?_ | refine Cd.t rfl ?_ | refine Cd.f rfl ?_ | refine Cd.t (by decide +kernel) ?_ | refine Cd.f (by decide +kernel) ?_ | refine Sc.mk rfl ?_ | refine ld (by assumption) rfl ?_ | refine nw (by assumption) fun _ _ _ => ?_ | refine stB (by assumption) rfl rfl fun _ _ => ?_)
        refine Must.mk (ltN_t hlt) (ldVec hs hW ebw hr (j := 0) (by show 0 + k * 1 = _; omega) (by omega) rfl ?_)
        repeat (first | refine run ?_ | refine Cd.t rfl ?_ | refine Cd.f rfl ?_ | refine Cd.t (by decide +kernel) ?_ | refine Cd.f (by decide +kernel) ?_ | refine Sc.mk rfl ?_ | refine ld (by assumption) rfl ?_ | refine nw (by assumption) fun _ _ _ => ?_ | refine stB (by assumption) rfl rfl fun _ _ => ?_)
        refine Must.mk (ltN_t hin) (ldTr hs hV rfl ha hw (j := 3) (by show 0 + i * 8 + 3 = _; omega) (by omega) rfl ?_)
        repeat (first | refine run ?_ | refine Cd.t rfl ?_ | refine Cd.f rfl ?_ | refine Cd.t (by decide +kernel) ?_ | refine Cd.f (by decide +kernel) ?_ | refine Sc.mk rfl ?_ | refine ld (by assumption) rfl ?_ | refine nw (by assumption) fun _ _ _ => ?_ | refine stB (by assumption) rfl rfl fun _ _ => ?_)
        cases h16 : rowB (V.take k) a.a with
        | true =>
          rw [h16] at next
          refine Cd.t rfl ?_
          repeat (first | refine run ?_ | refine Cd.t rfl ?_ | refine Cd.f rfl ?_ | refine Cd.t (by decide +kernel) ?_ | refine Cd.f (by decide +kernel) ?_ | refine Sc.mk rfl ?_ | refine ld (by assumption) rfl ?_ | refine nw (by assumption) fun _ _ _ => ?_ | refine stB (by assumption) rfl rfl fun _ _ => ?_)
          rw [addInt]
          refine inR_nat (by omega) ?_
          exact next _ a12 a13 a14 rfl rfl rfl
        | false =>
          rw [h16] at next
          refine Cd.f rfl ?_
          repeat (first | refine run ?_ | refine Cd.t rfl ?_ | refine Cd.f rfl ?_ | refine Cd.t (by decide +kernel) ?_ | refine Cd.f (by decide +kernel) ?_ | refine Sc.mk rfl ?_ | refine ld (by assumption) rfl ?_ | refine nw (by assumption) fun _ _ _ => ?_ | refine stB (by assumption) rfl rfl fun _ _ => ?_)
          refine Must.mk (ltN_t hlt) (ldVec hs hW ebw hr (j := 0) (by show 0 + k * 1 = _; omega) (by omega) rfl ?_)
          repeat (first | refine run ?_ | refine Cd.t rfl ?_ | refine Cd.f rfl ?_ | refine Cd.t (by decide +kernel) ?_ | refine Cd.f (by decide +kernel) ?_ | refine Sc.mk rfl ?_ | refine ld (by assumption) rfl ?_ | refine nw (by assumption) fun _ _ _ => ?_ | refine stB (by assumption) rfl rfl fun _ _ => ?_)
          refine Must.mk (ltN_t hin) (ldTr hs hV rfl ha hw (j := 2) (by show 0 + i * 8 + 2 = _; omega) (by omega) rfl ?_)
          repeat (first | refine run ?_ | refine Cd.t rfl ?_ | refine Cd.f rfl ?_ | refine Cd.t (by decide +kernel) ?_ | refine Cd.f (by decide +kernel) ?_ | refine Sc.mk rfl ?_ | refine ld (by assumption) rfl ?_ | refine nw (by assumption) fun _ _ _ => ?_ | refine stB (by assumption) rfl rfl fun _ _ => ?_)
          rw [addInt]
          refine inR_nat (by omega) ?_
          exact next _ a12 a13 a14 rfl rfl rfl
    · refine Cd.f (ltZ_f (by omega)) ?_
      show _ = _ ∧ _
      rw [List.take_of_length_le (by omega)] at a15 a16
      exact ⟨rfl, rfl, a12, a13, a14, a15, a16⟩
  · obtain ⟨rfl, a12, a13, a14, a15, a16⟩ := hP
    exact kk σ1 a12 a13 a14 a15 a16
end Go.Proofs.Ytipbbnoepphdkaa

set_option linter.unusedVariables false
set_option linter.unusedSimpArgs false
namespace Go.Proofs.Ytipbbnoepphdkaa
open Go Go.CM
attribute [local irreducible] AsBool AsWant AsNat AsInt AsCnt AsPtr AsSlc AsLen AsStr AsAgg AsTup AsFn AsIfc Nth Sc NotNil IsNil Must Cd codeW funW Sat SatL wrapN subM mkRow ltZ leZ ltN leN
variable {con : CallT}

theorem vers_len (l : List Acs) : (vers l).length ≤ l.length := by
  unfold vers
  exact Nat.le_trans (List.length_filterMap_le _ _) (by simp)
theorem vers_take {tr : List Acs} {i : Nat} {a : Acs} (h1 : 1 ≤ i) (ha : tr[i]? = some a) : vers (tr.take (i + 1)) = vers (tr.take i) ++ (if a.kind = 5 ∧ a.a ≠ 0 then [a.a] else []) := by
  rw [List.take_add_one, ha]
  refine vers_snoc ?_ a
  intro h
  have h2 := congrArg List.length h
  have h3 := (List.getElem?_eq_some_iff.1 ha).1
  rw [List.length_take] at h2
  simp only [List.length_nil] at h2
  omega

theorem leavesC_ok (hc : Con con lives) {L : List HP} {H : CH} {b e : Nat} {tr : List Acs} {vs : List Value} {σ : TF} {Q : KX} (hs : Sat L H) (hok : TrOk tr) (hl : tr.length ≤ 1000000000) (hvs : vs.length = tr.length) (hpos : 1 ≤ tr.length)
    (hV : Has L (Vec (slc b 0 tr.length tr.length) e 8 (List.zipWith encA tr vs)))
    (e12 : σ 12 = slc b 0 tr.length tr.length) (e13 : σ 13 = snil) (e14 : σ 14 = iN 1) (kk : ∀ σ1 H1, Q (.exit 4) σ1 H1) :
    LoopC Try.prog con (lpAt Try.prog 7 2) σ H Q := by
  refine LoopC.indP (n := 200) (id := 4) (fun σ1 H1 => True) (by kernel_rfl)
    (fun (i : Nat) σ1 H1 => 1 ≤ i ∧ i ≤ tr.length ∧ σ1 12 = slc b 0 tr.length tr.length ∧ σ1 14 = iN i ∧ ∃ xv, σ1 13 = xv ∧ Sat (Vec xv tU 1 ((vers (tr.take i)).map fun v => [u64 v]) :: L) H1)
    (fun i => tr.length - i) (fun i σ1 H1 hI => ?_) (fun σ1 H1 hP => kk σ1 H1) 1 _ _ ⟨Nat.le_refl _, hpos, e12, e14, snil, e13, ?_⟩
  · obtain ⟨h1, hi, a12, a14, xv, a13, hs1⟩ := hI
    rw [cutLeavesC_W]
    simp only [a12, a14]
    repeat (first | refine run ?_ | refine Cd.t rfl ?_ | refine Cd.f rfl ?_ | refine Cd.t (by decide +kernel) ?_ | refine Cd.f (by decide +kernel) ?_ | refine Sc.mk rfl ?_ | refine ld (by assumption) rfl ?_ | refine nw (by assumption) fun _ _ _ => ?_ | refine stB (by assumption) rfl rfl fun _ _ => ?_)
    by_cases hlt : i < tr.length
    · refine Cd.t (ltZ_t hlt) ?_
      obtain ⟨a, ha⟩ : ∃ a, tr[i]? = some a := ⟨_, List.getElem?_eq_getElem hlt⟩
      obtain ⟨w, hw⟩ : ∃ w, vs[i]? = some w := ⟨_, List.getElem?_eq_getElem (by omega)⟩
      have hV1 : ∀ {A : HP}, Has (A :: L) (Vec (slc b 0 tr.length tr.length) e 8 (List.zipWith encA tr vs)) := Has.skip hV
      have hvl := vers_len (tr.take i)
      rw [List.length_take] at hvl
      have hvt := vers_take h1 ha
      have next : ∀ (σ2 : TF) (H2 : CH) (x2 : Value), σ2 12 = slc b 0 tr.length tr.length → σ2 14 = iN (i + 1) → σ2 13 = x2 → Sat (Vec x2 tU 1 ((vers (tr.take (i + 1))).map fun v => [u64 v]) :: L) H2 →
          ∃ y, tr.length - y < tr.length - i ∧ 1 ≤ y ∧ y ≤ tr.length ∧ σ2 12 = slc b 0 tr.length tr.length ∧ σ2 14 = iN y ∧ ∃ xv, σ2 13 = xv ∧ Sat (Vec xv tU 1 ((vers (tr.take y)).map fun v => [u64 v]) :: L) H2 :=
        fun σ2 H2 x2 c12 c14 c13 h2 => ⟨i + 1, by omega, by omega, hlt, c12, c14, x2, c13, h2⟩
      repeat (first | refine run ?_ | refine Cd.t rfl ?_ | refine Cd.f rfl ?_ | refine Cd.t (by decide +kernel) ?_ | refine Cd.f (by decide +kernel) ?_ | refine Sc.mk rfl ?_ | refine ld (by assumption) rfl ?_ | refine nw (by assumption) fun _ _ _ => ?_ | refine stB (by assumption) rfl rfl fun _ _ => ?_)
      refine Must.mk (ltN_t hlt) (ldTr hs1 hV1 rfl ha hw (j := 1) (by show 0 + i * 8 + 1 = _; omega) (by omega) rfl ?_)
      repeat (first | refine run ?_ | refine Cd.t rfl ?_ | refine Cd.f rfl ?_ | refine Cd.t (by decide +kernel) ?_ | refine Cd.f (by decide +kernel) ?_ | refine Sc.mk rfl ?_ | refine ld (by assumption) rfl ?_ | refine nw (by assumption) fun _ _ _ => ?_ | refine stB (by assumption) rfl rfl fun _ _ => ?_)
      by_cases hk : a.kind = 5
      · refine Cd.t (eqN_t hk) ?_
        repeat (first | refine run ?_ | refine Cd.t rfl ?_ | refine Cd.f rfl ?_ | refine Cd.t (by decide +kernel) ?_ | refine Cd.f (by decide +kernel) ?_ | refine Sc.mk rfl ?_ | refine ld (by assumption) rfl ?_ | refine nw (by assumption) fun _ _ _ => ?_ | refine stB (by assumption) rfl rfl fun _ _ => ?_)
        refine Must.mk (ltN_t hlt) (ldTr hs1 hV1 rfl ha hw (j := 2) (by show 0 + i * 8 + 2 = _; omega) (by omega) rfl ?_)
        repeat (first | refine run ?_ | refine Cd.t rfl ?_ | refine Cd.f rfl ?_ | refine Cd.t (by decide +kernel) ?_ | refine Cd.f (by decide +kernel) ?_ | refine Sc.mk rfl ?_ | refine ld (by assumption) rfl ?_ | refine nw (by assumption) fun _ _ _ => ?_ | refine stB (by assumption) rfl rfl fun _ _ => ?_)
        by_cases hz : a.a = 0
        · refine Cd.f (by rw [eqN_t hz]; rfl) ?_
          repeat (first | refine run ?_ | refine Cd.t rfl ?_ | refine Cd.f rfl ?_ | refine Cd.t (by decide +kernel) ?_ | refine Cd.f (by decide +kernel) ?_ | refine Sc.mk rfl ?_ | refine ld (by assumption) rfl ?_ | refine nw (by assumption) fun _ _ _ => ?_ | refine stB (by assumption) rfl rfl fun _ _ => ?_)
          refine Must.mk (ltN_t hlt) (ldTr hs1 hV1 rfl ha hw (j := 1) (by show 0 + i * 8 + 1 = _; omega) (by omega) rfl ?_)
          repeat (first | refine run ?_ | refine Cd.t rfl ?_ | refine Cd.f rfl ?_ | refine Cd.t (by decide +kernel) ?_ | refine Cd.f (by decide +kernel) ?_ | refine Sc.mk rfl ?_ | refine ld (by assumption) rfl ?_ | refine nw (by assumption) fun _ _ _ => ?_ | refine stB (by assumption) rfl rfl fun _ _ => ?_)
          refine Cd.t (by rw [hk]; rfl) ?_
          repeat (first | refine run ?_ | refine Cd.t rfl ?_ | refine Cd.f rfl ?_ | refine Cd.t (by decide +kernel) ?_ | refine Cd.f (by decide +kernel) ?_ | refine Sc.mk rfl ?_ | refine ld (by assumption) rfl ?_ | refine nw (by assumption) fun _ _ _ => ?_ | refine stB (by assumption) rfl rfl fun _ _ => ?_)
          rw [addInt]
          refine inR_nat (by omega) ?_
          rw [if_neg (fun h => h.2 hz), List.append_nil] at hvt
          exact next _ _ xv a12 rfl a13 (by rw [hvt]; exact hs1)
        · refine Cd.t (by rw [eqN_f hz]; rfl) ?_
          repeat (first | refine run ?_ | refine Cd.t rfl ?_ | refine Cd.f rfl ?_ | refine Cd.t (by decide +kernel) ?_ | refine Cd.f (by decide +kernel) ?_ | refine Sc.mk rfl ?_ | refine ld (by assumption) rfl ?_ | refine nw (by assumption) fun _ _ _ => ?_ | refine stB (by assumption) rfl rfl fun _ _ => ?_)
          refine Must.mk (ltN_t hlt) (ldTr hs1 hV1 rfl ha hw (j := 2) (by show 0 + i * 8 + 2 = _; omega) (by omega) rfl ?_)
          repeat (first | refine run ?_ | refine Cd.t rfl ?_ | refine Cd.f rfl ?_ | refine Cd.t (by decide +kernel) ?_ | refine Cd.f (by decide +kernel) ?_ | refine Sc.mk rfl ?_ | refine ld (by assumption) rfl ?_ | refine nw (by assumption) fun _ _ _ => ?_ | refine stB (by assumption) rfl rfl fun _ _ => ?_)
          rename_i p23 H24 h24
          rw [a13]
          refine app_vec (new := [[u64 a.a]]) h24 (by repeat (first | exact Pull.here | apply Pull.there)) el_u64 (by omega) sl_u64 (Src.cell (n := 1) (by rfl)) rfl (by simp) (by rw [List.length_map]; omega) rfl fun v2 H26 h26 => ?_
          repeat (first | refine run ?_ | refine Cd.t rfl ?_ | refine Cd.f rfl ?_ | refine Cd.t (by decide +kernel) ?_ | refine Cd.f (by decide +kernel) ?_ | refine Sc.mk rfl ?_ | refine ld (by assumption) rfl ?_ | refine nw (by assumption) fun _ _ _ => ?_ | refine stB (by assumption) rfl rfl fun _ _ => ?_)
          refine Must.mk (ltN_t hlt) (ldTr h26 (Has.skip (Has.skip hV)) rfl ha hw (j := 1) (by show 0 + i * 8 + 1 = _; omega) (by omega) rfl ?_)
          repeat (first | refine run ?_ | refine Cd.t rfl ?_ | refine Cd.f rfl ?_ | refine Cd.t (by decide +kernel) ?_ | refine Cd.f (by decide +kernel) ?_ | refine Sc.mk rfl ?_ | refine ld (by assumption) rfl ?_ | refine nw (by assumption) fun _ _ _ => ?_ | refine stB (by assumption) rfl rfl fun _ _ => ?_)
          refine Cd.t (by rw [hk]; rfl) ?_
          repeat (first | refine run ?_ | refine Cd.t rfl ?_ | refine Cd.f rfl ?_ | refine Cd.t (by decide +kernel) ?_ | refine Cd.f (by decide +kernel) ?_ | refine Sc.mk rfl ?_ | refine ld (by assumption) rfl ?_ | refine nw (by assumption) fun _ _ _ => ?_ | refine stB (by assumption) rfl rfl fun _ _ => ?_)
          rw [addInt]
          refine inR_nat (by omega) ?_
          rw [if_pos ⟨hk, hz⟩] at hvt
          refine next _ _ v2 a12 rfl rfl ?_
          rw [hvt, List.map_append]
          exact h26.ent (by repeat (first | exact Ent.refl _ | exact Ent.none | apply Ent.cons (by repeat (first | exact Pull.here | apply Pull.there)) | refine Ent.drop ?_))
      · refine Cd.f (eqN_f hk) ?_
        rw [if_neg (fun h => hk h.1), List.append_nil] at hvt
        repeat (first | refine run ?_ | refine Cd.t rfl ?_ | refine Cd.f rfl ?_ | refine Cd.t (by decide +kernel) ?_ | refine Cd.f (by decide +kernel) ?_ | refine Sc.mk rfl ?_ | refine ld (by assumption) rfl ?_ | refine nw (by assumption) fun _ _ _ => ?_ | refine stB (by assumption) rfl rfl fun _ _ => ?_)
        refine Must.mk (ltN_t hlt) (ldTr hs1 hV1 rfl ha hw (j := 1) (by show 0 + i * 8 + 1 = _; omega) (by omega) rfl ?_)
        repeat (first | refine run ?_ | refine Cd.t rfl ?_ | refine Cd.f rfl ?_ | refine Cd.t (by decide +kernel) ?_ | refine Cd.f (by decide +kernel) ?_ | refine Sc.mk rfl ?_ | refine ld (by assumption) rfl ?_ | refine nw (by assumption) fun _ _ _ => ?_ | refine stB (by assumption) rfl rfl fun _ _ => ?_)
        by_cases hk2 : a.kind = 2
        · refine Cd.f (by rw [hk2]; rfl) ?_
          repeat (first | refine run ?_ | refine Cd.t rfl ?_ | refine Cd.f rfl ?_ | refine Cd.t (by decide +kernel) ?_ | refine Cd.f (by decide +kernel) ?_ | refine Sc.mk rfl ?_ | refine ld (by assumption) rfl ?_ | refine nw (by assumption) fun _ _ _ => ?_ | refine stB (by assumption) rfl rfl fun _ _ => ?_)
          refine Must.mk (ltN_t hlt) (ldTr hs1 hV1 rfl ha hw (j := 3) (by show 0 + i * 8 + 3 = _; omega) (by omega) rfl ?_)
          repeat (first | refine run ?_ | refine Cd.t rfl ?_ | refine Cd.f rfl ?_ | refine Cd.t (by decide +kernel) ?_ | refine Cd.f (by decide +kernel) ?_ | refine Sc.mk rfl ?_ | refine ld (by assumption) rfl ?_ | refine nw (by assumption) fun _ _ _ => ?_ | refine stB (by assumption) rfl rfl fun _ _ => ?_)
          obtain ⟨o1, ⟨v, o2, o3, o4⟩, o5⟩ := hok i a h1 ha hk2
          have hO : olderB (vers (tr.take i)) a.x = true := by
            unfold olderB
            rcases o1 with h | h
            · rw [eqN_t h]; rfl
            · rw [show ((vers (tr.take i)).any fun v => eqN v a.x) = true from List.any_eq_true.2 ⟨a.x, h, eqN_self _⟩, Bool.or_true]
          have hR : rowB (vers (tr.take i)) a.a = true := List.any_eq_true.2 ⟨v, o2, by
            have : addM v 2 = v + 2 := Nat.mod_eq_of_lt (by show v + 2 < _; omega)
            rw [this, o3]; exact eqN_self _⟩
          refine leavesD_ok (xv := xv) (V := vers (tr.take i)) hc hs1 hV1 Has.vec ha hw (by omega) a12 a13 a14 rfl rfl rfl fun σ2 c12 c13 c14 c15 c16 => ?_
          show Cd _ _ _
          refine Cd.t rfl ?_
          simp only [c15, c16, c12, c14, hO, hR]
          repeat (first | refine run ?_ | refine Cd.t rfl ?_ | refine Cd.f rfl ?_ | refine Cd.t (by decide +kernel) ?_ | refine Cd.f (by decide +kernel) ?_ | refine Sc.mk rfl ?_ | refine ld (by assumption) rfl ?_ | refine nw (by assumption) fun _ _ _ => ?_ | refine stB (by assumption) rfl rfl fun _ _ => ?_)
          refine Must.mk (ltN_t hlt) (ldTr hs1 hV1 rfl ha hw (j := 3) (by show 0 + i * 8 + 3 = _; omega) (by omega) rfl ?_)
          repeat (first | refine run ?_ | refine Cd.t rfl ?_ | refine Cd.f rfl ?_ | refine Cd.t (by decide +kernel) ?_ | refine Cd.f (by decide +kernel) ?_ | refine Sc.mk rfl ?_ | refine ld (by assumption) rfl ?_ | refine nw (by assumption) fun _ _ _ => ?_ | refine stB (by assumption) rfl rfl fun _ _ => ?_)
          refine Must.mk (ltN_t hlt) (ldTr hs1 hV1 rfl ha hw (j := 2) (by show 0 + i * 8 + 2 = _; omega) (by omega) rfl ?_)
          repeat (first | refine run ?_ | refine Cd.t rfl ?_ | refine Cd.f rfl ?_ | refine Cd.t (by decide +kernel) ?_ | refine Cd.f (by decide +kernel) ?_ | refine Sc.mk rfl ?_ | refine ld (by assumption) rfl ?_ | refine nw (by assumption) fun _ _ _ => ?_ | refine stB (by assumption) rfl rfl fun _ _ => ?_)
          refine Cd.f (leN_f o5) ?_
          repeat (first | refine run ?_ | refine Cd.t rfl ?_ | refine Cd.f rfl ?_ | refine Cd.t (by decide +kernel) ?_ | refine Cd.f (by decide +kernel) ?_ | refine Sc.mk rfl ?_ | refine ld (by assumption) rfl ?_ | refine nw (by assumption) fun _ _ _ => ?_ | refine stB (by assumption) rfl rfl fun _ _ => ?_)
          rw [addInt]
          refine inR_nat (by omega) ?_
          exact next _ _ xv c12 rfl c13 (by rw [hvt]; exact hs1)
        · refine Cd.t (by rw [eqN_f hk2]; rfl) ?_
          repeat (first | refine run ?_ | refine Cd.t rfl ?_ | refine Cd.f rfl ?_ | refine Cd.t (by decide +kernel) ?_ | refine Cd.f (by decide +kernel) ?_ | refine Sc.mk rfl ?_ | refine ld (by assumption) rfl ?_ | refine nw (by assumption) fun _ _ _ => ?_ | refine stB (by assumption) rfl rfl fun _ _ => ?_)
          rw [addInt]
          refine inR_nat (by omega) ?_
          exact next _ _ xv a12 rfl a13 (by rw [hvt]; exact hs1)
    · refine Cd.f (ltZ_f (by omega)) ?_
      show _ = _ ∧ _
      exact ⟨rfl, trivial⟩
  · have : vers (tr.take 1) = [] := by
      unfold vers
      rw [List.drop_eq_nil_of_le (by rw [List.length_take]; omega)]; rfl
    rw [this]
    exact hs.nilV

theorem inv_first {n : Nat} (h1 : 128 ≤ n) (h2 : n ≤ 4194304) (th : Int) : InvM ((mem0 n).alloc th [1, 0, 0]) := by
  have l0 : (mem0 n).cells.length = n := List.length_replicate
  have hr : 0 < [1, 0, 0].length ∧ [1, 0, 0].length ≤ (mem0 n).cells.length - (mem0 n).free := ⟨by simp, by rw [l0]; show 3 ≤ n - 1; omega⟩
  rw [alloc_t hr.1 hr.2]
  have e1 : (((mem0 n).take [1, 0, 0]).note (accNew th (mem0 n).free [1, 0, 0])).tr = [accNew th 1 [1, 0, 0]] := rfl
  have l1 : ((mem0 n).take [1, 0, 0]).cells.length = n := by show (ovN _ _ _).length = n; rw [ovN_len, l0]
  have l3 : ∀ b, ((mem0 n).take [1, 0, 0]).peek b = if 1 ≤ b ∧ b < 4 then [1, 0, 0].getD (b - 1) 0 else 0 := fun b => by
    have := peek_ov (l := List.replicate n 0) (vals := [1, 0, 0]) (o := 1) (b := b) (by rw [List.length_replicate]; show 1 + 3 ≤ n; omega)
    show (ovN [1, 0, 0] (List.replicate n 0) 1).getD b 0 = _
    rw [this]
    have e0 : (List.replicate n 0).getD b 0 = 0 := by
      rw [List.getD_eq_getElem?_getD, List.getElem?_replicate]; split <;> rfl
    rw [e0]; rfl
  have l2 : ((mem0 n).take [1, 0, 0]).free = 4 := rfl
  generalize (mem0 n).take [1, 0, 0] = M at *
  have hv : vers (M.note (accNew th (mem0 n).free [1, 0, 0])).tr = [] := by rw [e1]; rfl
  refine ⟨by rw [e1]; simp, fun i a hi ha => ?_, ?_⟩
  · rw [e1] at ha
    have := (List.getElem?_eq_some_iff.1 ha).1
    simp at this
    omega
  · rw [hv]
    exact ⟨⟨by show M.free ≤ M.cells.length; omega, by show M.cells.length ≤ _; omega, by show 4 ≤ M.free; omega⟩, fun v h => (nomatch h), fun v h => (nomatch h), fun v h => (nomatch h), fun o ho => .inl (by show M.peek o = 0; rw [l3]; rcases ho with rfl | rfl <;> rfl), by show M.peek 1 ≠ 0; rw [l3]; decide⟩

theorem cutLeaves_ok (hc : Con con lives) (hlive : ∀ H, con 11 ⟨[]⟩ H = some (.bool true, H)) {R : List HP} {H : CH} {xv xw : Value} {threads : List (List CallS)} {picks : List Int}
    (hs : Sat (ThrR xv threads :: IntsR xw picks :: R) H) (hl1 : threads.length ≤ 10000000) (hl2 : ∀ cs ∈ threads, cs.length ≤ 10000000 ∧ ∀ c ∈ cs, c.st.length ≤ 1000000000) (hl3 : picks.length < 100000000) :
    Call1 Try.prog con 7 [xv, xw] H (fun v _ => v = .bool true) := by
  refine call_of (hc _ _ _ rfl) ?_
  rw [cutLeaves_W]
  refine arenaNew_ok hc hs (by omega) (by omega) fun m H2 g2 => ?_
  refine AsTup.mk (Nth.mk rfl (AsTup.mk (Nth.mk rfl (call_con (hlive _) (AsBool.mk (Cd.f rfl (AsInt.mk (Cd.f rfl ?_))))))))
  refine memView_ok hc g2 fun q H4 g4 => ?_
  refine nw g4 fun p1 H5 g5 => ?_
  refine viewAlloc_ok (vals := [1, 0, 0]) hc g5 (by repeat (first | exact Pull.here | apply Pull.there)) (by repeat (first | exact Pull.here | apply Pull.there)) (Has.own3 (l := [1, 0, 0])) (by simp) (by omega) (by show 0 < _; omega) fun H8 g8 => ?_
  generalize hM1 : (mem0 4096).alloc (Int.negSucc 0) [1, 0, 0] = M1 at g8
  have g9 : Sat (MemP m M1 :: ThrR xv threads :: IntsR xw picks :: R) H8 := g8.ent (by repeat (first | exact Ent.refl _ | exact Ent.none | apply Ent.cons (by repeat (first | exact Pull.here | apply Pull.there)) | refine Ent.drop ?_))
  have tr1 : M1.tr.length = 1 := by rw [← hM1, alloc_tr]; rfl
  have calm1 : CalmV M1 := by
    rw [← hM1]
    refine CalmV.alloc ?_ (by simp)
    exact fun a ha => nomatch ha
  have inv1 : InvM M1 := by rw [← hM1]; exact inv_first (by omega) (by omega) _
  clear g2 g4 g5 g8
  obtain ⟨pxv, cxv, exv⟩ := (g9.has (Has.skip (Has.here fun a t => ThrR.mono a t))).len
  refine LoopC.indP (n := 200) (id := 0) (fun σ H => σ 0 = xv ∧ σ 1 = xw ∧ σ 5 = ptr m 0 ∧ ∃ ts lvs prs, σ 7 = ts ∧ prs.map List.length = threads.map List.length ∧ lvs.length = prs.length ∧ (∀ l ∈ prs, l.all isCell = true) ∧
      Sat (Vec ts 73 1 (lvs.map fun x => [x]) :: SatL (procsL lvs prs) :: SatL (objsL prs (stOf threads)) :: MemP m M1 :: ThrR xv threads :: IntsR xw picks :: R) H) (by kernel_rfl)
    (fun (i : Nat) σ H => σ 0 = xv ∧ σ 1 = xw ∧ σ 5 = ptr m 0 ∧ σ 8 = iN i ∧ i ≤ threads.length ∧ ∃ ts lvs prs, σ 7 = ts ∧ prs.map List.length = (threads.take i).map List.length ∧ lvs.length = prs.length ∧ (∀ l ∈ prs, l.all isCell = true) ∧
      Sat (Vec ts 73 1 (lvs.map fun x => [x]) :: SatL (procsL lvs prs) :: SatL (objsL prs (stOf (threads.take i))) :: MemP m M1 :: ThrR xv threads :: IntsR xw picks :: R) H)
    (fun i => threads.length - i) (fun i σ H hI => ?_) (fun σ H hP => ?_) 0 _ _ ⟨rfl, rfl, rfl, rfl, Nat.zero_le _, snil, [], [], rfl, rfl, rfl, (fun l hl => nomatch hl), (Sat.none (Sat.none g9)).nilV.ent (by repeat (first | exact Ent.refl _ | exact Ent.none | apply Ent.cons (by repeat (first | exact Pull.here | apply Pull.there)) | refine Ent.drop ?_))⟩
  · obtain ⟨e0, e1, e5, e10, hi, ts, lvs, prs, e9, hpl, hll, hcell, hs1⟩ := hI
    rw [cutLeavesA_W]
    simp only [e10]
    refine AsLen.of (e0.trans exv) ?_
    repeat (first | refine run ?_ | refine Cd.t rfl ?_ | refine Cd.f rfl ?_ | refine Cd.t (by decide +kernel) ?_ | refine Cd.f (by decide +kernel) ?_ | refine Sc.mk rfl ?_ | refine ld (by assumption) rfl ?_ | refine nw (by assumption) fun _ _ _ => ?_ | refine stB (by assumption) rfl rfl fun _ _ => ?_)
    by_cases hlt : i < threads.length
    · refine Cd.t (ltZ_t hlt) ?_
      obtain ⟨cs, ec⟩ : ∃ x, threads[i]? = some x := ⟨_, List.getElem?_eq_getElem hlt⟩
      have hcs := hl2 cs (List.mem_of_getElem? ec)
      refine cutLeavesB_ok hc (cs := cs) (calls := threads) (i := i) (by omega) (by omega) hcs.2 ec (Has.skip (Has.skip (Has.skip (Has.skip (Has.here fun a t => ThrR.mono a t))))) hs1 e0 e10 rfl rfl fun σ1 H1 v l a0 a1 a5 a7 a10 a11 hl hcl h1 => ?_
      show Cd _ _ _
      refine Cd.t rfl ?_
      obtain ⟨pv, ev⟩ := (h1.has Has.vec).shape
      rw [List.length_map] at ev
      subst ev
      simp only [a10, a11]
      refine Sc.mk rfl (nw h1 fun p11 H2 h2 => ?_)
      rw [show σ1 7 = ts from a7.trans e9]
      have epl : prs.length = i := by have := congrArg List.length hpl; simp at this; omega
      refine app_vec (x := ts) (new := [[.slice pv l.length l.length]]) h2 (by repeat (first | exact Pull.here | apply Pull.there)) el_pss (by omega) sl_pss (Src.cell (n := 1) (by rfl)) rfl (by simp) (by simp; omega) rfl fun v2 H3 h3 => ?_
      refine AsInt.mk ?_
      rw [addInt]
      refine inR_nat (by omega) ?_
      show ∃ y, _ ∧ _
      refine ⟨i + 1, by omega, a0, a1.trans e1, a5.trans e5, rfl, hlt, v2, lvs ++ [Value.slice pv l.length l.length], prs ++ [l], rfl, ?_, by simp [hll], ?_, ?_⟩
      · rw [List.take_add_one, ec]; simp [hpl, hl]
      · intro x hx
        rcases List.mem_append.1 hx with h | h
        · exact hcell x h
        · rw [List.mem_singleton.1 h]; exact hcl
      · have e1 : (lvs.map fun x => [x]) ++ [[Value.slice pv l.length l.length]] = (lvs ++ [Value.slice pv l.length l.length]).map fun x => [x] := by simp
        have e2 : procsL lvs prs ++ [Vec (Value.slice pv l.length l.length) 76 1 (l.map fun x => [x])] = procsL (lvs ++ [Value.slice pv l.length l.length]) (prs ++ [l]) := (procsL_snoc hll).symm
        have e3 : objsL prs (stOf (threads.take i)) ++ [SatL (List.zipWith PrcAt l (cs.map CallS.fresh))] = objsL (prs ++ [l]) (stOf (threads.take (i + 1))) := by
          rw [List.take_add_one, ec]
          simp only [stOf, Option.toList_some, List.map_append, List.map_cons, List.map_nil]
          rw [objs_snoc (by simp; omega)]
        rw [e1] at h3
        have h4 : Sat (Vec (Value.slice pv l.length l.length) 76 1 (l.map fun x => [x]) :: SatL (procsL lvs prs) :: SatL (List.zipWith PrcAt l (cs.map CallS.fresh)) :: SatL (objsL prs (stOf (threads.take i))) :: Vec v2 73 1 ((lvs ++ [Value.slice pv l.length l.length]).map fun x => [x]) :: MemP m M1 :: ThrR xv threads :: IntsR xw picks :: R) H3 := h3.ent (by repeat (first | exact Ent.refl _ | exact Ent.none | apply Ent.cons (by repeat (first | exact Pull.here | apply Pull.there)) | refine Ent.drop ?_))
        have h5 := h4.snoc
        rw [e2] at h5
        have h6 : Sat (SatL (List.zipWith PrcAt l (cs.map CallS.fresh)) :: SatL (objsL prs (stOf (threads.take i))) :: SatL (procsL (lvs ++ [Value.slice pv l.length l.length]) (prs ++ [l])) :: Vec v2 73 1 ((lvs ++ [Value.slice pv l.length l.length]).map fun x => [x]) :: MemP m M1 :: ThrR xv threads :: IntsR xw picks :: R) H3 := h5.ent (by repeat (first | exact Ent.refl _ | exact Ent.none | apply Ent.cons (by repeat (first | exact Pull.here | apply Pull.there)) | refine Ent.drop ?_))
        have h7 := h6.snoc
        rw [e3] at h7
        exact h7.ent (by repeat (first | exact Ent.refl _ | exact Ent.none | apply Ent.cons (by repeat (first | exact Pull.here | apply Pull.there)) | refine Ent.drop ?_))
    · refine Cd.f (ltZ_f (by omega)) ?_
      show _ = _ ∧ _
      have : i = threads.length := by omega
      subst this
      rw [List.take_of_length_le (Nat.le_refl _)] at hpl hs1
      exact ⟨rfl, e0, e1, e5, ts, lvs, prs, e9, hpl, hll, hcell, hs1⟩
  · obtain ⟨e0, e1, e5, ts, lvs, prs, e9, hpl, hll, hcell, hs1⟩ := hP
    have elen : prs.length = threads.length := by have := congrArg List.length hpl; simpa using this
    have elong : longB prs = longC threads := by
      have e1 : prs.any (fun l => decide (4096 < l.length)) = (prs.map List.length).any (fun n => decide (4096 < n)) := by rw [List.any_map]; rfl
      have e2 : threads.any (fun l => decide (4096 < l.length)) = (threads.map List.length).any (fun n => decide (4096 < n)) := by rw [List.any_map]; rfl
      unfold longB longC
      rw [e1, e2, hpl]
    show Cd _ _ _
    refine Cd.t (eqN_self 0) ?_
    simp only [e0, e1, e5, e9]
    refine stepNew_ok hc hs1 Has.vec (Has.skip Has.sat) hll (by omega) hcell (fun hbad => ?_) (fun h64 hlong rr tv pv qs H9 hqs h9 => ?_)
    · refine AsTup.mk (Nth.mk rfl (AsTup.mk (Nth.mk rfl (AsInt.mk (Cd.t rfl ?_)))))
      refine AsLen.of exv (Cd.of (fun _ => by first | trivial | rfl) fun h => ?_)
      refine law15Long_ok hc hs1 (Has.skip (Has.skip (Has.skip (Has.skip (Has.here fun a t => ThrR.mono a t))))) (by omega) ?_
      rcases hbad with hb | hb
      · have := ltZ_n h; omega
      · rw [← elong, hb]
    · refine AsTup.mk (Nth.mk rfl (AsTup.mk (Nth.mk rfl (AsInt.mk (Cd.f rfl ?_)))))
      have hsh : Short threads := fun cs hcs => ⟨by
        have h1 : ¬ (4096 < cs.length) := fun h => by
          have : longC threads = true := List.any_eq_true.2 ⟨cs, hcs, decide_eq_true h⟩
          rw [← elong, hlong] at this; cases this
        omega, (hl2 cs hcs).2⟩
      rw [elen] at h9
      have h10 : Sat (RunAt rr m tv pv prs (g0 M1 threads).ths (vwsOf qs) 0 0 :: MemP m (g0 M1 threads).M :: SatL (viewsL m 0 (qs.map fun q => (q, 0))) :: SatL (objsL prs (g0 M1 threads).st) :: IntsR xw picks :: R) H9 := h9.ent (by repeat (first | exact Ent.refl _ | exact Ent.none | apply Ent.cons (by repeat (first | exact Pull.here | apply Pull.there)) | refine Ent.drop ?_))
      have htr0 : (g0 M1 threads).M.tr.length ≤ 10 := by show M1.tr.length ≤ 10; omega
      refine stepRun_ok (L := []) hc hsh (good0 M1 hsh) h10 (by simp [Function.comp_def]) (by omega) hpl (fun x hx => ?_) htr0 hl3 fun H11 h11 => ?_
      · obtain ⟨q, _, rfl⟩ := List.mem_map.1 hx
        exact Nat.le_refl _
      have htr := gAt_tr (g := g0 M1 threads) picks picks.length
      have hcalm := gAt_calm (g := g0 M1 threads) calm1 picks picks.length
      have hinv : GInv (gAt (g0 M1 threads) picks picks.length) := gAt_inv hsh (good0 M1 hsh) ⟨inv1, fun ss hss s hs => by
        simp only [g0, List.mem_map] at hss
        obtain ⟨cs, _, rfl⟩ := hss
        obtain ⟨c, _, rfl⟩ := List.mem_map.1 hs
        exact fresh_inv _ c⟩ picks picks.length
      obtain ⟨hne, hok, _⟩ := hinv.1
      generalize (gAt (g0 M1 threads) picks picks.length).M = MZ at *
      refine memTrace_ok hc h11 (by repeat (first | exact Pull.here | apply Pull.there)) (by omega) hcalm fun x H14 h14 => ?_
      obtain ⟨k1, k2, t1, t2, d, ⟨vs, hvs, hva⟩, hR⟩ := h14.opens Pull.here
      have hsa := Sat.merge t1 t2 d hva hR
      have hpos : 1 ≤ MZ.tr.length := by
        cases h : MZ.tr with
        | nil => exact absurd h hne
        | cons _ _ => simp
      have lv : (List.zipWith encA MZ.tr vs).length = MZ.tr.length := by rw [List.length_zipWith, hvs, Nat.min_self]
      obtain ⟨a0, ha0⟩ : ∃ a, MZ.tr[0]? = some a := ⟨_, List.getElem?_eq_getElem hpos⟩
      obtain ⟨w0, hw0⟩ : ∃ w, vs[0]? = some w := ⟨_, List.getElem?_eq_getElem (by omega)⟩
      obtain ⟨bx, ebx, _⟩ := (hsa.has Has.vec).slot (zip_get ha0 hw0)
      rw [lv] at ebx
      subst ebx
      refine leavesC_ok (tr := MZ.tr) (vs := vs) hc hsa hok (by omega) hvs hpos Has.vec rfl rfl rfl fun σ1 H15 => ?_
      show Cd _ _ _
      exact Cd.t rfl (by first | trivial | rfl)
end Go.Proofs.Ytipbbnoepphdkaa
