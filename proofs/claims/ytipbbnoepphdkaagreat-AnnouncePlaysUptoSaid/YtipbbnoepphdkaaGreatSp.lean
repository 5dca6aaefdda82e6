/- What the functions do to the memories and procs that they are given: their contracts. The conditions stand in each. -/
import Derived.Test.YtipbbnoepphdkaaGreatSpA
import Derived.Sort.AssemblyPlain
set_option linter.unusedVariables false
set_option linter.unusedSimpArgs false

set_option linter.unusedVariables false
set_option linter.unusedSimpArgs false
namespace Go.Proofs.YtipbbnoepphdkaaGreat
open Go Go.CM
attribute [local irreducible] AsBool AsWant AsNat AsInt AsCnt AsPtr AsSlc AsLen AsStr AsAgg AsTup AsFn AsIfc Nth Sc NotNil IsNil Must Cd codeW funW Sat SatL wrapN subM mkRow ltZ leZ ltN leN
variable {con : CallT}
theorem insAt {x : Nat} : ∀ {l : List Nat} {p : Nat}, p ≤ l.length → (∀ j y, j < p → l[j]? = some y → y < x) → (∀ y, l[p]? = some y → x < y) → l.take p ++ x :: l.drop p = insU x l
  | [], p, h, _, _ => by
    obtain rfl : p = 0 := by simpa using h
    rfl
  | z :: l, 0, _, _, h2 => by
    have := h2 z rfl
    show x :: z :: l = _
    unfold insU
    rw [if_pos this]
  | z :: l, p + 1, h, h1, h2 => by
    have hz := h1 0 z (by omega) rfl
    unfold insU
    rw [if_neg (by omega), if_neg (by omega)]
    show z :: (l.take p ++ x :: l.drop p) = _
    rw [insAt (by simpa using h) (fun j y hj hy => h1 (j + 1) y (by omega) hy) (fun y hy => h2 y hy)]
theorem insU_self {x : Nat} {l : List Nat} (hl : IncL l) (hx : x ∈ l) : insU x l = l :=
  inc_unique (insU_inc hl) hl fun y => by
    rw [insU_mem]
    exact ⟨fun h => h.elim (fun e => e ▸ hx) id, .inr⟩
theorem rowsU_get {l : List Nat} {i x : Nat} (h : l[i]? = some x) : (rowsU l)[i]? = some [u64 x] := by rw [List.getElem?_map, h]; rfl
theorem rowsU_set (l : List Nat) (i x : Nat) (r : List Value) (hr : r.set 0 (u64 x) = [u64 x]) : (rowsU l).set i (r.set 0 (u64 x)) = rowsU (l.set i x) := by
  rw [hr]
  show (l.map fun x => [u64 x]).set i ((fun x => [u64 x]) x) = (l.set i x).map fun x => [u64 x]
  rw [List.map_set]
/-- Where x belongs. -/
theorem rRisingB_ok (hc : Con con lives) {L : List HP} {H : CH} {v w : Value} {told acc : List Nat} {fl i x : Nat} {σ : TF} {Q : KX} (hs : Sat L H) (hv : Has L (Nums v told)) (hw : Has L (Vec w tU 1 (rowsU acc))) (hl : acc.length ≤ 1000) (hx : told[i]? = some x)
    (e0 : σ 0 = v) (e1 : σ 1 = u64 fl) (e5 : σ 5 = w) (e6 : σ 6 = iN i) (e7 : σ 7 = iN 0)
    (k : ∀ σ1 p, p ≤ acc.length → (∀ j y, j < p → acc[j]? = some y → y < x) → (∀ y, acc[p]? = some y → x ≤ y) → σ1 0 = v → σ1 1 = u64 fl → σ1 5 = w → σ1 6 = iN i → σ1 7 = iN p → Q (.exit 2) σ1 H) :
    LoopC Tryz.prog con (lpAt Tryz.prog 135 1) σ H Q := by
  obtain ⟨pw, ew⟩ := (hs.has hw).shape
  rw [List.length_map] at ew
  subst ew
  obtain ⟨pv, cv, rfl⟩ := (hs.has hv).len
  have hi : i < told.length := (List.getElem?_eq_some_iff.1 hx).1
  refine LoopC.indP (n := 200) (id := 2) (fun σ1 H1 => H1 = H ∧ ∃ p, p ≤ acc.length ∧ (∀ j y, j < p → acc[j]? = some y → y < x) ∧ (∀ y, acc[p]? = some y → x ≤ y) ∧ σ1 0 = .slice pv told.length cv ∧ σ1 1 = u64 fl ∧ σ1 5 = .slice pw acc.length acc.length ∧ σ1 6 = iN i ∧ σ1 7 = iN p) (by kernel_rfl)
    (fun (p : Nat) σ1 H1 => H1 = H ∧ p ≤ acc.length ∧ (∀ j y, j < p → acc[j]? = some y → y < x) ∧ σ1 0 = .slice pv told.length cv ∧ σ1 1 = u64 fl ∧ σ1 5 = .slice pw acc.length acc.length ∧ σ1 6 = iN i ∧ σ1 7 = iN p)
    (fun p => acc.length - p) (fun p σ1 H1 hI => ?_) (fun σ1 H1 hP => ?_) 0 _ _ ⟨rfl, Nat.zero_le _, fun j y hj => by omega, e0, e1, e5, e6, e7⟩
  · obtain ⟨rfl, hp, hlt, a0, a1, a5, a6, a7⟩ := hI
    rw [rRisingB_W]
    simp only [a0, a5, a6, a7]
    repeat (refine gO ?_; intros)
    by_cases h : p < acc.length
    · obtain ⟨y, hy⟩ : ∃ y, acc[p]? = some y := ⟨_, List.getElem?_eq_getElem h⟩
      refine Cd.t (ltZ_t h) ?_
      obtain ⟨bw, ew, _⟩ := (hs.has hw).slot (rowsU_get hy)
      injection ew with ew _ _
      subst ew
      repeat (refine gO ?_; intros)
      refine Must.mk (ltN_t h) ?_
      refine ldVec hs hw rfl (rowsU_get hy) (j := 0) (by show 0 + p * 1 = _; omega) (by omega) rfl ?_
      repeat (refine gO ?_; intros)
      rcases (hs.has hv).shape with ⟨_, e⟩ | ⟨bv, ov, cv', ev⟩
      · rw [e] at hi; simp at hi
      injection ev with ev _ _
      subst ev
      repeat (refine gO ?_; intros)
      refine Must.mk (ltN_t hi) ?_
      refine ldSrc hs (hv.src rfl) (by rw [show Nat.mul i 1 = i from Nat.mul_one i]; rfl) (map_get _ hi) ?_
      have ex : told.getD i 0 = x := by rw [List.getD_eq_getElem?_getD, hx]; rfl
      rw [ex]
      repeat (refine gO ?_; intros)
      by_cases hxy : y < x
      · refine Cd.t (ltN_t hxy) ?_
        repeat (refine gO ?_; intros)
        try rw [addInt]
        refine inR_nat (by omega) ?_
        repeat (refine gO ?_; intros)
        show ∃ y, _ ∧ _
        refine ⟨p + 1, by omega, rfl, h, fun j z hj hz => ?_, a0, a1, a5, a6, rfl⟩
        by_cases e : j = p
        · subst e; rw [hy] at hz; cases hz; exact hxy
        · exact hlt j z (by omega) hz
      · refine Cd.f (ltN_f (by omega)) ?_
        show _ = _ ∧ _
        exact ⟨rfl, rfl, p, hp, hlt, fun z hz => by rw [hy] at hz; cases hz; omega, a0, a1, a5, a6, a7⟩
    · refine Cd.f (ltZ_f (by omega)) ?_
      show _ = _ ∧ _
      exact ⟨rfl, rfl, p, hp, hlt, fun z hz => (by rw [List.getElem?_eq_none (by omega)] at hz; cases hz), a0, a1, a5, a6, a7⟩
  · obtain ⟨rfl, p, h1, h2, h3, a0, a1, a5, a6, a7⟩ := hP
    exact k σ1 p h1 h2 h3 a0 a1 a5 a6 a7
/-- Room is made. -/
theorem rRisingC_ok (hc : Con con lives) {R : List HP} {H : CH} {w : Value} {out : List Nat} {p : Nat} {σ : TF} {Q : KX} (hs : Sat (Vec w tU 1 (rowsU (out ++ [0])) :: R) H) (hl : out.length ≤ 1000) (hp : p ≤ out.length)
    (e5 : σ 5 = w) (e7 : σ 7 = iN p) (e8 : σ 8 = iN out.length)
    (k : ∀ σ1 H1 y, (σ1 0 = σ 0 ∧ σ1 1 = σ 1 ∧ σ1 5 = σ 5 ∧ σ1 6 = σ 6 ∧ σ1 7 = σ 7) → Sat (Vec w tU 1 (rowsU (out.take p ++ y :: out.drop p)) :: R) H1 → Q (.exit 4) σ1 H1) :
    LoopC Tryz.prog con (lpAt Tryz.prog 135 2) σ H Q := by
  obtain ⟨bw, ew, _⟩ := (hs.has Has.vec).slot (i := out.length) (row := [u64 0]) (rowsU_get (by simp))
  rw [List.length_map, List.length_append] at ew
  subst ew
  refine LoopC.indP (n := 200) (id := 4) (fun σ1 H1 => ∃ y, (σ1 0 = σ 0 ∧ σ1 1 = σ 1 ∧ σ1 5 = σ 5 ∧ σ1 6 = σ 6 ∧ σ1 7 = σ 7) ∧ Sat (Vec (slc bw 0 (out.length + [0].length) (out.length + [0].length)) tU 1 (rowsU (out.take p ++ y :: out.drop p)) :: R) H1) (by kernel_rfl)
    (fun (x : Nat) σ1 H1 => p ≤ x ∧ x ≤ out.length ∧ σ1 8 = iN x ∧ (σ1 0 = σ 0 ∧ σ1 1 = σ 1 ∧ σ1 5 = σ 5 ∧ σ1 6 = σ 6 ∧ σ1 7 = σ 7) ∧ ∃ y, Sat (Vec (slc bw 0 (out.length + [0].length) (out.length + [0].length)) tU 1 (rowsU (out.take x ++ y :: out.drop x)) :: R) H1)
    (fun x => x) (fun x σ1 H1 hI => ?_) (fun σ1 H1 hP => ?_) out.length _ _ ⟨hp, Nat.le_refl _, e8, ⟨rfl, rfl, rfl, rfl, rfl⟩, 0, by rw [List.take_length, List.drop_length]; exact hs⟩
  · obtain ⟨hpx, hxl, a8, hk, y, hs1⟩ := hI
    obtain ⟨k0, k1, k5, k6, k7⟩ := hk
    have a5 := k5.trans e5
    have a7 := k7.trans e7
    rw [rRisingC_W]
    simp only [a5, a7, a8]
    repeat (refine gO ?_; intros)
    by_cases h : p < x
    · refine Cd.t (ltZ_t h) ?_
      repeat (refine gO ?_; intros)
      rw [subInt (by omega)]
      refine inR_nat (by omega) ?_
      repeat (refine gO ?_; intros)
      obtain ⟨z, hz⟩ : ∃ z, out[x - 1]? = some z := ⟨_, List.getElem?_eq_getElem (by omega)⟩
      have hg : (out.take x ++ y :: out.drop x)[x - 1]? = some z := by
        rw [List.getElem?_append_left (by rw [List.length_take]; omega), List.getElem?_take_of_lt (by omega)]
        exact hz
      have hg2 : (out.take x ++ y :: out.drop x)[x]? = some y := by
        rw [List.getElem?_append_right (by rw [List.length_take]; omega), List.length_take, Nat.min_eq_left hxl, Nat.sub_self]; rfl
      refine Must.mk (ltN_t (by simp; omega)) ?_
      refine ldVec hs1 Has.vec rfl (rowsU_get hg) (j := 0) (by show 0 + (x - 1) * 1 = _; omega) (by omega) rfl ?_
      repeat (refine gO ?_; intros)
      refine Must.mk (ltN_t (by simp; omega)) ?_
      repeat (refine gO ?_; intros)
      refine stVec hs1 pp (rowsU_get hg2) (j := 0) (by show 0 + x * 1 = _; omega) (by omega) rfl fun H2 h2 => ?_
      rw [rowsU_set _ _ _ _ rfl] at h2
      have e : (out.take x ++ y :: out.drop x).set x z = out.take (x - 1) ++ z :: out.drop (x - 1) := by
        rw [List.set_append_right _ _ (by rw [List.length_take]; omega), List.length_take, Nat.min_eq_left hxl, Nat.sub_self]
        show out.take x ++ z :: out.drop x = _
        have h1 : out.take x = out.take (x - 1) ++ [z] := by
          have := List.take_add_one (l := out) (i := x - 1)
          rw [show x - 1 + 1 = x by omega, hz] at this
          exact this
        have h2 : out.drop (x - 1) = z :: out.drop x := by
          have := List.drop_eq_getElem_cons (l := out) (i := x - 1) (by omega)
          rw [show x - 1 + 1 = x by omega] at this
          rw [this]
          rw [List.getElem?_eq_getElem (by omega)] at hz
          injection hz with hz
          rw [hz]
        rw [h1, h2]; simp
      rw [e] at h2
      repeat (refine gO ?_; intros)
      rw [subInt (by omega)]
      refine inR_nat (by omega) ?_
      repeat (refine gO ?_; intros)
      show ∃ y, _ ∧ _
      exact ⟨x - 1, by omega, by omega, by omega, rfl, ⟨k0, k1, k5, k6, k7⟩, z, h2⟩
    · refine Cd.f (ltZ_f (by omega)) ?_
      obtain rfl : x = p := by omega
      show _ = _ ∧ _
      exact ⟨rfl, y, ⟨k0, k1, k5, k6, k7⟩, hs1⟩
  · obtain ⟨y, hk, hs1⟩ := hP
    exact k σ1 H1 y hk hs1
theorem insU_len {x : Nat} : ∀ l : List Nat, (insU x l).length ≤ l.length + 1
  | [] => by simp [insU]
  | y :: r => by
    unfold insU
    split
    · simp
    · split
      · simp
      · have := insU_len (x := x) r
        simp only [List.length_cons]; omega
theorem rRising_ok (hc : Con con lives) {L : List HP} {H : CH} {v : Value} {told : List Nat} {fl : Nat} {K : KP} (hs : Sat L H) (hv : Has L (Nums v told)) (hl : told.length ≤ 256)
    (k : ∀ w H1, Sat (Vec w tU 1 (rowsU (rise told fl)) :: L) H1 → K w H1) : Call1 Tryz.prog con 135 [v, u64 fl] H K := by
  refine call_of (hc _ _ _ rfl) ?_
  rw [rRising_W]
  obtain ⟨pv, cv, rfl⟩ := (hs.has hv).len
  refine LoopC.indP (n := 300) (id := 0) (fun σ1 H1 => ∃ w, σ1 5 = w ∧ Sat (Vec w tU 1 (rowsU (rise told fl)) :: L) H1) (by kernel_rfl)
    (fun (i : Nat) σ1 H1 => i ≤ told.length ∧ ∃ w acc, σ1 0 = .slice pv told.length cv ∧ σ1 1 = u64 fl ∧ σ1 5 = w ∧ σ1 6 = iN i ∧ acc.length ≤ i ∧ IncL acc ∧ (∀ y, y ∈ acc ↔ y ∈ told.take i ∧ y < fl) ∧ Sat (Vec w tU 1 (rowsU acc) :: L) H1)
    (fun i => told.length - i) (fun i σ1 H1 hI => ?_) (fun σ1 H1 hP => ?_) 0 _ _ ⟨Nat.zero_le _, snil, [], rfl, rfl, rfl, rfl, Nat.le_refl _, List.Pairwise.nil, fun y => by simp, hs.nilV⟩
  · obtain ⟨hi, w, acc, a0, a1, a5, a6, hal, hinc, hmem, hs1⟩ := hI
    rw [rRisingA_W]
    simp only [a0, a6]
    repeat (refine gO ?_; intros)
    by_cases h : i < told.length
    · obtain ⟨x, hx⟩ : ∃ x, told[i]? = some x := ⟨_, List.getElem?_eq_getElem h⟩
      have htk : told.take (i + 1) = told.take i ++ [x] := by rw [List.take_add_one, hx]; rfl
      refine Cd.t (ltZ_t h) ?_
      refine rRisingB_ok (acc := acc) (told := told) (fl := fl) (i := i) (x := x) hc hs1 (Has.skip hv) Has.vec (by omega) hx a0 a1 a5 a6 rfl fun σ2 p hp hlt hle c0 c1 c5 c6 c7 => ?_
      show Cd _ _ _
      refine Cd.t rfl ?_
      obtain ⟨pw, ew⟩ := (hs1.has Has.vec).shape
      rw [List.length_map] at ew
      subst ew
      simp only [c0, c1, c5, c6, c7]
      rcases (hs1.has (Has.skip hv)).shape with ⟨_, e⟩ | ⟨bv, ov, cv', ev⟩
      · rw [e] at h; simp at h
      injection ev with ev _ _
      subst ev
      repeat (refine gO ?_; intros)
      refine Must.mk (ltN_t h) ?_
      have ex : told.getD i 0 = x := by rw [List.getD_eq_getElem?_getD, hx]; rfl
      refine ldSrc hs1 ((Has.skip hv).src rfl) (by rw [show Nat.mul i 1 = i from Nat.mul_one i]; rfl) (map_get _ h) ?_
      rw [ex]
      repeat (refine gO ?_; intros)
      by_cases hfl : fl ≤ x
      · refine Cd.t (leN_t hfl) ?_
        repeat (refine gO ?_; intros)
        try rw [addInt]
        refine inR_nat (by omega) ?_
        repeat (refine gO ?_; intros)
        show ∃ y, _ ∧ _
        refine ⟨i + 1, by omega, h, _, acc, c0, c1, c5, rfl, by omega, hinc, fun y => ?_, hs1⟩
        rw [hmem, htk, List.mem_append, List.mem_singleton]
        constructor
        · rintro ⟨h1, h2⟩; exact ⟨.inl h1, h2⟩
        · rintro ⟨h1 | rfl, h2⟩
          · exact ⟨h1, h2⟩
          · omega
      · have hfl : x < fl := by omega
        refine Cd.f (leN_f hfl) ?_
        have fin : ∀ y, y ∈ insU x acc ↔ y ∈ told.take (i + 1) ∧ y < fl := fun y => by
          rw [insU_mem, hmem, htk, List.mem_append, List.mem_singleton]
          constructor
          · rintro (rfl | ⟨h1, h2⟩)
            · exact ⟨.inr rfl, hfl⟩
            · exact ⟨.inl h1, h2⟩
          · rintro ⟨h1 | rfl, h2⟩
            · exact .inr ⟨h1, h2⟩
            · exact .inl rfl
        repeat (refine gO ?_; intros)
        by_cases hpl : p < acc.length
        · obtain ⟨y, hy⟩ : ∃ y, acc[p]? = some y := ⟨_, List.getElem?_eq_getElem hpl⟩
          obtain ⟨bw, ew, _⟩ := (hs1.has Has.vec).slot (rowsU_get hy)
          injection ew with ew _ _
          subst ew
          refine Cd.t (ltZ_t hpl) ?_
          repeat (refine gO ?_; intros)
          refine Must.mk (ltN_t hpl) ?_
          refine ldVec hs1 Has.vec rfl (rowsU_get hy) (j := 0) (by show 0 + p * 1 = _; omega) (by omega) rfl ?_
          repeat (refine gO ?_; intros)
          refine Must.mk (ltN_t h) ?_
          refine ldSrc hs1 ((Has.skip hv).src rfl) (by rw [show Nat.mul i 1 = i from Nat.mul_one i]; rfl) (map_get _ h) ?_
          rw [ex]
          repeat (refine gO ?_; intros)
          by_cases hyx : y = x
          · subst hyx
            refine Cd.t (eqN_self _) ?_
            repeat (refine gO ?_; intros)
            try rw [addInt]
            refine inR_nat (by omega) ?_
            repeat (refine gO ?_; intros)
            have hma : y ∈ acc := List.mem_of_getElem? hy
            show ∃ y, _ ∧ _
            refine ⟨i + 1, by omega, h, _, acc, c0, c1, c5, rfl, by omega, hinc, fun z => ?_, hs1⟩
            rw [← fin, insU_self hinc hma]
          · refine Cd.f (eqN_f hyx) ?_
            repeat (refine gO ?_; intros)
            have hnx : acc[p]? ≠ some x := by
              rw [hy]
              exact fun e => hyx (Option.some.inj e)
            rename_i H33 h33
            refine app_vec (new := [[u64 0]]) h33 pp el_u64 (by omega) sl_u64 (Src.cell (n := 1) (by rfl)) rfl (by simp) (by simp; omega) rfl fun w' H35 h35 => ?_
            rw [show rowsU acc ++ [[u64 0]] = rowsU (acc ++ [0]) from by simp] at h35
            obtain ⟨pw', ew'⟩ := (h35.has Has.vec).shape
            rw [List.length_map, List.length_append, show [0].length = 1 from rfl] at ew'
            subst ew'
            repeat (refine gO ?_; intros)
            rw [subInt (by omega)]
            refine inR_nat (by omega) ?_
            repeat (refine gO ?_; intros)
            refine rRisingC_ok (out := acc) (p := p) hc h35 (by omega) hp rfl c7 rfl fun σ4 H4 y hk h4 => ?_
            show Cd _ _ _
            refine Cd.t rfl ?_
            obtain ⟨k0, k1, k5, k6, k7⟩ := hk
            have d0 := k0.trans c0
            have d1 := k1.trans c1
            have d5 : σ4 5 = .slice pw' (acc.length + 1) (acc.length + 1) := k5
            have d6 := k6.trans c6
            have d7 := k7.trans c7
            simp only [d0, d1, d6, d7]
            repeat (refine gO ?_; intros)
            refine Must.mk (ltN_t h) ?_
            refine ldSrc h4 ((Has.skip (Has.skip hv)).src rfl) (by rw [show Nat.mul i 1 = i from Nat.mul_one i]; rfl) (map_get _ h) ?_
            rw [ex]
            have hg : (acc.take p ++ y :: acc.drop p)[p]? = some y := by
              rw [List.getElem?_append_right (by rw [List.length_take]; omega), List.length_take, Nat.min_eq_left hp, Nat.sub_self]; rfl
            obtain ⟨b2, e2, _⟩ := (h4.has Has.vec).slot (rowsU_get hg)
            injection e2 with e2 _ _
            subst e2
            simp only [d5]
            repeat (refine gO ?_; intros)
            refine Must.mk (ltN_t (by omega)) ?_
            repeat (refine gO ?_; intros)
            refine stVec h4 pp (rowsU_get hg) (j := 0) (by show 0 + p * 1 = _; omega) (by omega) rfl fun H6 h6 => ?_
            rw [rowsU_set _ _ _ _ rfl] at h6
            have e3 : (acc.take p ++ y :: acc.drop p).set p x = insU x acc := by
              rw [List.set_append_right _ _ (by rw [List.length_take]; omega), List.length_take, Nat.min_eq_left hp, Nat.sub_self]
              exact insAt hp hlt (fun z hz => by
                have h1 := hle z hz
                rcases Nat.lt_or_eq_of_le h1 with h2 | h2
                · exact h2
                · subst h2; exact absurd hz hnx)
            rw [e3] at h6
            repeat (refine gO ?_; intros)
            try rw [addInt]
            refine inR_nat (by omega) ?_
            repeat (refine gO ?_; intros)
            show ∃ y, _ ∧ _
            have hil := insU_len (x := x) acc
            exact ⟨i + 1, by omega, h, _, insU x acc, d0, d1, d5, rfl, by omega, insU_inc hinc, fin, h6.ent ee⟩
        · refine Cd.f (ltZ_f (by omega)) ?_
          repeat (refine gO ?_; intros)
          have hnx : acc[p]? ≠ some x := by
            rw [List.getElem?_eq_none (by omega)]
            exact fun e => nomatch e
          rename_i H33 h33
          refine app_vec (new := [[u64 0]]) h33 pp el_u64 (by omega) sl_u64 (Src.cell (n := 1) (by rfl)) rfl (by simp) (by simp; omega) rfl fun w' H35 h35 => ?_
          rw [show rowsU acc ++ [[u64 0]] = rowsU (acc ++ [0]) from by simp] at h35
          obtain ⟨pw', ew'⟩ := (h35.has Has.vec).shape
          rw [List.length_map, List.length_append, show [0].length = 1 from rfl] at ew'
          subst ew'
          repeat (refine gO ?_; intros)
          rw [subInt (by omega)]
          refine inR_nat (by omega) ?_
          repeat (refine gO ?_; intros)
          refine rRisingC_ok (out := acc) (p := p) hc h35 (by omega) hp rfl c7 rfl fun σ4 H4 y hk h4 => ?_
          show Cd _ _ _
          refine Cd.t rfl ?_
          obtain ⟨k0, k1, k5, k6, k7⟩ := hk
          have d0 := k0.trans c0
          have d1 := k1.trans c1
          have d5 : σ4 5 = .slice pw' (acc.length + 1) (acc.length + 1) := k5
          have d6 := k6.trans c6
          have d7 := k7.trans c7
          simp only [d0, d1, d6, d7]
          repeat (refine gO ?_; intros)
          refine Must.mk (ltN_t h) ?_
          refine ldSrc h4 ((Has.skip (Has.skip hv)).src rfl) (by rw [show Nat.mul i 1 = i from Nat.mul_one i]; rfl) (map_get _ h) ?_
          rw [ex]
          have hg : (acc.take p ++ y :: acc.drop p)[p]? = some y := by
            rw [List.getElem?_append_right (by rw [List.length_take]; omega), List.length_take, Nat.min_eq_left hp, Nat.sub_self]; rfl
          obtain ⟨b2, e2, _⟩ := (h4.has Has.vec).slot (rowsU_get hg)
          injection e2 with e2 _ _
          subst e2
          simp only [d5]
          repeat (refine gO ?_; intros)
          refine Must.mk (ltN_t (by omega)) ?_
          repeat (refine gO ?_; intros)
          refine stVec h4 pp (rowsU_get hg) (j := 0) (by show 0 + p * 1 = _; omega) (by omega) rfl fun H6 h6 => ?_
          rw [rowsU_set _ _ _ _ rfl] at h6
          have e3 : (acc.take p ++ y :: acc.drop p).set p x = insU x acc := by
            rw [List.set_append_right _ _ (by rw [List.length_take]; omega), List.length_take, Nat.min_eq_left hp, Nat.sub_self]
            exact insAt hp hlt (fun z hz => by
              have h1 := hle z hz
              rcases Nat.lt_or_eq_of_le h1 with h2 | h2
              · exact h2
              · subst h2; exact absurd hz hnx)
          rw [e3] at h6
          repeat (refine gO ?_; intros)
          try rw [addInt]
          refine inR_nat (by omega) ?_
          repeat (refine gO ?_; intros)
          show ∃ y, _ ∧ _
          have hil := insU_len (x := x) acc
          exact ⟨i + 1, by omega, h, _, insU x acc, d0, d1, d5, rfl, by omega, insU_inc hinc, fin, h6.ent ee⟩
    · refine Cd.f (ltZ_f (by omega)) ?_
      show _ = _ ∧ _
      obtain rfl : i = told.length := by omega
      have e : acc = rise told fl := inc_unique hinc (rise_inc _ _) fun y => by rw [hmem, rise_mem, List.take_length]
      rw [e] at hs1
      exact ⟨rfl, w, a5, hs1⟩
  · obtain ⟨w, a5, hs1⟩ := hP
    show Cd _ _ _
    refine Cd.t rfl ?_
    rw [a5]
    exact k w H1 hs1
end Go.Proofs.YtipbbnoepphdkaaGreat

set_option linter.unusedVariables false
set_option linter.unusedSimpArgs false
namespace Go.Proofs.YtipbbnoepphdkaaGreat
open Go Go.CM
attribute [local irreducible] AsBool AsWant AsNat AsInt AsCnt AsPtr AsSlc AsLen AsStr AsAgg AsTup AsFn AsIfc Nth Sc NotNil IsNil Must Cd codeW funW Sat SatL wrapN subM mkRow ltZ leZ ltN leN
variable {con : CallT}
/-! ### the document's scan, in its block -/
def dscC (s : ScanS) (w v : Value) : List Value := [iN s.at_, u64 s.sl.cam, u64 s.sl.first, i64 s.sl.count, u64 s.sl.most, iN s.i, u64 s.fl, v, u64 (if s.at_ = 2 then s.fl else 0), w]
abbrev pre23 (c : Nat → Value) (r : List Value) : List Value := pre13 c (c 13 :: c 14 :: c 15 :: c 16 :: c 17 :: c 18 :: c 19 :: c 20 :: c 21 :: c 22 :: r)
set_option maxRecDepth 100000 in
theorem rScanStep_ok (hc : Con con lives) (s : ScanS) {v : Value} {c : Nat → Value} {rest : List Value} {L R1 R2 R3 : List HP} {H : CH} {p m : Nat} {th : Int} {M : Mem} {K : KP} (hs : Sat L H) (hm : Pull L (RefP m M) R1) (hp : Pull R1 (Own p (pre23 c (dscC s snil v ++ rest))) R2) (hq : Pull R2 (Vec v tU 1 (rowsU s.told)) R3)
    (ht : M.tr.length < 1000000000) (hb : M.Bd) (hat : s.at_ < 2) (hi : s.i ≤ 256) (hi1 : s.at_ = 1 → s.i < 256) (htl : s.told.length ≤ s.i) (hne : s.need = [])
    (k : ∀ w v' H1, Sat (Vec w tU 1 (rowsU (s.step M th).1.need) :: Vec v' tU 1 (rowsU (s.step M th).1.told) :: Own p (pre23 c (dscC (s.step M th).1 w v' ++ rest)) :: RefP m (s.step M th).2 :: R3) H1 → K (.bool (eqZ (Int.ofNat (s.step M th).1.at_) (Int.ofNat 2))) H1) :
    Call1 Tryz.prog con 73 [ptr p 23, ptr m 0, i64 th] H K := by
  refine call_of (hc _ _ _ rfl) ?_
  rw [rScanStep_W]
  have hs0 := hs.takes (.cons hm (.cons hp (.cons hq .nil)))
  simp only [List.cons_append, List.nil_append] at hs0
  clear hs hm hp hq
  obtain ⟨sl, at_, i, fl, told, need⟩ := s
  dsimp only at hat hi hi1 htl hne
  subst hne
  rcases (by omega : at_ = 0 ∨ at_ = 1) with rfl | rfl
  · simp only [ScanS.step, ScanS.fin] at k
    simp only [dscC, List.cons_append, List.nil_append] at hs0
    repeat (refine gO ?_; intros)
    refine refLoad_ok hc hs0 pp ht fun H5 h5 => ?_
    generalize M.peek sl.cam = fl' at *
    repeat (refine gO ?_; intros)
    rename_i H7 h7
    refine rCount_ok hc sl h7 fun H16 h16 => ?_
    repeat (refine gO ?_; intros)
    by_cases hlt : i < cnt sl.count
    · simp only [if_pos hlt] at k
      refine Cd.f (leZ_f hlt) ?_
      repeat (refine gO ?_; intros)
      exact k snil v _ ((h16.nilV (e := tU) (s := 1)).ent ee)
    · simp only [if_neg hlt, dscC, eq_self, if_true, List.cons_append, List.nil_append] at k
      refine Cd.t (leZ_t (by omega)) ?_
      repeat (refine gO ?_; intros)
      have hvv : Sat (Vec v tU 1 (rowsU told) :: _) H16 := h16.pull pp
      refine rRising_ok (v := v) (told := told) (fl := fl') hc hvv (fun H g => Vec.nums (Has.vec H g)) (by omega) fun w H17 h17 => ?_
      obtain ⟨pw, ew⟩ := (h17.has Has.vec).shape
      subst ew
      repeat (refine gO ?_; intros)
      refine stN h17 (Nat.le_of_ble_eq_true rfl) rfl fun H18 h18 => ?_
      repeat (refine gO ?_; intros)
      exact k _ v _ (Sat.ent (by assumption) ee)
  · simp only [ScanS.step, ScanS.fin] at k
    have hi1 := hi1 rfl
    simp only [dscC, List.cons_append, List.nil_append] at hs0
    repeat (refine gO ?_; intros)
    refine Must.mk (cv_small (by omega)) ?_
    repeat (refine gO ?_; intros)
    have hbp := hb.peek (addM sl.first i)
    rw [wrapN_small (by omega)]
    rename_i H38 h38
    refine refLoad_ok (a := addM sl.first i) hc h38 pp ht fun H44 h44 => ?_
    generalize M.peek (addM sl.first i) = x at *
    repeat (refine gO ?_; intros)
    refine rUnpack_ok hc h44 hbp fun H46 h46 => ?_
    repeat (refine gO ?_; intros)
    refine stN (by assumption) (Nat.le_of_ble_eq_true rfl) rfl fun H51 h51 => ?_
    repeat (refine gO ?_; intros)
    by_cases h2 : kindW x = 2
    · simp only [if_pos h2, if_neg (show ¬ kindW x = 3 by omega)] at k
      refine Cd.t (eqN_t h2) ?_
      repeat (refine gO ?_; intros)
      by_cases hlf : stampW x < fl
      · rw [show Nat.min fl (stampW x) = stampW x from Nat.min_eq_right (by omega)] at k
        refine Cd.t (ltN_t hlf) ?_
        repeat (refine gO ?_; intros)
        refine Cd.f (by rw [h2]; rfl) ?_
        repeat (refine gO ?_; intros)
        try rw [addInt]
        refine inR_nat (by omega) ?_
        repeat (refine gO ?_; intros)
        rename_i H7 h7
        refine rCount_ok hc sl h7 fun H16 h16 => ?_
        repeat (refine gO ?_; intros)
        by_cases hlt : (i + 1) < cnt sl.count
        · simp only [if_pos hlt] at k
          refine Cd.f (leZ_f hlt) ?_
          repeat (refine gO ?_; intros)
          exact k snil v _ ((h16.nilV (e := tU) (s := 1)).ent ee)
        · simp only [if_neg hlt, dscC, eq_self, if_true, List.cons_append, List.nil_append] at k
          refine Cd.t (leZ_t (by omega)) ?_
          repeat (refine gO ?_; intros)
          have hvv : Sat (Vec v tU 1 (rowsU told) :: _) H16 := h16.pull pp
          refine rRising_ok (v := v) (told := told) (fl := (stampW x)) hc hvv (fun H g => Vec.nums (Has.vec H g)) (by omega) fun w H17 h17 => ?_
          obtain ⟨pw, ew⟩ := (h17.has Has.vec).shape
          subst ew
          repeat (refine gO ?_; intros)
          refine stN h17 (Nat.le_of_ble_eq_true rfl) rfl fun H18 h18 => ?_
          repeat (refine gO ?_; intros)
          exact k _ v _ (Sat.ent (by assumption) ee)
      · rw [show Nat.min fl (stampW x) = fl from Nat.min_eq_left (by omega)] at k
        refine Cd.f (ltN_f (by omega)) ?_
        repeat (refine gO ?_; intros)
        refine Cd.f (by rw [h2]; rfl) ?_
        repeat (refine gO ?_; intros)
        try rw [addInt]
        refine inR_nat (by omega) ?_
        repeat (refine gO ?_; intros)
        rename_i H7 h7
        refine rCount_ok hc sl h7 fun H16 h16 => ?_
        repeat (refine gO ?_; intros)
        by_cases hlt : (i + 1) < cnt sl.count
        · simp only [if_pos hlt] at k
          refine Cd.f (leZ_f hlt) ?_
          repeat (refine gO ?_; intros)
          exact k snil v _ ((h16.nilV (e := tU) (s := 1)).ent ee)
        · simp only [if_neg hlt, dscC, eq_self, if_true, List.cons_append, List.nil_append] at k
          refine Cd.t (leZ_t (by omega)) ?_
          repeat (refine gO ?_; intros)
          have hvv : Sat (Vec v tU 1 (rowsU told) :: _) H16 := h16.pull pp
          refine rRising_ok (v := v) (told := told) (fl := fl) hc hvv (fun H g => Vec.nums (Has.vec H g)) (by omega) fun w H17 h17 => ?_
          obtain ⟨pw, ew⟩ := (h17.has Has.vec).shape
          subst ew
          repeat (refine gO ?_; intros)
          refine stN h17 (Nat.le_of_ble_eq_true rfl) rfl fun H18 h18 => ?_
          repeat (refine gO ?_; intros)
          exact k _ v _ (Sat.ent (by assumption) ee)
    · simp only [if_neg h2] at k
      refine Cd.f (eqN_f h2) ?_
      repeat (refine gO ?_; intros)
      by_cases h3 : kindW x = 3
      · simp only [if_pos h3] at k
        refine Cd.t (eqN_t h3) ?_
        repeat (refine gO ?_; intros)
        rename_i H86 h86
        have hvv : Sat (Vec v tU 1 (rowsU told) :: _) H86 := h86.pull pp
        obtain ⟨pv, ev⟩ := (hvv.has Has.vec).shape
        clear hvv
        subst ev
        refine app_vec (new := [[u64 (stampW x)]]) h86 pp el_u64 (by omega) sl_u64 (Src.cell (n := 1) (by rfl)) rfl (by simp) (by simp; omega) rfl fun v' H3 h3' => ?_
        rw [show rowsU told ++ [[u64 (stampW x)]] = rowsU (told ++ [stampW x]) from by simp] at h3'
        obtain ⟨pw, ew⟩ := (h3'.has Has.vec).shape
        subst ew
        repeat (refine gO ?_; intros)
        try rw [addInt]
        refine inR_nat (by omega) ?_
        repeat (refine gO ?_; intros)
        rename_i H94 h94
        generalize hv' : Value.slice pw _ _ = v' at *
        have hle : (told ++ [stampW x]).length ≤ 256 := by rw [List.length_append]; simp only [List.length_cons, List.length_nil]; omega
        refine rCount_ok hc sl h94 fun H16 h16 => ?_
        repeat (refine gO ?_; intros)
        by_cases hlt : (i + 1) < cnt sl.count
        · simp only [if_pos hlt] at k
          refine Cd.f (leZ_f hlt) ?_
          repeat (refine gO ?_; intros)
          exact k snil v' _ ((h16.nilV (e := tU) (s := 1)).ent ee)
        · simp only [if_neg hlt, dscC, eq_self, if_true, List.cons_append, List.nil_append] at k
          refine Cd.t (leZ_t (by omega)) ?_
          repeat (refine gO ?_; intros)
          have hvv : Sat (Vec v' tU 1 (rowsU (told ++ [stampW x])) :: _) H16 := h16.pull pp
          refine rRising_ok (v := v') (told := (told ++ [stampW x])) (fl := fl) hc hvv (fun H g => Vec.nums (Has.vec H g)) (by omega) fun w H17 h17 => ?_
          obtain ⟨pw, ew⟩ := (h17.has Has.vec).shape
          subst ew
          repeat (refine gO ?_; intros)
          refine stN h17 (Nat.le_of_ble_eq_true rfl) rfl fun H18 h18 => ?_
          repeat (refine gO ?_; intros)
          exact k _ v' _ (Sat.ent (by assumption) ee)
      · simp only [if_neg h3] at k
        refine Cd.f (eqN_f h3) ?_
        repeat (refine gO ?_; intros)
        try rw [addInt]
        refine inR_nat (by omega) ?_
        repeat (refine gO ?_; intros)
        rename_i H94 h94
        refine rCount_ok hc sl h94 fun H16 h16 => ?_
        repeat (refine gO ?_; intros)
        by_cases hlt : (i + 1) < cnt sl.count
        · simp only [if_pos hlt] at k
          refine Cd.f (leZ_f hlt) ?_
          repeat (refine gO ?_; intros)
          exact k snil v _ ((h16.nilV (e := tU) (s := 1)).ent ee)
        · simp only [if_neg hlt, dscC, eq_self, if_true, List.cons_append, List.nil_append] at k
          refine Cd.t (leZ_t (by omega)) ?_
          repeat (refine gO ?_; intros)
          have hvv : Sat (Vec v tU 1 (rowsU told) :: _) H16 := h16.pull pp
          refine rRising_ok (v := v) (told := told) (fl := fl) hc hvv (fun H g => Vec.nums (Has.vec H g)) (by omega) fun w H17 h17 => ?_
          obtain ⟨pw, ew⟩ := (h17.has Has.vec).shape
          subst ew
          repeat (refine gO ?_; intros)
          refine stN h17 (Nat.le_of_ble_eq_true rfl) rfl fun H18 h18 => ?_
          repeat (refine gO ?_; intros)
          exact k _ v _ (Sat.ent (by assumption) ee)
end Go.Proofs.YtipbbnoepphdkaaGreat

set_option linter.unusedVariables false
set_option linter.unusedSimpArgs false
namespace Go.Proofs.YtipbbnoepphdkaaGreat
open Go Go.CM
attribute [local irreducible] AsBool AsWant AsNat AsInt AsCnt AsPtr AsSlc AsLen AsStr AsAgg AsTup AsFn AsIfc Nth Sc NotNil IsNil Must Cd codeW funW Sat SatL wrapN subM mkRow ltZ leZ ltN leN
variable {con : CallT}
theorem el_slot : elemOk Tryz.prog 87 202 3 24 = true := by kernel_rfl
theorem sl_slot : ∃ e, Tryz.prog.underlying 87 = some (.slice e) := ⟨202, by kernel_rfl⟩
/-- What the first n slots hold. -/
def slotRows (sl : SlotsS) (M : Mem) (n : Nat) : List (List Value) := (List.range n).map fun i => unpackL (M.peek (addM sl.first i))
theorem slotRows_succ (sl : SlotsS) (M : Mem) (n : Nat) : slotRows sl M (n + 1) = slotRows sl M n ++ [unpackL (M.peek (addM sl.first n))] := by
  unfold slotRows
  rw [List.range_succ, List.map_append]
  rfl
theorem slotRows_len (sl : SlotsS) (M : Mem) (n : Nat) : (slotRows sl M n).length = n := by simp [slotRows]
theorem annSlots_ok (hc : Con con lives) (sl : SlotsS) {L R : List HP} {H : CH} {m : Nat} {M : Mem} {K : KP} (hs : Sat L H) (hm : Pull L (MemP m M) R) (hb : M.Bd)
    (k : ∀ w H1, Sat (Vec w 202 3 (slotRows sl M (cnt sl.count)) :: L) H1 → K w H1) : Call1 Tryz.prog con 30 [ptr m 0, .agg ⟨[u64 sl.cam, u64 sl.first, i64 sl.count, u64 sl.most]⟩] H K := by
  refine call_of (hc _ _ _ rfl) ?_
  rw [annSlots_W]
  repeat (refine gO ?_; intros)
  rename_i p H2 h2
  refine annCount_ok hc sl h2 fun H8 h8 => ?_
  have hcl := cnt_le sl.count
  refine LoopC.indP (n := 200) (id := 0) (fun σ1 H1 => ∃ w, σ1 5 = w ∧ Sat (Vec w 202 3 (slotRows sl M (cnt sl.count)) :: L) H1) (by kernel_rfl)
    (fun (i : Nat) σ1 H1 => i ≤ cnt sl.count ∧ ∃ w, σ1 0 = ptr m 0 ∧ σ1 3 = ptr p 0 ∧ σ1 5 = w ∧ σ1 10 = iN (cnt sl.count) ∧ σ1 11 = iN i ∧ Sat (Vec w 202 3 (slotRows sl M i) :: Own p [u64 sl.cam, u64 sl.first, i64 sl.count, u64 sl.most] :: L) H1)
    (fun i => cnt sl.count - i) (fun i σ1 H1 hI => ?_) (fun σ1 H1 hP => ?_) 0 _ _ ⟨Nat.zero_le _, snil, rfl, rfl, rfl, rfl, rfl, h8.nilV⟩
  · obtain ⟨hi, w, a0, a3, a5, a10, a11, hs1⟩ := hI
    rw [annSlotsL_W]
    simp only [a0, a3, a5, a10, a11]
    repeat (refine gO ?_; intros)
    by_cases h : i < cnt sl.count
    · refine Cd.t (ltZ_t h) ?_
      repeat (refine gO ?_; intros)
      refine annCell_ok hc sl hs1 (by omega) fun H10 h10 => ?_
      refine memPeek_ok hc h10 (Pull.there (Pull.there hm)) ?_
      refine wordUnpack_ok hc h10 (hb.peek _) fun H14 h14 => ?_
      repeat (refine gO ?_; intros)
      rename_i p2 H20 h20
      refine app_vec (new := [unpackL (M.peek (addM sl.first i))]) h20 pp el_slot (by omega) sl_slot (Src.cell (n := 3) (by rfl)) rfl (by simp) (by rw [slotRows_len]; omega) rfl fun w' H3 h3 => ?_
      rw [← slotRows_succ] at h3
      repeat (refine gO ?_; intros)
      try rw [addInt]
      refine inR_nat (by omega) ?_
      repeat (refine gO ?_; intros)
      show ∃ y, _ ∧ _
      exact ⟨i + 1, by omega, h, w', a0, a3, rfl, a10, rfl, h3.ent ee⟩
    · refine Cd.f (ltZ_f (by omega)) ?_
      show _ = _ ∧ _
      obtain rfl : i = cnt sl.count := by omega
      exact ⟨rfl, w, a5, hs1.ent ee⟩
  · obtain ⟨w, a5, hs1⟩ := hP
    show Cd _ _ _
    refine Cd.t rfl ?_
    rw [a5]
    exact k w H1 hs1
theorem rSlots_ok (hc : Con con lives) (sl : SlotsS) {L R : List HP} {H : CH} {m : Nat} {M : Mem} {K : KP} (hs : Sat L H) (hm : Pull L (RefP m M) R) (hb : M.Bd)
    (k : ∀ w H1, Sat (Vec w 202 3 (slotRows sl M (cnt sl.count)) :: L) H1 → K w H1) : Call1 Tryz.prog con 31 [ptr m 0, .agg ⟨[u64 sl.cam, u64 sl.first, i64 sl.count, u64 sl.most]⟩] H K := by
  refine call_of (hc _ _ _ rfl) ?_
  rw [rSlots_W]
  repeat (refine gO ?_; intros)
  rename_i p H2 h2
  have hcl := cnt_le sl.count
  refine LoopC.indP (n := 200) (id := 0) (fun σ1 H1 => ∃ w, σ1 5 = w ∧ Sat (Vec w 202 3 (slotRows sl M (cnt sl.count)) :: L) H1) (by kernel_rfl)
    (fun (i : Nat) σ1 H1 => i ≤ cnt sl.count ∧ ∃ w, σ1 0 = ptr m 0 ∧ σ1 3 = ptr p 0 ∧ σ1 5 = w ∧ σ1 6 = iN i ∧ Sat (Vec w 202 3 (slotRows sl M i) :: Own p [u64 sl.cam, u64 sl.first, i64 sl.count, u64 sl.most] :: L) H1)
    (fun i => cnt sl.count - i) (fun i σ1 H1 hI => ?_) (fun σ1 H1 hP => ?_) 0 _ _ ⟨Nat.zero_le _, snil, rfl, rfl, rfl, rfl, h2.nilV⟩
  · obtain ⟨hi, w, a0, a3, a5, a6, hs1⟩ := hI
    rw [rSlotsL_W]
    simp only [a0, a3, a5, a6]
    repeat (refine gO ?_; intros)
    refine rCount_ok hc sl hs1 fun H9 hs1 => ?_
    repeat (refine gO ?_; intros)
    by_cases h : i < cnt sl.count
    · refine Cd.t (ltZ_t h) ?_
      repeat (refine gO ?_; intros)
      refine Must.mk (cv_small (by omega)) ?_
      repeat (refine gO ?_; intros)
      rw [wrapN_small (by omega)]
      refine refPeek_ok (a := addM sl.first i) hc hs1 (Pull.there (Pull.there hm)) ?_
      refine rUnpack_ok hc hs1 (hb.peek _) fun H14 h14 => ?_
      repeat (refine gO ?_; intros)
      rename_i p2 H20 h20
      refine app_vec (new := [unpackL (M.peek (addM sl.first i))]) h20 pp el_slot (by omega) sl_slot (Src.cell (n := 3) (by rfl)) rfl (by simp) (by rw [slotRows_len]; omega) rfl fun w' H3 h3 => ?_
      rw [← slotRows_succ] at h3
      repeat (refine gO ?_; intros)
      try rw [addInt]
      refine inR_nat (by omega) ?_
      repeat (refine gO ?_; intros)
      show ∃ y, _ ∧ _
      exact ⟨i + 1, by omega, h, w', a0, a3, rfl, rfl, h3.ent ee⟩
    · refine Cd.f (ltZ_f (by omega)) ?_
      show _ = _ ∧ _
      obtain rfl : i = cnt sl.count := by omega
      exact ⟨rfl, w, a5, hs1.ent ee⟩
  · obtain ⟨w, a5, hs1⟩ := hP
    show Cd _ _ _
    refine Cd.t rfl ?_
    rw [a5]
    exact k w H1 hs1
end Go.Proofs.YtipbbnoepphdkaaGreat

set_option linter.unusedVariables false
set_option linter.unusedSimpArgs false
namespace Go.Proofs.YtipbbnoepphdkaaGreat
open Go Go.CM
theorem ltZ_negO (n k : Nat) : ltZ (Int.negSucc n) (Int.ofNat k) = true := decide_eq_true (Int.lt_of_lt_of_le (Int.negSucc_lt_zero n) (Int.natCast_nonneg k))
attribute [local irreducible] AsBool AsWant AsNat AsInt AsCnt AsPtr AsSlc AsLen AsStr AsAgg AsTup AsFn AsIfc Nth Sc NotNil IsNil Must Cd codeW funW Sat SatL wrapN subM mkRow ltZ leZ ltN leN
variable {con : CallT}
def sl0 : SlotsS := ⟨0, 0, 0, 0⟩
/-- Make: the slots, the error, the memory. -/
def mkSlots (cam : Nat) (n : Int) (most : Nat) (M : Mem) (th : Int) : SlotsS × Nat × Mem :=
  match n with
  | .negSucc _ => (sl0, 2, M)
  | .ofNat c => if c < 1 then (sl0, 2, M) else if 256 < c then (sl0, 2, M) else if most < 1 then (sl0, 2, M) else if 1099511627776 < most then (sl0, 2, M)
      else if M.room (List.replicate c 0) = 0 then (sl0, 30, M.alloc th (List.replicate c 0)) else (⟨cam, M.room (List.replicate c 0), Int.ofNat c, most⟩, 0, M.alloc th (List.replicate c 0))
theorem zeros_flat : ∀ n, (List.replicate n [u64 0]).flatten = (List.replicate n 0).map u64
  | 0 => rfl
  | n + 1 => by rw [List.replicate_succ, List.replicate_succ, List.flatten_cons, zeros_flat n]; rfl
theorem annMake_ok (hc : Con con lives) {L R1 R2 : List HP} {H : CH} {q m nn cam most : Nat} {n th : Int} {M : Mem} {K : KP} (hs : Sat L H) (hm : Pull L (MemP m M) R1) (hv : Pull R1 (ViewAt q m th nn) R2) (hn : nn < 1000000000) (ht : M.tr.length < 1000000000)
    (k : ∀ nn' H1, nn' ≤ nn + 1 → Sat (MemP m (mkSlots cam n most M th).2.2 :: ViewAt q m th nn' :: R2) H1 → K (.tuple ⟨[slA (mkSlots cam n most M th).1, iN (mkSlots cam n most M th).2.1]⟩) H1) : Call1 Tryz.prog con 87 [ptr q 0, u64 cam, i64 n, u64 most] H K := by
  refine call_of (hc _ _ _ rfl) ?_
  rw [annMake_W]
  have hs0 := hs.takes (.cons hm (.cons hv .nil))
  simp only [List.cons_append, List.nil_append] at hs0
  clear hs hm hv
  repeat (refine gO ?_; intros)
  rename_i p1 H2 h2
  cases n with
  | negSucc c =>
    simp only [mkSlots] at k
    refine Cd.t (ltZ_negO c 1) ?_
    repeat (refine gO ?_; intros)
    refine stN (by assumption) (Nat.le_of_ble_eq_true rfl) rfl fun H3 h3 => ?_
    repeat (refine gO ?_; intros)
    exact k nn _ (Nat.le_succ _) (h3.ent ee)
  | ofNat c =>
    simp only [mkSlots] at k
    by_cases h1 : c < 1
    · simp only [if_pos h1] at k
      refine Cd.t (ltZ_t h1) ?_
      refine stN (by assumption) (Nat.le_of_ble_eq_true rfl) rfl fun H3 h3 => ?_
      repeat (refine gO ?_; intros)
      exact k nn _ (Nat.le_succ _) (h3.ent ee)
    simp only [if_neg h1] at k
    refine Cd.f (ltZ_f (by omega)) ?_
    by_cases h2' : 256 < c
    · simp only [if_pos h2'] at k
      refine Cd.t (ltZ_t h2') ?_
      refine stN (by assumption) (Nat.le_of_ble_eq_true rfl) rfl fun H3 h3 => ?_
      repeat (refine gO ?_; intros)
      exact k nn _ (Nat.le_succ _) (h3.ent ee)
    simp only [if_neg h2'] at k
    refine Cd.f (ltZ_f (by omega)) ?_
    by_cases h3' : most < 1
    · simp only [if_pos h3'] at k
      refine Cd.t (ltN_t h3') ?_
      refine stN (by assumption) (Nat.le_of_ble_eq_true rfl) rfl fun H3 h3 => ?_
      repeat (refine gO ?_; intros)
      exact k nn _ (Nat.le_succ _) (h3.ent ee)
    simp only [if_neg h3'] at k
    refine Cd.f (ltN_f (by omega)) ?_
    by_cases h4' : 1099511627776 < most
    · simp only [if_pos h4'] at k
      refine Cd.t (ltN_t h4') ?_
      refine stN (by assumption) (Nat.le_of_ble_eq_true rfl) rfl fun H3 h3 => ?_
      repeat (refine gO ?_; intros)
      exact k nn _ (Nat.le_succ _) (h3.ent ee)
    simp only [if_neg h4'] at k
    refine Cd.f (ltN_f (by omega)) ?_
    refine mkS h2 el_u64 zero_u (Nat.le_refl c) (by omega) (by omega) fun b H24 h24 => ?_
    rw [zeros_flat] at h24
    replace h24 : Sat (Own b ((List.replicate c 0).map u64) :: _) H24 := h24.imp fun g a => a.obj
    have hq := fun L => Has.own3 (b := b) (l := List.replicate c 0) (L := L)
    rw [List.length_replicate] at hq
    refine viewAlloc_ok (vals := List.replicate c 0) hc h24 pp pp (hq _) (by rw [List.length_replicate]; omega) hn ht fun H26 h26 => ?_
    repeat (refine gO ?_; intros)
    by_cases h5 : M.room (List.replicate c 0) = 0
    · simp only [if_pos h5] at k
      refine Cd.t (eqN_t h5) ?_
      refine stN (by assumption) (Nat.le_of_ble_eq_true rfl) rfl fun H3 h3 => ?_
      repeat (refine gO ?_; intros)
      exact k (nn + 1) _ (Nat.le_refl _) (h3.ent ee)
    · simp only [if_neg h5] at k
      refine Cd.f (eqN_f h5) ?_
      repeat (refine gO ?_; intros)
      refine stN (by assumption) (Nat.le_of_ble_eq_true rfl) rfl fun H3 h3 => ?_
      repeat (refine gO ?_; intros)
      exact k (nn + 1) _ (Nat.le_refl _) (h3.ent ee)
theorem rMake_ok (hc : Con con lives) {L R1 : List HP} {H : CH} {m cam most : Nat} {n th : Int} {M : Mem} {K : KP} (hs : Sat L H) (hm : Pull L (RefP m M) R1) (ht : M.tr.length < 1000000000)
    (k : ∀ H1, Sat (RefP m (mkSlots cam n most M th).2.2 :: R1) H1 → K (.tuple ⟨[slA (mkSlots cam n most M th).1, iN (mkSlots cam n most M th).2.1]⟩) H1) : Call1 Tryz.prog con 34 [ptr m 0, i64 th, u64 cam, i64 n, u64 most] H K := by
  refine call_of (hc _ _ _ rfl) ?_
  rw [rMake_W]
  have hs0 := hs.takes (.cons hm .nil)
  simp only [List.cons_append, List.nil_append] at hs0
  clear hs hm
  repeat (refine gO ?_; intros)
  rename_i p1 H2 h2
  cases n with
  | negSucc c =>
    simp only [mkSlots] at k
    refine Cd.t (ltZ_negO c 1) ?_
    repeat (refine gO ?_; intros)
    refine stN (by assumption) (Nat.le_of_ble_eq_true rfl) rfl fun H3 h3 => ?_
    repeat (refine gO ?_; intros)
    exact k _ (h3.ent ee)
  | ofNat c =>
    simp only [mkSlots] at k
    by_cases h1 : c < 1
    · simp only [if_pos h1] at k
      refine Cd.t (ltZ_t h1) ?_
      refine stN (by assumption) (Nat.le_of_ble_eq_true rfl) rfl fun H3 h3 => ?_
      repeat (refine gO ?_; intros)
      exact k _ (h3.ent ee)
    simp only [if_neg h1] at k
    refine Cd.f (ltZ_f (by omega)) ?_
    by_cases h2' : 256 < c
    · simp only [if_pos h2'] at k
      refine Cd.t (ltZ_t h2') ?_
      refine stN (by assumption) (Nat.le_of_ble_eq_true rfl) rfl fun H3 h3 => ?_
      repeat (refine gO ?_; intros)
      exact k _ (h3.ent ee)
    simp only [if_neg h2'] at k
    refine Cd.f (ltZ_f (by omega)) ?_
    by_cases h3' : most < 1
    · simp only [if_pos h3'] at k
      refine Cd.t (ltN_t h3') ?_
      refine stN (by assumption) (Nat.le_of_ble_eq_true rfl) rfl fun H3 h3 => ?_
      repeat (refine gO ?_; intros)
      exact k _ (h3.ent ee)
    simp only [if_neg h3'] at k
    refine Cd.f (ltN_f (by omega)) ?_
    by_cases h4' : 1099511627776 < most
    · simp only [if_pos h4'] at k
      refine Cd.t (ltN_t h4') ?_
      refine stN (by assumption) (Nat.le_of_ble_eq_true rfl) rfl fun H3 h3 => ?_
      repeat (refine gO ?_; intros)
      exact k _ (h3.ent ee)
    simp only [if_neg h4'] at k
    refine Cd.f (ltN_f (by omega)) ?_
    refine mkS h2 el_u64 zero_u (Nat.le_refl c) (by omega) (by omega) fun b H24 h24 => ?_
    rw [zeros_flat] at h24
    replace h24 : Sat (Own b ((List.replicate c 0).map u64) :: _) H24 := h24.imp fun g a => a.obj
    have hq := fun L => Has.own3 (b := b) (l := List.replicate c 0) (L := L)
    rw [List.length_replicate] at hq
    refine refAlloc_ok (vals := List.replicate c 0) hc h24 pp (hq _) (by rw [List.length_replicate]; omega) ht fun H26 h26 => ?_
    repeat (refine gO ?_; intros)
    by_cases h5 : M.room (List.replicate c 0) = 0
    · simp only [if_pos h5] at k
      refine Cd.t (eqN_t h5) ?_
      refine stN (by assumption) (Nat.le_of_ble_eq_true rfl) rfl fun H3 h3 => ?_
      repeat (refine gO ?_; intros)
      exact k _ (h3.ent ee)
    · simp only [if_neg h5] at k
      refine Cd.f (eqN_f h5) ?_
      repeat (refine gO ?_; intros)
      refine stN (by assumption) (Nat.le_of_ble_eq_true rfl) rfl fun H3 h3 => ?_
      repeat (refine gO ?_; intros)
      exact k _ (h3.ent ee)
end Go.Proofs.YtipbbnoepphdkaaGreat

set_option linter.unusedVariables false
set_option linter.unusedSimpArgs false
namespace Go.Proofs.YtipbbnoepphdkaaGreat
open Go Go.CM
attribute [local irreducible] AsBool AsWant AsNat AsInt AsCnt AsPtr AsSlc AsLen AsStr AsAgg AsTup AsFn AsIfc Nth Sc NotNil IsNil Must Cd codeW funW Sat SatL wrapN subM mkRow ltZ leZ ltN leN
variable {con : CallT}
/-- The block of the document's Proc. -/
def d13 (kind : Int) (sn : SnapS) (lt : LetS) (sc : ScanS) (w v : Value) (t : List Value) : List Value := i64 kind :: (dsC sn ++ (dlC lt ++ (dscC sc w v ++ t)))
abbrev t13 (h st er nf nv dn : Value) : List Value := [h, st, er, nf, nv, dn]
set_option maxRecDepth 100000 in
theorem rProc0_ok (hc : Con con lives) (s : SnapS) {lt : LetS} {sc : ScanS} {w v h st er nf nv dn : Value} {L R1 R2 : List HP} {H : CH} {p m : Nat} {th : Int} {M : Mem} {K : KP} (hs : Sat L H) (hm : Pull L (RefP m M) R1) (hp : Pull R1 (Own p (d13 (Int.ofNat 0) s lt sc w v (t13 h st er nf nv dn))) R2)
    (ht : M.tr.length < 1000000000) (hb : M.Bd) (hok : s.Ok)
    (k : ∀ H1 b, b = eqZ (Int.ofNat (s.step M th).1.at_) (Int.ofNat 8) → Sat (Own p (d13 (Int.ofNat 0) (s.step M th).1 lt sc w v (t13 (u64 (s.step M th).1.handle) (u64 (s.step M th).1.stamp) (iN (s.step M th).1.err) nf nv (.bool b))) :: RefP m (s.step M th).2 :: R2) H1 → K (.bool b) H1) :
    Call1 Tryz.prog con 25 [ptr p 0, ptr m 0, i64 th] H K := by
  refine call_of (hc _ _ _ rfl) ?_
  rw [rProcStep13_W]
  have hs0 := hs.takes (.cons hm (.cons hp .nil))
  simp only [List.cons_append, List.nil_append] at hs0
  clear hs hm hp
  repeat (refine gO ?_; intros)
  replace hs0 : Sat (RefP m M :: Own p (i64 (Int.ofNat 0) :: (dsC s ++ (dlC lt ++ (dscC sc w v ++ t13 h st er nf nv dn)))) :: R2) H := hs0
  refine rSnapStep_ok hc s hs0 pp pp ht hb hok fun H4 h4 => ?_
  replace h4 : Sat (Own p (d13 (Int.ofNat 0) (s.step M th).1 lt sc w v (t13 h st er nf nv dn)) :: RefP m (s.step M th).2 :: R2) H4 := h4
  clear hs0
  generalize eqZ (Int.ofNat (s.step M th).1.at_) (Int.ofNat 8) = b at *
  generalize (s.step M th).1 = s' at *
  repeat (refine gO ?_; intros)
  exact k _ b rfl (Sat.ent (by assumption) ee)
def c13 (kind : Int) (sn : SnapS) (i : Nat) : Value := ((i64 kind :: dsC sn)[i]?).getD snil
set_option maxRecDepth 100000 in
theorem rProc1_ok (hc : Con con lives) (s : LetS) {kind : Int} {sn : SnapS} {sc : ScanS} {w v h st er nf nv dn : Value} {L R1 R2 : List HP} {H : CH} {p m : Nat} {th : Int} {M : Mem} {K : KP} (hs : Sat L H) (hm : Pull L (RefP m M) R1) (hp : Pull R1 (Own p (d13 kind sn s sc w v (t13 h st er nf nv dn))) R2)
    (hk0 : eqZ kind (Int.ofNat 0) = false) (hk2 : eqZ kind (Int.ofNat 2) = false) (ht : M.tr.length < 1000000000) (hb : M.Bd) (hh : s.h < 18446744073709551616) (hat : s.at_ < 2)
    (k : ∀ H1 b, b = eqZ (Int.ofNat (s.step M th).1.at_) (Int.ofNat 2) → Sat (Own p (d13 kind sn (s.step M th).1 sc w v (t13 h st (iN (s.step M th).1.err) nf nv (.bool b))) :: RefP m (s.step M th).2 :: R2) H1 → K (.bool b) H1) :
    Call1 Tryz.prog con 25 [ptr p 0, ptr m 0, i64 th] H K := by
  refine call_of (hc _ _ _ rfl) ?_
  rw [rProcStep13_W]
  have hs0 := hs.takes (.cons hm (.cons hp .nil))
  simp only [List.cons_append, List.nil_append] at hs0
  clear hs hm hp
  repeat (refine gO ?_; intros)
  refine Cd.f hk0 ?_
  repeat (refine gO ?_; intros)
  refine Cd.f hk2 ?_
  repeat (refine gO ?_; intros)
  replace hs0 : Sat (RefP m M :: Own p (pre13 (c13 kind sn) (dlC s ++ (dscC sc w v ++ t13 h st er nf nv dn))) :: R2) H := hs0
  refine rLetStep_ok hc s hs0 pp pp ht hb hh hat fun H4 h4 => ?_
  replace h4 : Sat (Own p (d13 kind sn (s.step M th).1 sc w v (t13 h st er nf nv dn)) :: RefP m (s.step M th).2 :: R2) H4 := h4
  clear hs0
  generalize eqZ (Int.ofNat (s.step M th).1.at_) (Int.ofNat 2) = b at *
  generalize (s.step M th).1 = s' at *
  repeat (refine gO ?_; intros)
  exact k _ b rfl (Sat.ent (by assumption) ee)
def c23 (kind : Int) (sn : SnapS) (lt : LetS) (i : Nat) : Value := ((i64 kind :: (dsC sn ++ dlC lt))[i]?).getD snil
set_option maxRecDepth 100000 in
theorem rProc2_ok (hc : Con con lives) (s : ScanS) {sn : SnapS} {lt : LetS} {v h st er nf nv dn : Value} {L R1 R2 R3 : List HP} {H : CH} {p m : Nat} {th : Int} {M : Mem} {K : KP} (hs : Sat L H) (hm : Pull L (RefP m M) R1) (hp : Pull R1 (Own p (d13 (Int.ofNat 2) sn lt s snil v (t13 h st er nf nv dn))) R2) (hq : Pull R2 (Vec v tU 1 (rowsU s.told)) R3)
    (ht : M.tr.length < 1000000000) (hb : M.Bd) (hat : s.at_ < 2) (hi : s.i ≤ 256) (hi1 : s.at_ = 1 → s.i < 256) (htl : s.told.length ≤ s.i) (hne : s.need = [])
    (k : ∀ w v' H1 b, b = eqZ (Int.ofNat (s.step M th).1.at_) (Int.ofNat 2) → Sat (Vec w tU 1 (rowsU (s.step M th).1.need) :: Vec v' tU 1 (rowsU (s.step M th).1.told) :: Own p (d13 (Int.ofNat 2) sn lt (s.step M th).1 w v' (t13 h st er (u64 (if (s.step M th).1.at_ = 2 then (s.step M th).1.fl else 0)) w (.bool b))) :: RefP m (s.step M th).2 :: R3) H1 → K (.bool b) H1) :
    Call1 Tryz.prog con 25 [ptr p 0, ptr m 0, i64 th] H K := by
  refine call_of (hc _ _ _ rfl) ?_
  rw [rProcStep13_W]
  have hs0 := hs.takes (.cons hm (.cons hp (.cons hq .nil)))
  simp only [List.cons_append, List.nil_append] at hs0
  clear hs hm hp hq
  repeat (refine gO ?_; intros)
  replace hs0 : Sat (RefP m M :: Own p (pre23 (c23 (Int.ofNat 2) sn lt) (dscC s snil v ++ t13 h st er nf nv dn)) :: Vec v tU 1 (rowsU s.told) :: R3) H := hs0
  refine rScanStep_ok hc s hs0 pp pp pp ht hb hat hi hi1 htl hne fun w v' H4 h4 => ?_
  replace h4 : Sat (Vec w tU 1 (rowsU (s.step M th).1.need) :: Vec v' tU 1 (rowsU (s.step M th).1.told) :: Own p (d13 (Int.ofNat 2) sn lt (s.step M th).1 w v' (t13 h st er nf nv dn)) :: RefP m (s.step M th).2 :: R3) H4 := h4
  clear hs0
  generalize eqZ (Int.ofNat (s.step M th).1.at_) (Int.ofNat 2) = b at *
  generalize (s.step M th).1 = s' at *
  obtain ⟨pw, ew⟩ := (h4.has Has.vec).shape
  subst ew
  repeat (refine gO ?_; intros)
  refine stN (by assumption) (Nat.le_of_ble_eq_true rfl) rfl fun H6 h6 => ?_
  repeat (refine gO ?_; intros)
  exact k _ v' _ b rfl (Sat.ent (by assumption) ee)
end Go.Proofs.YtipbbnoepphdkaaGreat

set_option linter.unusedVariables false
set_option linter.unusedSimpArgs false
namespace Go.Proofs.YtipbbnoepphdkaaGreat
open Go Go.CM
attribute [local irreducible] AsBool AsWant AsNat AsInt AsCnt AsPtr AsSlc AsLen AsStr AsAgg AsTup AsFn AsIfc Nth Sc NotNil IsNil Must Cd codeW funW Sat SatL wrapN subM mkRow ltZ leZ ltN leN
variable {con : CallT}
def scan0 (sl : SlotsS) : ScanS := ⟨sl, 0, 0, 0, [], []⟩
def z13 : List Value := t13 (u64 0) (u64 0) (iN 0) (u64 0) snil (.bool false)
/-- The handle that a call is about. -/
def bh (kind : Int) (h : Nat) (hd : List Nat) : Nat := if ltZ kind (Int.ofNat 0) || ltZ (Int.ofNat 2) kind then hd.getD h 0 else h
set_option maxRecDepth 100000 in
theorem rBegin13_ok (hc : Con con lives) (sl : SlotsS) {kind : Int} {h et : Nat} {v : Value} {rows : List (List Value)} {hd : List Nat} {L : List HP} {H : CH} {K : KP} (hs : Sat L H) (hv : Has L (Vec v et 6 rows)) (hl : rows.length ≤ 1000000000) (hln : hd.length = rows.length)
    (hr : ∀ (i : Nat) row x, rows[i]? = some row → hd[i]? = some x → row[0]? = some (u64 x))
    (k : ∀ p H1, Sat (Own p (d13 kind (snap0 sl) (let0 sl (bh kind h hd)) (scan0 sl) snil snil z13) :: L) H1 → K (ptr p 0) H1) : Call1 Tryz.prog con 23 [.agg ⟨[u64 sl.cam, u64 sl.first, i64 sl.count, u64 sl.most]⟩, .agg ⟨[i64 kind, u64 h]⟩, v] H K := by
  refine call_of (hc _ _ _ rfl) ?_
  rw [rBegin13_W]
  obtain ⟨pv, ev⟩ := (hs.has hv).shape
  subst ev
  repeat (refine gO ?_; intros)
  cases hk : ltZ kind (Int.ofNat 0) with
  | true =>
    refine Cd.t rfl ?_
    have hkk : (ltZ kind (Int.ofNat 0) || ltZ (Int.ofNat 2) kind) = true := by rw [hk]; rfl
    repeat (refine gO ?_; intros)
    refine Must.mk (cv_small (by omega)) ?_
    rw [wrapN_small (by omega)]
    repeat (refine gO ?_; intros)
    by_cases hlt : h < rows.length
    · refine Cd.t (ltN_t hlt) ?_
      obtain ⟨row, hrow⟩ : ∃ row, rows[h]? = some row := ⟨_, List.getElem?_eq_getElem hlt⟩
      obtain ⟨x, hx⟩ : ∃ x, hd[h]? = some x := ⟨_, List.getElem?_eq_getElem (by omega)⟩
      obtain ⟨bv, ev, _⟩ := (hs.has hv).slot hrow
      injection ev with ev _ _
      subst ev
      repeat (refine gO ?_; intros)
      refine Must.mk (ltN_t hlt) ?_
      refine ldVec (by assumption) (Has.skip (Has.skip hv)) rfl hrow (j := 0) (by show 0 + h * 6 + 0 = _; omega) (by omega) (hr h row x hrow hx) ?_
      have e : bh kind h hd = x := by
        unfold bh
        rw [hkk, if_pos rfl, List.getD_eq_getElem?_getD, hx]; rfl
      rw [e] at k
      repeat (refine gO ?_; intros)
      exact k _ _ (Sat.ent (by assumption) ee)
    · refine Cd.f (ltN_f (by omega)) ?_
      have e : bh kind h hd = 0 := by
        unfold bh
        rw [hkk, if_pos rfl, List.getD_eq_getElem?_getD, List.getElem?_eq_none (by omega)]; rfl
      rw [e] at k
      repeat (refine gO ?_; intros)
      exact k _ _ (Sat.ent (by assumption) ee)
  | false =>
    refine Cd.f rfl ?_
    repeat (refine gO ?_; intros)
    cases hk2 : ltZ (Int.ofNat 2) kind with
    | true =>
      have hkk : (ltZ kind (Int.ofNat 0) || ltZ (Int.ofNat 2) kind) = true := by rw [hk2, Bool.or_true]
      refine Cd.t rfl ?_
      repeat (refine gO ?_; intros)
      refine Must.mk (cv_small (by omega)) ?_
      rw [wrapN_small (by omega)]
      repeat (refine gO ?_; intros)
      by_cases hlt : h < rows.length
      · refine Cd.t (ltN_t hlt) ?_
        obtain ⟨row, hrow⟩ : ∃ row, rows[h]? = some row := ⟨_, List.getElem?_eq_getElem hlt⟩
        obtain ⟨x, hx⟩ : ∃ x, hd[h]? = some x := ⟨_, List.getElem?_eq_getElem (by omega)⟩
        obtain ⟨bv, ev, _⟩ := (hs.has hv).slot hrow
        injection ev with ev _ _
        subst ev
        repeat (refine gO ?_; intros)
        refine Must.mk (ltN_t hlt) ?_
        refine ldVec (by assumption) (Has.skip (Has.skip hv)) rfl hrow (j := 0) (by show 0 + h * 6 + 0 = _; omega) (by omega) (hr h row x hrow hx) ?_
        have e : bh kind h hd = x := by
          unfold bh
          rw [hkk, if_pos rfl, List.getD_eq_getElem?_getD, hx]; rfl
        rw [e] at k
        repeat (refine gO ?_; intros)
        exact k _ _ (Sat.ent (by assumption) ee)
      · refine Cd.f (ltN_f (by omega)) ?_
        have e : bh kind h hd = 0 := by
          unfold bh
          rw [hkk, if_pos rfl, List.getD_eq_getElem?_getD, List.getElem?_eq_none (by omega)]; rfl
        rw [e] at k
        repeat (refine gO ?_; intros)
        exact k _ _ (Sat.ent (by assumption) ee)
    | false =>
      refine Cd.f rfl ?_
      repeat (refine gO ?_; intros)
      have e : bh kind h hd = h := by
        unfold bh
        rw [hk, hk2]; rfl
      rw [e] at k
      exact k _ _ (Sat.ent (by assumption) ee)
end Go.Proofs.YtipbbnoepphdkaaGreat

set_option linter.unusedVariables false
set_option linter.unusedSimpArgs false
namespace Go.Proofs.YtipbbnoepphdkaaGreat
open Go Go.CM
attribute [local irreducible] AsBool AsWant AsNat AsInt AsCnt AsPtr AsSlc AsLen AsStr AsAgg AsTup AsFn AsIfc Nth Sc NotNil IsNil Must Cd codeW funW Sat SatL wrapN subM mkRow ltZ leZ ltN leN
variable {con : CallT}
/-- Need of a scan that is done: the floor and a row of its own. -/
theorem scanNeed_ok (hc : Con con lives) (s : ScanS) {st : Bool} {w v : Value} {L : List HP} {H : CH} {p : Nat} {K : KP} (hs : Sat L H) [HasCell L p (scanC s.sl st s.i s.fl w v (decide (s.at_ = 2)))] (hw : Has L (Nums w s.need)) (hl : s.need.length ≤ 1000000)
    (kf : s.at_ ≠ 2 → ∀ H1, Sat L H1 → K (.agg ⟨[u64 0, snil]⟩) H1)
    (kt : s.at_ = 2 → ∀ w' H1, Sat (Nums w' s.need :: L) H1 → K (.agg ⟨[u64 s.fl, w']⟩) H1) : Call1 Tryz.prog con 39 [ptr p 0] H K := by
  refine call_of (hc _ _ _ rfl) ?_
  rw [scanNeed_W]
  repeat (refine gO ?_; intros)
  by_cases h : s.at_ = 2
  · rw [decide_eq_true h]
    repeat (refine gO ?_; intros)
    rename_i p1 H2 h2
    refine cloneN_ok hc h2 (Has.skip hw) (by omega) fun v' H11 hc' h11 => ?_
    refine Sc.mk rfl (Sc.mk hc' ?_)
    refine stN h11 (Nat.le_of_ble_eq_true rfl) (by show (isCell (u64 s.fl) && (isCell v' && true)) = true; rw [hc']; rfl) fun H12 h12 => ?_
    repeat (refine gO ?_; intros)
    exact kt h v' _ (Sat.ent (by assumption) ee)
  · rw [decide_eq_false h]
    repeat (refine gO ?_; intros)
    refine stN (by assumption) (Nat.le_of_ble_eq_true rfl) rfl fun H6 h6 => ?_
    repeat (refine gO ?_; intros)
    exact kf h _ (Sat.ent (by assumption) ee)
end Go.Proofs.YtipbbnoepphdkaaGreat

set_option linter.unusedVariables false
set_option linter.unusedSimpArgs false
namespace Go.Proofs.YtipbbnoepphdkaaGreat
open Go Go.CM
theorem Same.agg4 {k1 k2 k3 k4 : IntKind} {a b c d : Int} {K : Prop} (h : K) : Same (.agg ⟨[.int k1 a, .int k2 b, .int k3 c, .int k4 d]⟩) (.agg ⟨[.int k1 a, .int k2 b, .int k3 c, .int k4 d]⟩) K := ⟨Must.mk (by simp [veq, veqL]) h⟩
instance {k1 k2 k3 k4 : IntKind} {a b c d : Int} {K : Prop} : Stp (Same (.agg ⟨[.int k1 a, .int k2 b, .int k3 c, .int k4 d]⟩) (.agg ⟨[.int k1 a, .int k2 b, .int k3 c, .int k4 d]⟩) K) K := ⟨Same.agg4⟩
attribute [local irreducible] AsBool AsWant AsNat AsInt AsCnt AsPtr AsSlc AsLen AsStr AsAgg AsTup AsFn AsIfc Nth Sc NotNil IsNil Must Cd codeW funW Sat SatL wrapN subM mkRow ltZ leZ ltN leN
variable {con : CallT}
theorem newScan_ok (hc : Con con lives) (s : SlotsS) {L : List HP} {H : CH} {K : KP} (hs : Sat L H) (k : ∀ p H1, Sat (Own p (scanC s false 0 0 snil snil false) :: L) H1 → K (ptr p 0) H1) : Call1 Tryz.prog con 37 [.agg ⟨[u64 s.cam, u64 s.first, i64 s.count, u64 s.most]⟩] H K := by
  refine call_of (hc _ _ _ rfl) ?_
  rw [newScan_W]
  repeat (refine gO ?_; intros)
  exact k _ _ (Sat.ent (by assumption) ee)
set_option maxRecDepth 100000 in
theorem l13begin_ok (hc : Con con lives) (sl : SlotsS) {kind : Int} {h et : Nat} {v : Value} {rows : List (List Value)} {hd : List Nat} {L : List HP} {H : CH} {K : KP} (hs : Sat L H) (hv : Has L (Vec v et 6 rows)) (hl : rows.length ≤ 1000000000) (hln : hd.length = rows.length)
    (hr : ∀ (i : Nat) row x, rows[i]? = some row → hd[i]? = some x → row[0]? = some (u64 x))
    (k : ∀ p p1 p2 p3 H1, Sat (Own p [i64 kind, ptr p1 0, ptr p2 0, ptr p3 0] :: Own p1 (snapC 0 (snap0 sl) 0) :: Own p2 (letC (let0 sl (bh kind h hd)) false) :: Own p3 (scanC sl false 0 0 snil snil false) :: L) H1 → K (ptr p 0) H1) : Call1 Tryz.prog con 22 [.agg ⟨[u64 sl.cam, u64 sl.first, i64 sl.count, u64 sl.most]⟩, .agg ⟨[i64 kind, u64 h]⟩, v] H K := by
  refine call_of (hc _ _ _ rfl) ?_
  rw [l13begin_W]
  obtain ⟨pv, ev⟩ := (hs.has hv).shape
  subst ev
  repeat (refine gO ?_; intros)
  cases hk : ltZ kind (Int.ofNat 0) with
  | true =>
    refine Cd.t rfl ?_
    have hkk : (ltZ kind (Int.ofNat 0) || ltZ (Int.ofNat 2) kind) = true := by rw [hk]; rfl
    repeat (refine gO ?_; intros)
    refine Must.mk (cv_small (by omega)) ?_
    rw [wrapN_small (by omega)]
    repeat (refine gO ?_; intros)
    by_cases hlt : h < rows.length
    · refine Cd.t (ltN_t hlt) ?_
      obtain ⟨row, hrow⟩ : ∃ row, rows[h]? = some row := ⟨_, List.getElem?_eq_getElem hlt⟩
      obtain ⟨x, hx⟩ : ∃ x, hd[h]? = some x := ⟨_, List.getElem?_eq_getElem (by omega)⟩
      obtain ⟨bv, ev, _⟩ := (hs.has hv).slot hrow
      injection ev with ev _ _
      subst ev
      repeat (refine gO ?_; intros)
      refine Must.mk (ltN_t hlt) ?_
      refine ldVec (by assumption) (Has.skip (Has.skip hv)) rfl hrow (j := 0) (by show 0 + h * 6 + 0 = _; omega) (by omega) (hr h row x hrow hx) ?_
      have e : bh kind h hd = x := by
        unfold bh
        rw [hkk, if_pos rfl, List.getD_eq_getElem?_getD, hx]; rfl
      rw [e] at k
      repeat (refine gO ?_; intros)
      refine newSnap_ok hc sl (by assumption) fun p1 H24 h24 => ?_
      repeat (refine gO ?_; intros)
      refine newLet_ok hc sl h24 fun p2 H30 h30 => ?_
      repeat (refine gO ?_; intros)
      refine newScan_ok hc sl h30 fun p3 H36 h36 => ?_
      repeat (refine gO ?_; intros)
      exact k _ p1 p2 p3 _ (Sat.ent (by assumption) ee)
    · refine Cd.f (ltN_f (by omega)) ?_
      have e : bh kind h hd = 0 := by
        unfold bh
        rw [hkk, if_pos rfl, List.getD_eq_getElem?_getD, List.getElem?_eq_none (by omega)]; rfl
      rw [e] at k
      repeat (refine gO ?_; intros)
      refine newSnap_ok hc sl (by assumption) fun p1 H24 h24 => ?_
      repeat (refine gO ?_; intros)
      refine newLet_ok hc sl h24 fun p2 H30 h30 => ?_
      repeat (refine gO ?_; intros)
      refine newScan_ok hc sl h30 fun p3 H36 h36 => ?_
      repeat (refine gO ?_; intros)
      exact k _ p1 p2 p3 _ (Sat.ent (by assumption) ee)
  | false =>
    refine Cd.f rfl ?_
    repeat (refine gO ?_; intros)
    cases hk2 : ltZ (Int.ofNat 2) kind with
    | true =>
      have hkk : (ltZ kind (Int.ofNat 0) || ltZ (Int.ofNat 2) kind) = true := by rw [hk2, Bool.or_true]
      refine Cd.t rfl ?_
      repeat (refine gO ?_; intros)
      refine Must.mk (cv_small (by omega)) ?_
      rw [wrapN_small (by omega)]
      repeat (refine gO ?_; intros)
      by_cases hlt : h < rows.length
      · refine Cd.t (ltN_t hlt) ?_
        obtain ⟨row, hrow⟩ : ∃ row, rows[h]? = some row := ⟨_, List.getElem?_eq_getElem hlt⟩
        obtain ⟨x, hx⟩ : ∃ x, hd[h]? = some x := ⟨_, List.getElem?_eq_getElem (by omega)⟩
        obtain ⟨bv, ev, _⟩ := (hs.has hv).slot hrow
        injection ev with ev _ _
        subst ev
        repeat (refine gO ?_; intros)
        refine Must.mk (ltN_t hlt) ?_
        refine ldVec (by assumption) (Has.skip (Has.skip hv)) rfl hrow (j := 0) (by show 0 + h * 6 + 0 = _; omega) (by omega) (hr h row x hrow hx) ?_
        have e : bh kind h hd = x := by
          unfold bh
          rw [hkk, if_pos rfl, List.getD_eq_getElem?_getD, hx]; rfl
        rw [e] at k
        repeat (refine gO ?_; intros)
        refine newSnap_ok hc sl (by assumption) fun p1 H24 h24 => ?_
        repeat (refine gO ?_; intros)
        refine newLet_ok hc sl h24 fun p2 H30 h30 => ?_
        repeat (refine gO ?_; intros)
        refine newScan_ok hc sl h30 fun p3 H36 h36 => ?_
        repeat (refine gO ?_; intros)
        exact k _ p1 p2 p3 _ (Sat.ent (by assumption) ee)
      · refine Cd.f (ltN_f (by omega)) ?_
        have e : bh kind h hd = 0 := by
          unfold bh
          rw [hkk, if_pos rfl, List.getD_eq_getElem?_getD, List.getElem?_eq_none (by omega)]; rfl
        rw [e] at k
        repeat (refine gO ?_; intros)
        refine newSnap_ok hc sl (by assumption) fun p1 H24 h24 => ?_
        repeat (refine gO ?_; intros)
        refine newLet_ok hc sl h24 fun p2 H30 h30 => ?_
        repeat (refine gO ?_; intros)
        refine newScan_ok hc sl h30 fun p3 H36 h36 => ?_
        repeat (refine gO ?_; intros)
        exact k _ p1 p2 p3 _ (Sat.ent (by assumption) ee)
    | false =>
      refine Cd.f rfl ?_
      repeat (refine gO ?_; intros)
      have e : bh kind h hd = h := by
        unfold bh
        rw [hk, hk2]; rfl
      rw [e] at k
      refine newSnap_ok hc sl (by assumption) fun p1 H24 h24 => ?_
      repeat (refine gO ?_; intros)
      refine newLet_ok hc sl h24 fun p2 H30 h30 => ?_
      repeat (refine gO ?_; intros)
      refine newScan_ok hc sl h30 fun p3 H36 h36 => ?_
      repeat (refine gO ?_; intros)
      exact k _ p1 p2 p3 _ (Sat.ent (by assumption) ee)
end Go.Proofs.YtipbbnoepphdkaaGreat

set_option linter.unusedVariables false
set_option linter.unusedSimpArgs false
namespace Go.Proofs.YtipbbnoepphdkaaGreat
open Go Go.CM
attribute [local irreducible] AsBool AsWant AsNat AsInt AsCnt AsPtr AsSlc AsLen AsStr AsAgg AsTup AsFn AsIfc Nth Sc NotNil IsNil Must Cd codeW funW Sat SatL wrapN subM mkRow ltZ leZ ltN leN
variable {con : CallT}
theorem l13step1_ok (hc : Con con lives) {L : List HP} {H : CH} {p p1 p2 p3 q : Nat} {kind : Int} {K : KP} (hs : Sat L H) [HasCell L p [i64 kind, ptr p1 0, ptr p2 0, ptr p3 0]]
    (h0 : eqZ kind (Int.ofNat 0) = true → Call1 Tryz.prog con 69 [ptr p1 0, ptr q 0] H K)
    (h2 : eqZ kind (Int.ofNat 2) = true → Call1 Tryz.prog con 70 [ptr p3 0, ptr q 0] H K)
    (h1 : eqZ kind (Int.ofNat 0) = false → eqZ kind (Int.ofNat 2) = false → Call1 Tryz.prog con 71 [ptr p2 0, ptr q 0] H K) : Call1 Tryz.prog con 24 [ptr p 0, ptr q 0] H K := by
  refine call_of (hc _ _ _ rfl) ?_
  rw [l13step1_W]
  repeat (refine gO ?_; intros)
  cases hk : eqZ kind (Int.ofNat 0) with
  | true =>
    refine Cd.t rfl ?_
    repeat (refine gO ?_; intros)
    exact h0 hk
  | false =>
    refine Cd.f rfl ?_
    repeat (refine gO ?_; intros)
    cases hk2 : eqZ kind (Int.ofNat 2) with
    | true =>
      refine Cd.t rfl ?_
      repeat (refine gO ?_; intros)
      exact h2 hk2
    | false =>
      refine Cd.f rfl ?_
      repeat (refine gO ?_; intros)
      exact h1 hk hk2
end Go.Proofs.YtipbbnoepphdkaaGreat

set_option linter.unusedVariables false
set_option linter.unusedSimpArgs false
namespace Go.Proofs.YtipbbnoepphdkaaGreat
open Go Go.CM
attribute [local irreducible] AsBool AsWant AsNat AsInt AsCnt AsPtr AsSlc AsLen AsStr AsAgg AsTup AsFn AsIfc Nth Sc NotNil IsNil Must Cd codeW funW Sat SatL wrapN subM mkRow ltZ leZ ltN leN
variable {con : CallT}
set_option maxRecDepth 100000
theorem l13told0_ok (hc : Con con lives) (s : SnapS) {b : Bool} {a g : Nat} {L R1 R2 : List HP} {H : CH} {p p1 p2 p3 : Nat} {K : KP} (hs : Sat L H) (hp : Pull L (Own p [i64 (Int.ofNat 0), ptr p1 0, ptr p2 0, ptr p3 0]) R1) (hq : Pull R1 (Own p1 (snapC a s g)) R2)
    (hg : JG s g) (hi : s.ok = true → s.i < 256 ∧ s.gen < 1048576)
    (k : ∀ H1, Sat (Own p [i64 (Int.ofNat 0), ptr p1 0, ptr p2 0, ptr p3 0] :: Own p1 (snapC a s g) :: R2) H1 → K (.agg ⟨t13 (u64 s.handle) (u64 s.stamp) (iN s.err) (u64 0) snil (.bool b)⟩) H1) : Call1 Tryz.prog con 27 [ptr p 0, .bool b] H K := by
  refine call_of (hc _ _ _ rfl) ?_
  rw [l13told_W]
  have hs0 := hs.takes (.cons hp (.cons hq .nil))
  simp only [List.cons_append, List.nil_append] at hs0
  clear hs hp hq
  repeat (refine gO ?_; intros)
  refine stN (by assumption) (Nat.le_of_ble_eq_true rfl) rfl fun H5 h5 => ?_
  repeat (refine gO ?_; intros)
  refine snapHandle_ok hc s (a := a) (g := g) h5 hg hi ?_
  repeat (refine gO ?_; intros)
  refine snapStamp_ok hc s (a := a) (g := g) h5 ?_
  repeat (refine gO ?_; intros)
  refine snapErrno_ok hc s (a := a) (g := g) h5 ?_
  repeat (refine gO ?_; intros)
  refine stN (by assumption) (Nat.le_of_ble_eq_true rfl) rfl fun H6 h6 => ?_
  repeat (refine gO ?_; intros)
  exact k _ (h6.ent ee)
theorem l13told1_ok (hc : Con con lives) (s : LetS) {b sn : Bool} {kind : Int} {L R1 R2 : List HP} {H : CH} {p p1 p2 p3 : Nat} {K : KP} (hs : Sat L H) (hp : Pull L (Own p [i64 kind, ptr p1 0, ptr p2 0, ptr p3 0]) R1) (hq : Pull R1 (Own p2 (letC s sn)) R2)
    (hk0 : eqZ kind (Int.ofNat 0) = false) (hk2 : eqZ kind (Int.ofNat 2) = false)
    (k : ∀ H1, Sat (Own p [i64 kind, ptr p1 0, ptr p2 0, ptr p3 0] :: Own p2 (letC s sn) :: R2) H1 → K (.agg ⟨t13 (u64 0) (u64 0) (iN s.err) (u64 0) snil (.bool b)⟩) H1) : Call1 Tryz.prog con 27 [ptr p 0, .bool b] H K := by
  refine call_of (hc _ _ _ rfl) ?_
  rw [l13told_W]
  have hs0 := hs.takes (.cons hp (.cons hq .nil))
  simp only [List.cons_append, List.nil_append] at hs0
  clear hs hp hq
  repeat (refine gO ?_; intros)
  refine stN (by assumption) (Nat.le_of_ble_eq_true rfl) rfl fun H5 h5 => ?_
  repeat (refine gO ?_; intros)
  refine Cd.f hk0 ?_
  repeat (refine gO ?_; intros)
  refine Cd.f hk2 ?_
  repeat (refine gO ?_; intros)
  refine letErrno_ok hc s (sn := sn) h5 ?_
  repeat (refine gO ?_; intros)
  refine stN (by assumption) (Nat.le_of_ble_eq_true rfl) rfl fun H6 h6 => ?_
  repeat (refine gO ?_; intros)
  exact k _ (h6.ent ee)
theorem l13told2_ok (hc : Con con lives) (s : ScanS) {b st : Bool} {w v : Value} {L R1 R2 : List HP} {H : CH} {p p1 p2 p3 : Nat} {K : KP} (hs : Sat L H) (hp : Pull L (Own p [i64 (Int.ofNat 2), ptr p1 0, ptr p2 0, ptr p3 0]) R1) (hq : Pull R1 (Own p3 (scanC s.sl st s.i s.fl w v (decide (s.at_ = 2)))) R2) (hw : Has R2 (Nums w s.need)) (hl : s.need.length ≤ 1000000) (hat : s.at_ = 2)
    (k : ∀ w' H1, Sat (Nums w' s.need :: Own p [i64 (Int.ofNat 2), ptr p1 0, ptr p2 0, ptr p3 0] :: Own p3 (scanC s.sl st s.i s.fl w v (decide (s.at_ = 2))) :: R2) H1 → K (.agg ⟨t13 (u64 0) (u64 0) (iN 0) (u64 s.fl) w' (.bool b)⟩) H1) : Call1 Tryz.prog con 27 [ptr p 0, .bool b] H K := by
  refine call_of (hc _ _ _ rfl) ?_
  rw [l13told_W]
  have hs0 := hs.takes (.cons hp (.cons hq .nil))
  simp only [List.cons_append, List.nil_append] at hs0
  clear hs hp hq
  repeat (refine gO ?_; intros)
  refine stN (by assumption) (Nat.le_of_ble_eq_true rfl) rfl fun H5 h5 => ?_
  repeat (refine gO ?_; intros)
  refine scanNeed_ok hc s (st := st) (w := w) (v := v) h5 (Has.skip (Has.skip (Has.skip (Has.skip hw)))) hl (fun h => absurd hat h) fun _ w' H6 h6 => ?_
  rcases (h6.has Has.nums).shape with ⟨rfl, _⟩ | ⟨bw, ow, cw, rfl⟩
  · repeat (refine gO ?_; intros)
    refine stN (by assumption) (Nat.le_of_ble_eq_true rfl) rfl fun H7 h7 => ?_
    repeat (refine gO ?_; intros)
    refine stN (by assumption) (Nat.le_of_ble_eq_true rfl) rfl fun H8 h8 => ?_
    repeat (refine gO ?_; intros)
    exact k _ _ (h8.ent ee)
  · repeat (refine gO ?_; intros)
    refine stN (by assumption) (Nat.le_of_ble_eq_true rfl) rfl fun H7 h7 => ?_
    repeat (refine gO ?_; intros)
    refine stN (by assumption) (Nat.le_of_ble_eq_true rfl) rfl fun H8 h8 => ?_
    repeat (refine gO ?_; intros)
    exact k _ _ (h8.ent ee)
end Go.Proofs.YtipbbnoepphdkaaGreat

set_option linter.unusedVariables false
set_option linter.unusedSimpArgs false
namespace Go.Proofs.YtipbbnoepphdkaaGreat
open Go Go.CM
attribute [local irreducible] AsBool AsWant AsNat AsInt AsCnt AsPtr AsSlc AsLen AsStr AsAgg AsTup AsFn AsIfc Nth Sc NotNil IsNil Must Cd codeW funW Sat SatL wrapN subM mkRow ltZ leZ ltN leN
variable {con : CallT}
theorem rSameNeed_ok (hc : Con con lives) {fl : Nat} {v w : Value} {l : List Nat} {L : List HP} {H : CH} {K : KP} (hs : Sat L H) (hv : Has L (Nums v l)) (hw : Has L (Nums w l)) (hl : l.length ≤ 1000000) (k : ∀ H1, Sat L H1 → K (.bool true) H1) : Call1 Tryz.prog con 75 [.agg ⟨[u64 fl, v]⟩, .agg ⟨[u64 fl, w]⟩] H K := by
  refine call_of (hc _ _ _ rfl) ?_
  rw [rSameNeed_W]
  obtain ⟨pv, cv, rfl⟩ := (hs.has hv).len
  obtain ⟨pw, cw, rfl⟩ := (hs.has hw).len
  repeat (refine gO ?_; intros)
  rename_i p1 H2 h2 p3 H4 h4
  rw [eqN_self]
  repeat (refine gO ?_; intros)
  rw [eqZ_self]
  repeat (refine gO ?_; intros)
  refine LoopC.indP (n := 200) (id := 0) (fun σ1 H1 => H1 = H4) (by kernel_rfl)
    (fun (i : Nat) σ1 H1 => i ≤ l.length ∧ σ1 2 = ptr p1 0 ∧ σ1 3 = ptr p3 0 ∧ σ1 5 = iN i ∧ H1 = H4)
    (fun i => l.length - i) (fun i σ1 H1 hI => ?_) (fun σ1 H1 hP => ?_) 0 _ _ ⟨Nat.zero_le _, rfl, rfl, rfl, rfl⟩
  · obtain ⟨hi, a2, a3, a5, rfl⟩ := hI
    rw [rSameNeedL_W]
    simp only [a2, a3, a5]
    repeat (refine gO ?_; intros)
    by_cases h : i < l.length
    · refine Cd.t (ltZ_t h) ?_
      rcases (hs.has hv).shape with ⟨_, e⟩ | ⟨bv, ov, cv', ev⟩
      · rw [e] at h; simp at h
      rcases (hs.has hw).shape with ⟨_, e⟩ | ⟨bw, ow, cw', ew⟩
      · rw [e] at h; simp at h
      injection ev with ev _ _
      injection ew with ew _ _
      subst ev
      subst ew
      repeat (refine gO ?_; intros)
      refine Must.mk (ltN_t h) ?_
      refine ldSrc h4 ((Has.skip (Has.skip hv)).src rfl) (by rw [show Nat.mul i 1 = i from Nat.mul_one i]; rfl) (map_get _ h) ?_
      repeat (refine gO ?_; intros)
      refine Must.mk (ltN_t h) ?_
      refine ldSrc h4 ((Has.skip (Has.skip hw)).src rfl) (by rw [show Nat.mul i 1 = i from Nat.mul_one i]; rfl) (map_get _ h) ?_
      repeat (refine gO ?_; intros)
      rw [eqN_self]
      repeat (refine gO ?_; intros)
      try rw [addInt]
      refine inR_nat (by omega) ?_
      repeat (refine gO ?_; intros)
      show ∃ y, _ ∧ _
      exact ⟨i + 1, by omega, h, a2, a3, rfl, rfl⟩
    · refine Cd.f (ltZ_f (by omega)) ?_
      show _ = _ ∧ _
      exact ⟨rfl, rfl⟩
  · subst hP
    show Cd _ _ _
    refine Cd.t rfl ?_
    exact k _ (h4.ent ee)
end Go.Proofs.YtipbbnoepphdkaaGreat

set_option linter.unusedVariables false
set_option linter.unusedSimpArgs false
namespace Go.Proofs.YtipbbnoepphdkaaGreat
open Go Go.CM
attribute [local irreducible] AsBool AsWant AsNat AsInt AsCnt AsPtr AsSlc AsLen AsStr AsAgg AsTup AsFn AsIfc Nth Sc NotNil IsNil Must Cd codeW funW Sat SatL wrapN subM mkRow ltZ leZ ltN leN
variable {con : CallT}
theorem sameSlots_ok (hc : Con con lives) (sl : SlotsS) {v w : Value} {e : Nat} {M : Mem} {n : Nat} {L : List HP} {H : CH} {K : KP} (hs : Sat L H) (hv : Has L (Vec v e 3 (slotRows sl M n))) (hw : Has L (Vec w e 3 (slotRows sl M n))) (hl : n ≤ 1000000) (k : ∀ H1, Sat L H1 → K (.bool true) H1) : Call1 Tryz.prog con 29 [v, w] H K := by
  refine call_of (hc _ _ _ rfl) ?_
  rw [l13sameSlots_W]
  obtain ⟨pv, ev⟩ := (hs.has hv).shape
  obtain ⟨pw, ew⟩ := (hs.has hw).shape
  rw [slotRows_len] at ev ew
  subst ev
  subst ew
  repeat (refine gO ?_; intros)
  rw [eqZ_self]
  repeat (refine gO ?_; intros)
  refine LoopC.indP (n := 200) (id := 0) (fun σ1 H1 => H1 = H) (by kernel_rfl)
    (fun (i : Nat) σ1 H1 => i ≤ n ∧ σ1 0 = .slice pv n n ∧ σ1 1 = .slice pw n n ∧ σ1 5 = iN i ∧ H1 = H)
    (fun i => n - i) (fun i σ1 H1 hI => ?_) (fun σ1 H1 hP => ?_) 0 _ _ ⟨Nat.zero_le _, rfl, rfl, rfl, rfl⟩
  · obtain ⟨hi, a0, a1, a5, rfl⟩ := hI
    rw [l13sameSlotsL_W]
    simp only [a0, a1, a5]
    repeat (refine gO ?_; intros)
    by_cases h : i < n
    · refine Cd.t (ltZ_t h) ?_
      have hr : (slotRows sl M n)[i]? = some (unpackL (M.peek (addM sl.first i))) := by
        unfold slotRows
        rw [List.getElem?_map, List.getElem?_range h]; rfl
      obtain ⟨bv, ev, _⟩ := (hs.has hv).slot hr
      obtain ⟨bw, ew, _⟩ := (hs.has hw).slot hr
      injection ev with ev _ _
      injection ew with ew _ _
      subst ev
      subst ew
      generalize M.peek (addM sl.first i) = x at *
      repeat (refine gO ?_; intros)
      refine Must.mk (ltN_t h) ?_
      refine ldVec hs hv rfl hr (j := 0) (by show 0 + i * 3 + 0 = _; omega) (by omega) rfl ?_
      refine ldVec hs hv rfl hr (j := 1) (by show 0 + i * 3 + 1 = _; omega) (by omega) rfl ?_
      refine ldVec hs hv rfl hr (j := 2) (by show 0 + i * 3 + 2 = _; omega) (by omega) rfl ?_
      repeat (refine gO ?_; intros)
      refine Must.mk (ltN_t h) ?_
      refine ldVec hs hw rfl hr (j := 0) (by show 0 + i * 3 + 0 = _; omega) (by omega) rfl ?_
      refine ldVec hs hw rfl hr (j := 1) (by show 0 + i * 3 + 1 = _; omega) (by omega) rfl ?_
      refine ldVec hs hw rfl hr (j := 2) (by show 0 + i * 3 + 2 = _; omega) (by omega) rfl ?_
      refine OpN.neAgg (a := ⟨[u8 (kindW x), u64 (genW x), u64 (stampW x)]⟩) (c := ⟨[u8 (kindW x), u64 (genW x), u64 (stampW x)]⟩) rfl rfl slot_guard (slot_eq _ _ _ _ _ _ _) ?_
      rw [eqN_self, eqN_self, eqN_self]
      repeat (refine gO ?_; intros)
      try rw [addInt]
      refine inR_nat (by omega) ?_
      repeat (refine gO ?_; intros)
      show ∃ y, _ ∧ _
      exact ⟨i + 1, by omega, h, a0, a1, rfl, rfl⟩
    · refine Cd.f (ltZ_f (by omega)) ?_
      show _ = _ ∧ _
      exact ⟨rfl, rfl⟩
  · subst hP
    show Cd _ _ _
    refine Cd.t rfl ?_
    exact k _ hs
end Go.Proofs.YtipbbnoepphdkaaGreat

set_option linter.unusedVariables false
set_option linter.unusedSimpArgs false
namespace Go.Proofs.YtipbbnoepphdkaaGreat
open Go Go.CM
attribute [local irreducible] AsBool AsWant AsNat AsInt AsCnt AsPtr AsSlc AsLen AsStr AsAgg AsTup AsFn AsIfc Nth Sc NotNil IsNil Must Cd codeW funW Sat SatL wrapN subM mkRow ltZ leZ ltN leN
variable {con : CallT}
theorem l13same_ok (hc : Con con lives) {h st er fl : Nat} {b : Bool} {v w : Value} {l : List Nat} {L : List HP} {H : CH} {K : KP} (hs : Sat L H) (hv : Has L (Nums v l)) (hw : Has L (Nums w l)) (hl : l.length ≤ 1000000) (k : ∀ H1, Sat L H1 → K (.bool true) H1) :
    Call1 Tryz.prog con 26 [.agg ⟨t13 (u64 h) (u64 st) (iN er) (u64 fl) v (.bool b)⟩, .agg ⟨t13 (u64 h) (u64 st) (iN er) (u64 fl) w (.bool b)⟩] H K := by
  refine call_of (hc _ _ _ rfl) ?_
  rw [l13same_W]
  repeat (refine gO ?_; intros)
  rename_i p1 H2 h2 p3 H4 h4
  rw [eqN_self]
  repeat (refine gO ?_; intros)
  rw [eqN_self]
  repeat (refine gO ?_; intros)
  rw [eqZ_self]
  repeat (refine gO ?_; intros)
  refine Cd.t (by cases b <;> rfl) ?_
  repeat (refine gO ?_; intros)
  refine rSameNeed_ok hc h4 (Has.skip (Has.skip hv)) (Has.skip (Has.skip hw)) hl fun H1 h1 => ?_
  exact k _ (h1.ent ee)
end Go.Proofs.YtipbbnoepphdkaaGreat

set_option linter.unusedVariables false
set_option linter.unusedSimpArgs false
namespace Go.Proofs.YtipbbnoepphdkaaGreat
open Go Go.CM
attribute [local irreducible] AsBool AsWant AsNat AsInt AsCnt AsPtr AsSlc AsLen AsStr AsAgg AsTup AsFn AsIfc Nth Sc NotNil IsNil Must Cd codeW funW Sat SatL wrapN subM mkRow ltZ leZ ltN leN
variable {con : CallT}
/-! ### what steps keep of a memory -/
theorem qld (M : Mem) (th : Int) (a : Nat) : (M.load th a).tr.length = M.tr.length + 1 := by simp [Mem.load, Mem.note]
theorem qst (M : Mem) (th : Int) (a x : Nat) : (M.store th a x).tr.length = M.tr.length + 1 := by simp [Mem.store, Mem.note, Mem.put]
theorem qcs (M : Mem) (th : Int) (a x y : Nat) : (M.cas th a x y).tr.length = M.tr.length + 1 := by
  simp only [Mem.cas, Mem.note]
  split <;> simp [Mem.put]
/-- Numbers of 64 bits, and nothing long was allotted. -/
structure Fine (M : Mem) : Prop where
  bd : M.Bd
  vals : ∀ a ∈ M.tr, a.vals.length ≤ 1000000000
theorem fine_note {M : Mem} {c : Acs} (h : ∀ a ∈ M.tr, a.vals.length ≤ 1000000000) (hc : c.vals.length ≤ 1000000000) : ∀ a ∈ (M.note c).tr, a.vals.length ≤ 1000000000 := fun a ha => by
  simp only [Mem.note, List.mem_append, List.mem_singleton] at ha
  rcases ha with ha | rfl
  · exact h a ha
  · exact hc
/-- One access at most was made. -/
structure Nxt (M M' : Mem) : Prop where
  fine : Fine M → Fine M'
  tr : M'.tr.length ≤ M.tr.length + 1
  lo : M.tr.length ≤ M'.tr.length
theorem Nxt.refl (M : Mem) : Nxt M M := ⟨id, Nat.le_succ _, Nat.le_refl _⟩
theorem Nxt.load (M : Mem) (th : Int) (a : Nat) : Nxt M (M.load th a) := ⟨fun h => ⟨h.bd.load th a, fine_note h.vals (by simp [accLd])⟩, by rw [qld]; omega, by rw [qld]; omega⟩
theorem Nxt.store (M : Mem) (th : Int) (a : Nat) {x : Nat} (hx : x < 18446744073709551616) : Nxt M (M.store th a x) := ⟨fun h => ⟨h.bd.store th a hx, fine_note (M := M.put a x) h.vals (by simp [accSt])⟩, by rw [qst]; omega, by rw [qst]; omega⟩
theorem Nxt.cas (M : Mem) (th : Int) (a x : Nat) {y : Nat} (hy : y < 18446744073709551616) : Nxt M (M.cas th a x y) := ⟨fun h => ⟨h.bd.cas th a x hy, by
  unfold Mem.cas
  split
  · exact fine_note (M := M.put a y) h.vals (by simp [accCas])
  · exact fine_note h.vals (by simp [accCas])⟩, by rw [qcs]; omega, by rw [qcs]; omega⟩
theorem addM_lt (a b : Nat) : addM a b < 18446744073709551616 := Nat.mod_lt _ (by omega)
theorem snap_nxt (s : SnapS) (M : Mem) (th : Int) : Nxt M (s.step M th).2 := by
  unfold SnapS.step
  split
  · split
    · exact .refl M
    · exact .load M th _
  · exact .cas M th _ _ (slotW_lt ..)
  · exact .load M th _
  · exact .store M th _ (slotW_lt ..)
  · exact .load M th _
  · exact .cas M th _ _ (addM_lt ..)
  · exact .store M th _ (slotW_lt ..)
  · exact .store M th _ (slotW_lt ..)
theorem let_nxt (s : LetS) (M : Mem) (th : Int) : Nxt M (s.step M th).2 := by
  unfold LetS.step
  split
  · split
    · exact .load M th _
    · exact .refl M
  · exact .cas M th _ _ (slotW_lt ..)
theorem scan_nxt (s : ScanS) (M : Mem) (th : Int) : Nxt M (s.step M th).2 := by
  unfold ScanS.step
  split
  · exact .load M th _
  · exact .load M th _
/-! ### how many steps are left -/
def SnapS.rem (s : SnapS) : Nat := match s.at_ with | 0 => 2 * (cnt s.sl.count - s.i) + 8 | 1 => 2 * (cnt s.sl.count - s.i) + 7 | a => 8 - a
theorem genW_lt (w : Nat) : genW w < 1048576 := by unfold genW; omega
theorem snap_step (s : SnapS) (M : Mem) (th : Int) (h : s.Ok) : ((s.step M th).1.at_ ≠ 8 → (s.step M th).1.Ok) ∧ (s.step M th).1.at_ ≤ 8 ∧ (s.step M th).1.rem < s.rem ∧ ((s.step M th).1.ok = true → (s.step M th).1.i < 256 ∧ (s.step M th).1.gen < 1048576) ∧ (s.step M th).1.sl = s.sl := by
  obtain ⟨sl, at_, i, w, gen, t, ok, err⟩ := s
  obtain ⟨h1, h2, h3, h4, h5⟩ := h
  simp only at h1 h2 h3 h4 h5
  subst h2 h3
  have hc := cnt_le sl.count
  have hg := genW_lt (M.peek (addM sl.first i))
  rcases (by omega : at_ = 0 ∨ at_ = 1 ∨ at_ = 2 ∨ at_ = 3 ∨ at_ = 4 ∨ at_ = 5 ∨ at_ = 6 ∨ at_ = 7) with rfl | rfl | rfl | rfl | rfl | rfl | rfl | rfl
  · simp only [SnapS.step, SnapS.on, SnapS.cell]
    by_cases hz : cnt sl.count = 0
    · simp only [if_pos hz]; simp [SnapS.Ok, SnapS.rem] <;> omega
    · simp only [if_neg hz]
      by_cases hk : kindW (M.peek (addM sl.first i)) = 0
      · by_cases hgg : 1048575 ≤ genW (M.peek (addM sl.first i))
        · simp only [hgg, or_true, if_true]
          by_cases hi : i + 1 < cnt sl.count
          · simp only [if_pos hi]; simp [SnapS.Ok, SnapS.rem] <;> omega
          · simp only [if_neg hi]; simp [SnapS.Ok, SnapS.rem] <;> omega
        · simp only [hk, hgg, ne_eq, not_true_eq_false, or_false, if_false]; simp [SnapS.Ok, SnapS.rem] <;> omega
      · simp only [hk, ne_eq, not_false_eq_true, true_or, if_true]
        by_cases hi : i + 1 < cnt sl.count
        · simp only [if_pos hi]; simp [SnapS.Ok, SnapS.rem] <;> omega
        · simp only [if_neg hi]; simp [SnapS.Ok, SnapS.rem] <;> omega
  · simp only [SnapS.step, SnapS.on, SnapS.cell]
    cases M.swaps (addM sl.first i) w with
    | true => simp [SnapS.Ok, SnapS.rem] <;> omega
    | false =>
      simp only [Bool.false_eq_true, if_false]
      by_cases hi : i + 1 < cnt sl.count
      · simp only [if_pos hi]; simp [SnapS.Ok, SnapS.rem] <;> omega
      · simp only [if_neg hi]; simp [SnapS.Ok, SnapS.rem] <;> omega
  · simp only [SnapS.step]; simp [SnapS.Ok, SnapS.rem] <;> omega
  · simp only [SnapS.step]; simp [SnapS.Ok, SnapS.rem] <;> omega
  · simp only [SnapS.step]
    by_cases hm : sl.most ≤ M.peek sl.cam
    · simp only [if_pos hm]; simp [SnapS.Ok, SnapS.rem] <;> omega
    · simp only [if_neg hm]; simp [SnapS.Ok, SnapS.rem] <;> omega
  · simp only [SnapS.step]; simp [SnapS.Ok, SnapS.rem] <;> omega
  · simp only [SnapS.step]; simp [SnapS.Ok, SnapS.rem] <;> omega
  · simp only [SnapS.step]; simp [SnapS.Ok, SnapS.rem] <;> omega
def LetS.rem (s : LetS) : Nat := 2 - s.at_
theorem let_step (s : LetS) (M : Mem) (th : Int) (h : s.at_ < 2) : (s.step M th).1.at_ ≤ 2 ∧ (s.step M th).1.rem < s.rem ∧ (s.step M th).1.h = s.h ∧ (s.step M th).1.sl = s.sl := by
  obtain ⟨sl, h', at_, slot, w, gen, err⟩ := s
  simp only at h
  rcases (by omega : at_ = 0 ∨ at_ = 1) with rfl | rfl <;> simp only [LetS.step] <;> (repeat' split) <;> simp [LetS.rem]
theorem insU_le (x : Nat) : ∀ l : List Nat, (insU x l).length ≤ l.length + 1
  | [] => Nat.le_refl _
  | y :: r => by
    unfold insU
    split
    · simp
    · split
      · simp
      · have := insU_le x r; simp only [List.length_cons]; omega
theorem rise_le (b : Nat) : ∀ l : List Nat, (rise l b).length ≤ l.length
  | [] => Nat.le_refl _
  | x :: l => by
    show (if x < b then insU x (rise l b) else rise l b).length ≤ _
    have h1 := rise_le b l
    have h2 := insU_le x (rise l b)
    simp only [List.length_cons]
    split <;> omega
def ScanS.Ok (s : ScanS) : Prop := s.at_ < 2 ∧ s.i ≤ 256 ∧ (s.at_ = 1 → s.i < cnt s.sl.count) ∧ s.told.length ≤ s.i ∧ s.need = []
def ScanS.rem (s : ScanS) : Nat := match s.at_ with | 0 => cnt s.sl.count - s.i + 1 | 1 => cnt s.sl.count - s.i | _ => 0
theorem scan_step (s : ScanS) (M : Mem) (th : Int) (h : s.Ok) : ((s.step M th).1.at_ ≠ 2 → (s.step M th).1.Ok) ∧ (s.step M th).1.at_ ≤ 2 ∧ (s.step M th).1.at_ ≠ 0 ∧ (s.step M th).1.rem < s.rem ∧ (s.step M th).1.need.length ≤ 256 ∧ (s.step M th).1.sl = s.sl := by
  obtain ⟨sl, at_, i, fl, told, need⟩ := s
  obtain ⟨h1, h2, h3, h4, h5⟩ := h
  simp only at h1 h2 h3 h4 h5
  subst h5
  have hc := cnt_le sl.count
  rcases (by omega : at_ = 0 ∨ at_ = 1) with rfl | rfl
  · simp only [ScanS.step, ScanS.fin]
    have := rise_le (M.peek sl.cam) told
    split <;> simp [ScanS.Ok, ScanS.rem] <;> omega
  · have h6 := h3 rfl
    simp only [ScanS.step, ScanS.fin]
    by_cases h3 : kindW (M.peek (addM sl.first i)) = 3
    · simp only [if_pos h3]
      rw [if_neg (show ¬ kindW (M.peek (addM sl.first i)) = 2 by omega)]
      have := rise_le fl (told ++ [stampW (M.peek (addM sl.first i))])
      rw [List.length_append] at this
      simp only [List.length_cons, List.length_nil] at this
      split <;> simp [ScanS.Ok, ScanS.rem] <;> omega
    · simp only [if_neg h3]
      by_cases h2 : kindW (M.peek (addM sl.first i)) = 2
      · simp only [if_pos h2]
        have := rise_le (Nat.min fl (stampW (M.peek (addM sl.first i)))) told
        split <;> simp [ScanS.Ok, ScanS.rem] <;> omega
      · simp only [if_neg h2]
        have := rise_le fl told
        split <;> simp [ScanS.Ok, ScanS.rem] <;> omega
/-! ### a call, of whatever kind -/
structure P13 where
  kind : Int
  sn : SnapS
  lt : LetS
  sc : ScanS
def P13.isS (s : P13) : Bool := eqZ s.kind (Int.ofNat 0)
def P13.isN (s : P13) : Bool := eqZ s.kind (Int.ofNat 2)
noncomputable def P13.step (s : P13) (M : Mem) (th : Int) : P13 × Mem :=
  bif s.isS then ({ s with sn := (s.sn.step M th).1 }, (s.sn.step M th).2)
  else bif s.isN then ({ s with sc := (s.sc.step M th).1 }, (s.sc.step M th).2)
  else ({ s with lt := (s.lt.step M th).1 }, (s.lt.step M th).2)
def P13.fin (s : P13) : Bool :=
  bif s.isS then eqZ (Int.ofNat s.sn.at_) (Int.ofNat 8) else bif s.isN then eqZ (Int.ofNat s.sc.at_) (Int.ofNat 2) else eqZ (Int.ofNat s.lt.at_) (Int.ofNat 2)
def P13.rem (s : P13) : Nat := bif s.isS then s.sn.rem else bif s.isN then s.sc.rem else s.lt.rem
structure T13 where
  h : Nat
  st : Nat
  er : Nat
  fl : Nat
  need : List Nat
def P13.told (s : P13) : T13 :=
  bif s.isS then ⟨s.sn.handle, s.sn.stamp, s.sn.err, 0, []⟩ else bif s.isN then ⟨0, 0, 0, if s.sc.at_ = 2 then s.sc.fl else 0, s.sc.need⟩ else ⟨0, 0, s.lt.err, 0, []⟩
structure P13.Ok (s : P13) : Prop where
  sn : s.isS = true → s.sn.Ok
  sc : s.isS = false → s.isN = true → s.sc.Ok
  lt : s.isS = false → s.isN = false → s.lt.at_ < 2 ∧ s.lt.h < 18446744073709551616
/-- What may be asked what it told. -/
structure P13.Tl (s : P13) : Prop where
  sn : s.isS = true → s.sn.ok = true → s.sn.i < 256 ∧ s.sn.gen < 1048576
  sc : s.isN = true → s.sc.need.length ≤ 256 ∧ (s.sc.at_ ≠ 2 → s.sc.need = [])
  no : s.isN = false → s.sc.need = []
def P13.fresh (sl : SlotsS) (kind : Int) (h : Nat) : P13 := ⟨kind, snap0 sl, let0 sl h, scan0 sl⟩
theorem p13_isS {s : P13} (h : s.isS = true) : s.kind = Int.ofNat 0 := of_decide_eq_true h
theorem p13_isN {s : P13} (h : s.isN = true) : s.kind = Int.ofNat 2 := of_decide_eq_true h
theorem p13_not {s : P13} (h : s.isS = true) : s.isN = false := by
  unfold P13.isN
  rw [p13_isS h]; rfl
theorem p13_stepS {s : P13} (h : s.isS = true) (M : Mem) (th : Int) : s.step M th = ({ s with sn := (s.sn.step M th).1 }, (s.sn.step M th).2) := by unfold P13.step; rw [h]; rfl
theorem p13_stepN {s : P13} (h0 : s.isS = false) (h : s.isN = true) (M : Mem) (th : Int) : s.step M th = ({ s with sc := (s.sc.step M th).1 }, (s.sc.step M th).2) := by unfold P13.step; rw [h0, h]; rfl
theorem p13_stepL {s : P13} (h0 : s.isS = false) (h : s.isN = false) (M : Mem) (th : Int) : s.step M th = ({ s with lt := (s.lt.step M th).1 }, (s.lt.step M th).2) := by unfold P13.step; rw [h0, h]; rfl
theorem p13_finS {s : P13} (h : s.isS = true) : s.fin = eqZ (Int.ofNat s.sn.at_) (Int.ofNat 8) := by unfold P13.fin; rw [h]; rfl
theorem p13_finN {s : P13} (h0 : s.isS = false) (h : s.isN = true) : s.fin = eqZ (Int.ofNat s.sc.at_) (Int.ofNat 2) := by unfold P13.fin; rw [h0, h]; rfl
theorem p13_finL {s : P13} (h0 : s.isS = false) (h : s.isN = false) : s.fin = eqZ (Int.ofNat s.lt.at_) (Int.ofNat 2) := by unfold P13.fin; rw [h0, h]; rfl
theorem p13_toldS {s : P13} (h : s.isS = true) : s.told = ⟨s.sn.handle, s.sn.stamp, s.sn.err, 0, []⟩ := by unfold P13.told; rw [h]; rfl
theorem p13_toldN {s : P13} (h0 : s.isS = false) (h : s.isN = true) : s.told = ⟨0, 0, 0, if s.sc.at_ = 2 then s.sc.fl else 0, s.sc.need⟩ := by unfold P13.told; rw [h0, h]; rfl
theorem p13_toldL {s : P13} (h0 : s.isS = false) (h : s.isN = false) : s.told = ⟨0, 0, s.lt.err, 0, []⟩ := by unfold P13.told; rw [h0, h]; rfl
theorem p13_nxt (s : P13) (M : Mem) (th : Int) : Nxt M (s.step M th).2 := by
  cases h0 : s.isS with
  | true => rw [p13_stepS h0]; exact snap_nxt s.sn M th
  | false =>
    cases h2 : s.isN with
    | true => rw [p13_stepN h0 h2]; exact scan_nxt s.sc M th
    | false => rw [p13_stepL h0 h2]; exact let_nxt s.lt M th
theorem eqZ_ne {a b : Nat} (h : eqZ (Int.ofNat a) (Int.ofNat b) = false) : a ≠ b := fun e => by rw [eqZ_t e] at h; cases h
theorem p13_step (s : P13) (M : Mem) (th : Int) (h : s.Ok) (ht : s.Tl) : ((s.step M th).1.fin = false → (s.step M th).1.Ok) ∧ (s.step M th).1.Tl ∧ (s.step M th).1.rem < s.rem := by
  cases h0 : s.isS with
  | true =>
    have hn : s.isN = false := p13_not h0
    obtain ⟨g1, g2, g3, g4, g5⟩ := snap_step s.sn M th (h.sn h0)
    rw [p13_stepS h0]
    generalize (s.sn.step M th).1 = x at *
    have i0 : P13.isS { s with sn := x } = true := h0
    refine ⟨fun hf => ⟨fun _ => g1 (eqZ_ne ((p13_finS i0).symm.trans hf)), fun q _ => (by rw [i0] at q; cases q), fun q _ => (by rw [i0] at q; cases q)⟩, ⟨fun _ => g4, fun q => ht.sc q, fun q => ht.no q⟩, ?_⟩
    show (bif P13.isS { s with sn := x } then x.rem else _) < (bif s.isS then s.sn.rem else _)
    rw [i0, h0]; exact g3
  | false =>
    cases h2 : s.isN with
    | true =>
      obtain ⟨g1, g2, g3, g4, g5, g6⟩ := scan_step s.sc M th (h.sc h0 h2)
      rw [p13_stepN h0 h2]
      generalize (s.sc.step M th).1 = x at *
      have i0 : P13.isS { s with sc := x } = false := h0
      have i2 : P13.isN { s with sc := x } = true := h2
      refine ⟨fun hf => ⟨fun q => (by rw [i0] at q; cases q), fun _ _ => g1 (eqZ_ne ((p13_finN i0 i2).symm.trans hf)), fun _ q => (by rw [i2] at q; cases q)⟩, ⟨fun q => (by rw [i0] at q; cases q), fun _ => ⟨g5, fun q => (g1 q).2.2.2.2⟩, fun q => (by rw [i2] at q; cases q)⟩, ?_⟩
      show (bif P13.isS { s with sc := x } then s.sn.rem else bif P13.isN { s with sc := x } then x.rem else _) < (bif s.isS then s.sn.rem else bif s.isN then s.sc.rem else _)
      rw [i0, h0, i2, h2]; exact g4
    | false =>
      obtain ⟨g1, g2, g3, g4⟩ := let_step s.lt M th (h.lt h0 h2).1
      have g5 := (h.lt h0 h2).2
      rw [p13_stepL h0 h2]
      generalize (s.lt.step M th).1 = x at *
      have i0 : P13.isS { s with lt := x } = false := h0
      have i2 : P13.isN { s with lt := x } = false := h2
      refine ⟨fun hf => ⟨fun q => (by rw [i0] at q; cases q), fun _ q => (by rw [i2] at q; cases q), fun _ _ => ⟨?_, by show x.h < _; rw [g3]; exact g5⟩⟩, ⟨fun q => (by rw [i0] at q; cases q), fun q => (by rw [i2] at q; cases q), fun q => ht.no h2⟩, ?_⟩
      · have := eqZ_ne ((p13_finL i0 i2).symm.trans hf)
        show x.at_ < 2
        have : x.at_ ≠ 2 := this
        omega
      · show (bif P13.isS { s with lt := x } then s.sn.rem else bif P13.isN { s with lt := x } then s.sc.rem else x.rem) < (bif s.isS then s.sn.rem else bif s.isN then s.sc.rem else s.lt.rem)
        rw [i0, h0, i2, h2]; exact g2
theorem p13_fresh (sl : SlotsS) (kind : Int) {h : Nat} (hh : h < 18446744073709551616) : (P13.fresh sl kind h).Ok ∧ (P13.fresh sl kind h).Tl ∧ (P13.fresh sl kind h).rem ≤ 520 ∧ (P13.fresh sl kind h).fin = false := by
  have hc := cnt_le sl.count
  refine ⟨⟨fun _ => ⟨by show 0 < 8; omega, rfl, rfl, by show 0 < 1048576; omega, by show 0 < 256; omega⟩, fun _ _ => ⟨by show 0 < 2; omega, by show 0 ≤ 256; omega, fun q => (by cases q), Nat.le_refl _, rfl⟩, fun _ _ => ⟨by show 0 < 2; omega, hh⟩⟩, ⟨fun _ q => (by cases q), fun _ => ⟨(by show 0 ≤ 256; omega), fun _ => rfl⟩, fun _ => rfl⟩, ?_, ?_⟩
  · unfold P13.rem
    cases (P13.fresh sl kind h).isS with
    | true => show 2 * (cnt sl.count - 0) + 8 ≤ 520; omega
    | false =>
      cases (P13.fresh sl kind h).isN with
      | true => show cnt sl.count - 0 + 1 ≤ 520; omega
      | false => show 2 - 0 ≤ 520; omega
  · unfold P13.fin
    cases (P13.fresh sl kind h).isS with
    | true => rfl
    | false => cases (P13.fresh sl kind h).isN <;> rfl
end Go.Proofs.YtipbbnoepphdkaaGreat

set_option linter.unusedVariables false
set_option linter.unusedSimpArgs false
namespace Go.Proofs.YtipbbnoepphdkaaGreat
open Go Go.CM
attribute [local irreducible] AsBool AsWant AsNat AsInt AsCnt AsPtr AsSlc AsLen AsStr AsAgg AsTup AsFn AsIfc Nth Sc NotNil IsNil Must Cd codeW funW Sat SatL wrapN subM mkRow ltZ leZ ltN leN
variable {con : CallT}
theorem eqZ_dec (a b : Nat) : eqZ (Int.ofNat a) (Int.ofNat b) = decide (a = b) := by
  by_cases h : a = b
  · rw [eqZ_t h, decide_eq_true h]
  · rw [eqZ_f h, decide_eq_false h]
theorem vec_nil {x : Value} {e s : Nat} {h : PH} (a : Vec x e s [] h) : x = snil := by
  rcases a.2 with ⟨rfl, _⟩ | ⟨b, hb, _⟩
  · rfl
  · exact absurd rfl hb
/-- A call of the program. -/
def PrAt13 (p : Nat) (s : P13) : HP := fun h => ∃ p1 p2 p3 g sn w v, (JG s.sn g ∧ LetJ s.lt sn) ∧
  SatL [Own p [i64 s.kind, ptr p1 0, ptr p2 0, ptr p3 0], Own p1 (snapC s.sn.at_ s.sn g), Own p2 (letC s.lt sn), Own p3 (scanC s.sc.sl (decide (s.sc.at_ ≠ 0)) s.sc.i s.sc.fl w v (decide (s.sc.at_ = 2))), Vec w tU 1 (rowsU s.sc.need), TV s.sc.at_ s.sc.told v] h
/-- A call of the document. -/
def RAt13 (p : Nat) (s : P13) : HP := fun h => ∃ w v, SatL [Own p (d13 s.kind s.sn s.lt s.sc w v (t13 (u64 s.told.h) (u64 s.told.st) (iN s.told.er) (u64 s.told.fl) w (.bool s.fin))), Vec w tU 1 (rowsU s.sc.need), Vec v tU 1 (rowsU s.sc.told)] h
theorem p13step_ok (hc : Con con lives) (s : P13) {L R1 R2 R3 : List HP} {H : CH} {p q m n : Nat} {th : Int} {M : Mem} {K : KP} (hs : Sat L H) (hm : Pull L (MemP m M) R1) (hv : Pull R1 (ViewAt q m th n) R2) (hp : Pull R2 (PrAt13 p s) R3)
    (hn : n < 1000000000) (ht : M.tr.length < 1000000000) (hb : M.Bd) (hok : s.Ok)
    (k : ∀ n' H1, n' ≤ n + 1 → Sat (PrAt13 p (s.step M th).1 :: MemP m (s.step M th).2 :: ViewAt q m th n' :: R3) H1 → K (.bool (s.step M th).1.fin) H1) :
    Call1 Tryz.prog con 24 [ptr p 0, ptr q 0] H K := by
  have hs0 := hs.takes (.cons hm (.cons hv (.cons hp .nil)))
  simp only [List.cons_append, List.nil_append] at hs0
  clear hs hm hv hp
  obtain ⟨h1, h2, s1, s2, d, ⟨p1, p2, p3, g, sn, w, v, ⟨hg, hj⟩, hin⟩, hR⟩ := hs0.opens (A := PrAt13 p s) (.there (.there .here))
  have hs1 := Sat.merge s1 s2 d hin hR
  simp only [List.cons_append, List.nil_append] at hs1
  clear hs0
  refine l13step1_ok hc hs1 (fun h0 => ?_) (fun h2 => ?_) (fun h0 h2 => ?_)
  · have h0' : s.isS = true := h0
    rw [p13_stepS h0'] at k
    dsimp only at k
    refine snapStep_ok hc s.sn (g := g) hs1 pp pp pp hn ht hb (hok.sn h0') hg fun g' n' H1 hn' hg' h1 => ?_
    have e : P13.fin { s with sn := (s.sn.step M th).1 } = eqZ (Int.ofNat (s.sn.step M th).1.at_) (Int.ofNat 8) := p13_finS h0'
    rw [← e]
    exact k n' H1 hn' (Sat.close (L1 := [_, _, _, _, _, _]) (h1.ent ee) fun g a => ⟨p1, p2, p3, g', sn, w, v, ⟨hg', hj⟩, a⟩)
  · have h2' : s.isN = true := h2
    have h0' : s.isS = false := by
      cases e : s.isS with
      | false => rfl
      | true => rw [p13_not e] at h2'; cases h2'
    obtain ⟨k1, k2, k3, k4, k5⟩ := hok.sc h0' h2'
    have hcl := cnt_le s.sc.sl.count
    rw [p13_stepN h0' h2'] at k
    dsimp only at k
    rw [k5] at hs1
    have hs2 : Sat (Vec w tU 1 (rowsU []) :: Own p [i64 s.kind, ptr p1 0, ptr p2 0, ptr p3 0] :: Own p1 (snapC s.sn.at_ s.sn g) :: Own p2 (letC s.lt sn) :: Own p3 (scanC s.sc.sl (decide (s.sc.at_ ≠ 0)) s.sc.i s.sc.fl w v (decide (s.sc.at_ = 2))) :: TV s.sc.at_ s.sc.told v :: MemP m M :: ViewAt q m th n :: R3) H := hs1.ent ee
    obtain rfl := vec_nil (hs2.has Has.vec)
    have hs3 : Sat (TV s.sc.at_ s.sc.told v :: Own p [i64 s.kind, ptr p1 0, ptr p2 0, ptr p3 0] :: Own p1 (snapC s.sn.at_ s.sn g) :: Own p2 (letC s.lt sn) :: Own p3 (scanC s.sc.sl (decide (s.sc.at_ ≠ 0)) s.sc.i s.sc.fl snil v (decide (s.sc.at_ = 2))) :: MemP m M :: ViewAt q m th n :: R3) H := hs2.ent ee
    have hs4 : Sat (Vec v tU 1 (rowsU s.sc.told) :: Own p [i64 s.kind, ptr p1 0, ptr p2 0, ptr p3 0] :: Own p1 (snapC s.sn.at_ s.sn g) :: Own p2 (letC s.lt sn) :: Own p3 (scanC s.sc.sl (decide (s.sc.at_ ≠ 0)) s.sc.i s.sc.fl snil v (decide (s.sc.at_ = 2))) :: MemP m M :: ViewAt q m th n :: R3) H := hs3.imp fun g a => by
      rcases a with a | a
      · omega
      · exact a
    rw [show decide (s.sc.at_ = 2) = false from decide_eq_false (by omega), show decide (s.sc.at_ ≠ 0) = decide (s.sc.at_ = 1) from decide_eq_decide.2 (by omega)] at hs4
    obtain ⟨q1, q2, q3, q4, q5, q6⟩ := scan_step s.sc M th (hok.sc h0' h2')
    refine scanStep_ok hc s.sc hs4 pp pp pp pp hn ht hb k1 k2 (fun h => by have := k3 h; omega) k4 k5 fun w' v' n' H1 hn' h1 => ?_
    have e : P13.fin { s with sc := (s.sc.step M th).1 } = decide ((s.sc.step M th).1.at_ = 2) := (p13_finN (s := { s with sc := (s.sc.step M th).1 }) h0' h2').trans (eqZ_dec _ _)
    rw [← e]
    have h5 : Sat ([Own p [i64 s.kind, ptr p1 0, ptr p2 0, ptr p3 0], Own p1 (snapC s.sn.at_ s.sn g), Own p2 (letC s.lt sn), Own p3 (scanC (s.sc.step M th).1.sl true (s.sc.step M th).1.i (s.sc.step M th).1.fl w' v' (decide ((s.sc.step M th).1.at_ = 2))), Vec w' tU 1 (rowsU (s.sc.step M th).1.need), TV (s.sc.step M th).1.at_ (s.sc.step M th).1.told v'] ++ (MemP m (s.sc.step M th).2 :: ViewAt q m th n' :: R3)) H1 := h1.ent ee
    refine k n' H1 hn' (h5.close fun g0 a => ⟨p1, p2, p3, g, sn, w', v', ⟨hg, hj⟩, ?_⟩)
    dsimp only
    rw [decide_eq_true q3]
    exact a
  · have h0' : s.isS = false := h0
    have h2' : s.isN = false := h2
    rw [p13_stepL h0' h2'] at k
    dsimp only at k
    refine letStep_ok hc s.lt (sn := sn) hs1 pp pp pp hn ht hb (hok.lt h0' h2').2 (hok.lt h0' h2').1 hj fun sn' n' H1 hn' hj' h1 => ?_
    have e : P13.fin { s with lt := (s.lt.step M th).1 } = eqZ (Int.ofNat (s.lt.step M th).1.at_) (Int.ofNat 2) := p13_finL h0' h2'
    rw [← e]
    exact k n' H1 hn' (Sat.close (L1 := [_, _, _, _, _, _]) (h1.ent ee) fun g0 a => ⟨p1, p2, p3, g, sn', w, v, ⟨hg, hj'⟩, a⟩)
set_option maxRecDepth 100000 in
theorem r13step_ok (hc : Con con lives) (s : P13) {L R1 R2 : List HP} {H : CH} {p m : Nat} {th : Int} {M : Mem} {K : KP} (hs : Sat L H) (hm : Pull L (RefP m M) R1) (hp : Pull R1 (RAt13 p s) R2)
    (ht : M.tr.length < 1000000000) (hb : M.Bd) (hok : s.Ok) (htl : s.Tl)
    (k : ∀ H1, Sat (RAt13 p (s.step M th).1 :: RefP m (s.step M th).2 :: R2) H1 → K (.bool (s.step M th).1.fin) H1) :
    Call1 Tryz.prog con 25 [ptr p 0, ptr m 0, i64 th] H K := by
  have hs0 := hs.takes (.cons hm (.cons hp .nil))
  simp only [List.cons_append, List.nil_append] at hs0
  clear hs hm hp
  obtain ⟨h1, h2, s1, s2, d, ⟨w, v, hin⟩, hR⟩ := hs0.opens (A := RAt13 p s) (.there .here)
  have hs1 := Sat.merge s1 s2 d hin hR
  simp only [List.cons_append, List.nil_append] at hs1
  clear hs0
  cases h0 : s.isS with
  | true =>
    rw [p13_stepS h0] at k
    dsimp only at k
    have ek := p13_isS h0
    rw [ek] at hs1
    refine rProc0_ok hc s.sn hs1 pp pp ht hb (hok.sn h0) fun H1 b hb' h1 => ?_
    have e : P13.fin { s with sn := (s.sn.step M th).1 } = b := (p13_finS (s := { s with sn := (s.sn.step M th).1 }) h0).trans hb'.symm
    rw [← e]
    have e2 := p13_toldS (s := { s with sn := (s.sn.step M th).1 }) h0
    have e3 := p13_toldS h0
    have h5 : Sat ([Own p (d13 (Int.ofNat 0) (s.sn.step M th).1 s.lt s.sc w v (t13 (u64 (s.sn.step M th).1.handle) (u64 (s.sn.step M th).1.stamp) (iN (s.sn.step M th).1.err) (u64 s.told.fl) w (.bool b))), Vec w tU 1 (rowsU s.sc.need), Vec v tU 1 (rowsU s.sc.told)] ++ (RefP m (s.sn.step M th).2 :: R2)) H1 := h1.ent ee
    refine k H1 (h5.close fun g a => ⟨w, v, ?_⟩)
    rw [e2, e]
    rw [e3] at a
    dsimp only
    rw [ek]
    exact a
  | false =>
    cases h2 : s.isN with
    | true =>
      rw [p13_stepN h0 h2] at k
      dsimp only at k
      have ek := p13_isN h2
      obtain ⟨k1, k2, k3, k4, k5⟩ := hok.sc h0 h2
      have hcl := cnt_le s.sc.sl.count
      rw [ek, k5] at hs1
      have hs2 : Sat (Vec w tU 1 (rowsU []) :: Own p (d13 (Int.ofNat 2) s.sn s.lt s.sc w v (t13 (u64 s.told.h) (u64 s.told.st) (iN s.told.er) (u64 s.told.fl) w (.bool s.fin))) :: Vec v tU 1 (rowsU s.sc.told) :: RefP m M :: R2) H := hs1.ent ee
      obtain rfl := vec_nil (hs2.has Has.vec)
      obtain ⟨q1, q2, q3, q4, q5, q6⟩ := scan_step s.sc M th (hok.sc h0 h2)
      refine rProc2_ok hc s.sc hs2 pp pp pp ht hb k1 k2 (fun h => by have := k3 h; omega) k4 k5 fun w' v' H1 b hb' h1 => ?_
      have e : P13.fin { s with sc := (s.sc.step M th).1 } = b := (p13_finN (s := { s with sc := (s.sc.step M th).1 }) h0 h2).trans hb'.symm
      rw [← e]
      have e2 := p13_toldN (s := { s with sc := (s.sc.step M th).1 }) h0 h2
      have e3 := p13_toldN h0 h2
      have h5 : Sat ([Own p (d13 (Int.ofNat 2) s.sn s.lt (s.sc.step M th).1 w' v' (t13 (u64 s.told.h) (u64 s.told.st) (iN s.told.er) (u64 (if (s.sc.step M th).1.at_ = 2 then (s.sc.step M th).1.fl else 0)) w' (.bool b))), Vec w' tU 1 (rowsU (s.sc.step M th).1.need), Vec v' tU 1 (rowsU (s.sc.step M th).1.told)] ++ (RefP m (s.sc.step M th).2 :: R2)) H1 := h1.ent ee
      refine k H1 (h5.close fun g a => ⟨w', v', ?_⟩)
      rw [e2, e]
      rw [e3] at a
      dsimp only
      rw [ek]
      exact a
    | false =>
      rw [p13_stepL h0 h2] at k
      dsimp only at k
      refine rProc1_ok hc s.lt hs1 pp pp h0 h2 ht hb (hok.lt h0 h2).2 (hok.lt h0 h2).1 fun H1 b hb' h1 => ?_
      have e : P13.fin { s with lt := (s.lt.step M th).1 } = b := (p13_finL (s := { s with lt := (s.lt.step M th).1 }) h0 h2).trans hb'.symm
      rw [← e]
      have e2 := p13_toldL (s := { s with lt := (s.lt.step M th).1 }) h0 h2
      have e3 := p13_toldL h0 h2
      have h5 : Sat ([Own p (d13 s.kind s.sn (s.lt.step M th).1 s.sc w v (t13 (u64 s.told.h) (u64 s.told.st) (iN (s.lt.step M th).1.err) (u64 s.told.fl) w (.bool b))), Vec w tU 1 (rowsU s.sc.need), Vec v tU 1 (rowsU s.sc.told)] ++ (RefP m (s.lt.step M th).2 :: R2)) H1 := h1.ent ee
      refine k H1 (h5.close fun g a => ⟨w, v, ?_⟩)
      rw [e2, e]
      rw [e3] at a
      exact a
/-- A scan that is not done tells none. -/
theorem l13told2n_ok (hc : Con con lives) (s : ScanS) {b st : Bool} {w v : Value} {L R1 R2 : List HP} {H : CH} {p p1 p2 p3 : Nat} {K : KP} (hs : Sat L H) (hp : Pull L (Own p [i64 (Int.ofNat 2), ptr p1 0, ptr p2 0, ptr p3 0]) R1) (hq : Pull R1 (Own p3 (scanC s.sl st s.i s.fl w v (decide (s.at_ = 2)))) R2) (hw : Has R2 (Nums w s.need)) (hl : s.need.length ≤ 1000000) (hat : s.at_ ≠ 2)
    (k : ∀ H1, Sat (Own p [i64 (Int.ofNat 2), ptr p1 0, ptr p2 0, ptr p3 0] :: Own p3 (scanC s.sl st s.i s.fl w v (decide (s.at_ = 2))) :: R2) H1 → K (.agg ⟨t13 (u64 0) (u64 0) (iN 0) (u64 0) snil (.bool b)⟩) H1) : Call1 Tryz.prog con 27 [ptr p 0, .bool b] H K := by
  refine call_of (hc _ _ _ rfl) ?_
  rw [l13told_W]
  have hs0 := hs.takes (.cons hp (.cons hq .nil))
  simp only [List.cons_append, List.nil_append] at hs0
  clear hs hp hq
  repeat (refine gO ?_; intros)
  refine stN (by assumption) (Nat.le_of_ble_eq_true rfl) rfl fun H5 h5 => ?_
  repeat (refine gO ?_; intros)
  refine scanNeed_ok hc s (st := st) (w := w) (v := v) h5 (Has.skip (Has.skip (Has.skip (Has.skip hw)))) hl (fun _ H6 h6 => ?_) fun h => absurd h hat
  repeat (refine gO ?_; intros)
  refine stN h6 (Nat.le_of_ble_eq_true rfl) rfl fun H7 h7 => ?_
  repeat (refine gO ?_; intros)
  refine stN (by assumption) (Nat.le_of_ble_eq_true rfl) rfl fun H8 h8 => ?_
  repeat (refine gO ?_; intros)
  exact k _ (h8.ent ee)
/-- What it told, asked of the program. -/
theorem p13told_ok (hc : Con con lives) (s : P13) {b : Bool} {L R : List HP} {H : CH} {p : Nat} {K : KP} (hs : Sat L H) (hp : Pull L (PrAt13 p s) R) (htl : s.Tl)
    (k : ∀ w H1, Sat (Nums w s.told.need :: PrAt13 p s :: R) H1 → K (.agg ⟨t13 (u64 s.told.h) (u64 s.told.st) (iN s.told.er) (u64 s.told.fl) w (.bool b)⟩) H1) : Call1 Tryz.prog con 27 [ptr p 0, .bool b] H K := by
  have hs0 := hs.pull hp
  clear hs hp
  obtain ⟨h1, h2, s1, s2, d, ⟨p1, p2, p3, g, sn, w, v, ⟨hg, hj⟩, hin⟩, hR⟩ := hs0.opens (A := PrAt13 p s) .here
  have hs1 := Sat.merge s1 s2 d hin hR
  simp only [List.cons_append, List.nil_append] at hs1
  clear hs0
  have back : ∀ {H1 : CH}, Sat (Own p [i64 s.kind, ptr p1 0, ptr p2 0, ptr p3 0] :: Own p1 (snapC s.sn.at_ s.sn g) :: Own p2 (letC s.lt sn) :: Own p3 (scanC s.sc.sl (decide (s.sc.at_ ≠ 0)) s.sc.i s.sc.fl w v (decide (s.sc.at_ = 2))) :: Vec w tU 1 (rowsU s.sc.need) :: TV s.sc.at_ s.sc.told v :: R) H1 → Sat (PrAt13 p s :: R) H1 := fun h => Sat.close (L1 := [_, _, _, _, _, _]) h fun g' a => ⟨p1, p2, p3, g, sn, w, v, ⟨hg, hj⟩, a⟩
  cases h0 : s.isS with
  | true =>
    have e := p13_toldS h0
    rw [e] at k
    have ek := p13_isS h0
    rw [ek] at hs1
    refine l13told0_ok hc s.sn (a := s.sn.at_) (g := g) hs1 pp pp hg (htl.sn h0) fun H1 h1 => ?_
    rw [← ek] at h1
    exact k snil H1 (Sat.nil (back (h1.ent ee)))
  | false =>
    cases h2 : s.isN with
    | true =>
      have e := p13_toldN h0 h2
      rw [e] at k
      have ek := p13_isN h2
      rw [ek] at hs1
      obtain ⟨t1, t2⟩ := htl.sc h2
      by_cases hat : s.sc.at_ = 2
      · simp only [if_pos hat] at k
        refine l13told2_ok hc s.sc (v := v) (w := w) hs1 pp pp (Has.skip (Has.skip (fun H g => Vec.nums (Has.vec H g)))) (by omega) hat fun w' H1 h1 => ?_
        rw [← ek] at h1
        have h3 : Sat (Own p [i64 s.kind, ptr p1 0, ptr p2 0, ptr p3 0] :: Own p1 (snapC s.sn.at_ s.sn g) :: Own p2 (letC s.lt sn) :: Own p3 (scanC s.sc.sl (decide (s.sc.at_ ≠ 0)) s.sc.i s.sc.fl w v (decide (s.sc.at_ = 2))) :: Vec w tU 1 (rowsU s.sc.need) :: TV s.sc.at_ s.sc.told v :: Nums w' s.sc.need :: R) H1 := h1.ent ee
        have h4 : Sat (PrAt13 p s :: Nums w' s.sc.need :: R) H1 := Sat.close (L1 := [_, _, _, _, _, _]) h3 fun g' a => ⟨p1, p2, p3, g, sn, w, v, ⟨hg, hj⟩, a⟩
        exact k w' H1 (h4.ent ee)
      · simp only [if_neg hat] at k
        have hn0 := t2 hat
        refine l13told2n_ok hc s.sc (v := v) (w := w) hs1 pp pp (Has.skip (Has.skip (fun H g => Vec.nums (Has.vec H g)))) (by omega) hat fun H1 h1 => ?_
        rw [← ek] at h1
        have h4 := Sat.nil (back (h1.ent ee))
        rw [← hn0] at h4
        exact k snil H1 h4
    | false =>
      have e := p13_toldL h0 h2
      rw [e] at k
      refine l13told1_ok hc s.lt (sn := sn) hs1 pp pp h0 h2 fun H1 h1 => ?_
      exact k snil H1 (Sat.nil (back (h1.ent ee)))
theorem begin13_ok (hc : Con con lives) (sl : SlotsS) {kind : Int} {h et : Nat} {v : Value} {rows : List (List Value)} {hd : List Nat} {L : List HP} {H : CH} {K : KP} (hs : Sat L H) (hv : Has L (Vec v et 6 rows)) (hl : rows.length ≤ 1000000000) (hln : hd.length = rows.length)
    (hr : ∀ (i : Nat) row x, rows[i]? = some row → hd[i]? = some x → row[0]? = some (u64 x))
    (k : ∀ p H1, Sat (PrAt13 p (P13.fresh sl kind (bh kind h hd)) :: L) H1 → K (ptr p 0) H1) : Call1 Tryz.prog con 22 [.agg ⟨[u64 sl.cam, u64 sl.first, i64 sl.count, u64 sl.most]⟩, .agg ⟨[i64 kind, u64 h]⟩, v] H K := by
  refine l13begin_ok hc sl hs hv hl hln hr fun p p1 p2 p3 H1 h1 => k p H1 ?_
  have h2 : Sat (TV 0 [] snil :: Vec snil tU 1 (rowsU []) :: Own p [i64 kind, ptr p1 0, ptr p2 0, ptr p3 0] :: Own p1 (snapC 0 (snap0 sl) 0) :: Own p2 (letC (let0 sl (bh kind h hd)) false) :: Own p3 (scanC sl false 0 0 snil snil false) :: L) H1 := (h1.nilV (e := tU) (s := 1)).triv fun g => .inr (Vec.nil g)
  exact Sat.close (L1 := [_, _, _, _, _, _]) (h2.ent ee) fun g a => ⟨p1, p2, p3, 0, false, snil, snil, ⟨fun q => by simp [snap0, P13.fresh] at q, ⟨fun _ => rfl, fun q => by simp [let0, P13.fresh] at q⟩⟩, a⟩
theorem rbegin13_ok (hc : Con con lives) (sl : SlotsS) {kind : Int} {h et : Nat} {v : Value} {rows : List (List Value)} {hd : List Nat} {L : List HP} {H : CH} {K : KP} (hs : Sat L H) (hv : Has L (Vec v et 6 rows)) (hl : rows.length ≤ 1000000000) (hln : hd.length = rows.length)
    (hr : ∀ (i : Nat) row x, rows[i]? = some row → hd[i]? = some x → row[0]? = some (u64 x))
    (k : ∀ p H1, Sat (RAt13 p (P13.fresh sl kind (bh kind h hd)) :: L) H1 → K (ptr p 0) H1) : Call1 Tryz.prog con 23 [.agg ⟨[u64 sl.cam, u64 sl.first, i64 sl.count, u64 sl.most]⟩, .agg ⟨[i64 kind, u64 h]⟩, v] H K := by
  refine rBegin13_ok hc sl hs hv hl hln hr fun p H1 h1 => k p H1 ?_
  have h2 := ((h1.nilV (e := tU) (s := 1)).nilV (e := tU) (s := 1))
  have h5 : Sat ([Own p (d13 kind (snap0 sl) (let0 sl (bh kind h hd)) (scan0 sl) snil snil z13), Vec snil tU 1 [], Vec snil tU 1 []] ++ L) H1 := h2.ent ee
  refine h5.close fun g a => ⟨snil, snil, ?_⟩
  have e1 : (P13.fresh sl kind (bh kind h hd)).told = ⟨0, 0, 0, 0, []⟩ := by
    unfold P13.told
    cases (P13.fresh sl kind (bh kind h hd)).isS with
    | true => rfl
    | false => cases (P13.fresh sl kind (bh kind h hd)).isN <;> rfl
  have e2 : (P13.fresh sl kind (bh kind h hd)).fin = false := by
    unfold P13.fin
    cases (P13.fresh sl kind (bh kind h hd)).isS with
    | true => rfl
    | false => cases (P13.fresh sl kind (bh kind h hd)).isN <;> rfl
  rw [e1, e2]
  exact a
end Go.Proofs.YtipbbnoepphdkaaGreat

set_option linter.unusedVariables false
set_option linter.unusedSimpArgs false
namespace Go.Proofs.YtipbbnoepphdkaaGreat
open Go Go.CM
theorem Same.agg6 {h st er fl : Nat} {p : Option Addr} {l c : Nat} {b : Bool} {K : Prop} (k : K) : Same (.agg ⟨[u64 h, u64 st, iN er, u64 fl, .slice p l c, .bool b]⟩) (.agg ⟨[u64 h, u64 st, iN er, u64 fl, .slice p l c, .bool b]⟩) K := ⟨Must.mk (by simp [veq, veqL]) k⟩
instance {h st er fl : Nat} {p : Option Addr} {l c : Nat} {b : Bool} {K : Prop} : Stp (Same (.agg ⟨[u64 h, u64 st, iN er, u64 fl, .slice p l c, .bool b]⟩) (.agg ⟨[u64 h, u64 st, iN er, u64 fl, .slice p l c, .bool b]⟩) K) K := ⟨Same.agg6⟩
attribute [local irreducible] AsBool AsWant AsNat AsInt AsCnt AsPtr AsSlc AsLen AsStr AsAgg AsTup AsFn AsIfc Nth Sc NotNil IsNil Must Cd codeW funW Sat SatL wrapN subM mkRow ltZ leZ ltN leN
variable {con : CallT}
theorem p13_need {s : P13} (h : s.Tl) : s.told.need = s.sc.need := by
  cases h0 : s.isS with
  | true => rw [p13_toldS h0, h.no (p13_not h0)]
  | false =>
    cases h2 : s.isN with
    | true => rw [p13_toldN h0 h2]
    | false => rw [p13_toldL h0 h2, h.no h2]
theorem p13_need_le {s : P13} (h : s.Tl) : s.told.need.length ≤ 256 := by
  rw [p13_need h]
  cases h2 : s.isN with
  | true => exact (h.sc h2).1
  | false => rw [h.no h2]; exact Nat.zero_le _
theorem p13_hlt {s : P13} (h : s.Tl) : s.told.h < 18446744073709551616 := by
  cases h0 : s.isS with
  | true =>
    rw [p13_toldS h0]
    show s.sn.handle < _
    unfold SnapS.handle
    by_cases ho : s.sn.ok = true
    · rw [if_pos ho]
      obtain ⟨h1, h2⟩ := h.sn h0 ho
      omega
    · rw [if_neg ho]; omega
  | false =>
    cases h2 : s.isN with
    | true => rw [p13_toldN h0 h2]; show 0 < _; omega
    | false => rw [p13_toldL h0 h2]; show 0 < _; omega
structure C13 where
  kind : Int
  h : Nat
abbrev C13R (v : Value) (l : List C13) : HP := RowsR 2 (fun (c : C13) cs _ => cs = [i64 c.kind, u64 c.h]) v l
theorem el_told : elemOk Tryz.prog 65 76 6 64 = true := by kernel_rfl
theorem sl_told : ∃ e, Tryz.prog.underlying 65 = some (.slice e) := ⟨76, by kernel_rfl⟩
/-- The handles that rows tell. -/
def Hds (rows : List (List Value)) (hd : List Nat) : Prop := hd.length = rows.length ∧ (∀ (i : Nat) row x, rows[i]? = some row → hd[i]? = some x → row[0]? = some (u64 x)) ∧ ∀ x ∈ hd, x < 18446744073709551616
theorem Hds.nil : Hds [] [] := ⟨rfl, fun i row x h => by simp at h, fun x h => nomatch h⟩
theorem Hds.snoc {rows : List (List Value)} {hd : List Nat} (h : Hds rows hd) {x : Nat} {r : List Value} (hr : r[0]? = some (u64 x)) (hx : x < 18446744073709551616) : Hds (rows ++ [r]) (hd ++ [x]) := by
  obtain ⟨h1, h2, h3⟩ := h
  refine ⟨by simp [h1], fun i row y hi hy => ?_, fun y hy => ?_⟩
  · by_cases hl : i < rows.length
    · rw [List.getElem?_append_left hl] at hi
      rw [List.getElem?_append_left (by omega)] at hy
      exact h2 i row y hi hy
    · rw [List.getElem?_append_right (by omega)] at hi hy
      rw [h1] at hy
      cases e : i - rows.length with
      | zero => rw [e] at hi hy; cases hi; cases hy; exact hr
      | succ k => rw [e] at hi; simp at hi
  · rcases List.mem_append.1 hy with h | h
    · exact h3 y h
    · rw [List.mem_singleton.1 h]; exact hx
theorem bh_lt {kind : Int} {h : Nat} {hd : List Nat} (h1 : h < 18446744073709551616) (h2 : ∀ x ∈ hd, x < 18446744073709551616) : bh kind h hd < 18446744073709551616 := by
  unfold bh
  split
  · rw [List.getD_eq_getElem?_getD]
    cases e : hd[h]? with
    | none => simp
    | some x => exact h2 x (List.mem_of_getElem? e)
  · exact h1
theorem call_yes {f : FuncId} {args : List Value} {H : CH} {K : KP} {v : Value} (h : con f ⟨args⟩ H = some (v, H)) (k : K v H) : Call1 Tryz.prog con f args H K := ⟨⟨0, v, H, h, k⟩⟩
theorem fine0 (n : Nat) : Fine (mem0 n) := ⟨fun x hx => by
  have := List.eq_of_mem_replicate hx
  omega, fun a ha => nomatch ha⟩
end Go.Proofs.YtipbbnoepphdkaaGreat

set_option linter.unusedVariables false
set_option linter.unusedSimpArgs false
namespace Go.Proofs.YtipbbnoepphdkaaGreat
open Go Go.CM
attribute [local irreducible] AsBool AsWant AsNat AsInt AsCnt AsPtr AsSlc AsLen AsStr AsAgg AsTup AsFn AsIfc Nth Sc NotNil IsNil Must Cd codeW funW Sat SatL wrapN subM mkRow ltZ leZ ltN leN
variable {con : CallT}
/-! ### threads of calls, pick by pick -/
structure Th13 where
  told : List (T13 × Bool)
  now : Option P13
  at_ : Nat
structure Seen13 where
  t : T13 × Bool
  from_ : Nat
  to : Int
  th : Nat
  call : C13
structure R13 where
  M : Mem
  ths : List Th13
  all : List Seen13
def z13T : T13 := ⟨0, 0, 0, 0, []⟩
def Seen13.upd (x : Seen13) (t : T13 × Bool) (i : Nat) : Seen13 := { x with t := t, to := if t.2 then Int.ofNat i else x.to }
def seenUpd (all : List Seen13) (a : Nat) (t : T13 × Bool) (i : Nat) : List Seen13 :=
  match all[a]? with
  | some x => all.set a (x.upd t i)
  | none => all
noncomputable def R13.go (g : R13) (i k : Nat) (s : P13) (told : List (T13 × Bool)) (a : Nat) (all : List Seen13) : R13 :=
  { M := (s.step g.M (Int.ofNat k)).2,
    ths := g.ths.set k ⟨told.set (told.length - 1) ((s.step g.M (Int.ofNat k)).1.told, (s.step g.M (Int.ofNat k)).1.fin), if (s.step g.M (Int.ofNat k)).1.fin then none else some (s.step g.M (Int.ofNat k)).1, a⟩,
    all := seenUpd all a ((s.step g.M (Int.ofNat k)).1.told, (s.step g.M (Int.ofNat k)).1.fin) i }
noncomputable def R13.pick (sl : SlotsS) (calls : List (List C13)) (g : R13) (i : Nat) (t : Int) : R13 :=
  match t with
  | .negSucc _ => g
  | .ofNat k =>
    match calls[k]?, g.ths[k]? with
    | some cs, some th =>
      (match th.now with
      | some s => g.go i k s th.told th.at_ g.all
      | none =>
        match cs[th.told.length]? with
        | none => g
        | some c => g.go i k (P13.fresh sl c.kind (bh c.kind c.h (th.told.map fun x => x.1.h))) (th.told ++ [(z13T, false)]) g.all.length (g.all ++ [⟨(z13T, false), i, Int.negSucc 0, k, c⟩]))
    | _, _ => g
structure WF13 (calls : List (List C13)) (g : R13) : Prop where
  len : g.ths.length = calls.length
  th : ∀ (k : Nat) cs th, calls[k]? = some cs → g.ths[k]? = some th → th.told.length ≤ cs.length ∧ (∀ x ∈ th.told, x.1.h < 18446744073709551616) ∧ ∀ s, th.now = some s → s.Ok ∧ s.Tl ∧ th.told ≠ [] ∧ th.at_ < g.all.length
  fine : Fine g.M
theorem seenUpd_len (all : List Seen13) (a : Nat) (t : T13 × Bool) (i : Nat) : (seenUpd all a t i).length = all.length := by
  unfold seenUpd
  split <;> simp
theorem wf_go {calls : List (List C13)} {g : R13} (W : WF13 calls g) {i k a : Nat} {s : P13} {told : List (T13 × Bool)} {all : List Seen13} {cs : List C13} (hk : calls[k]? = some cs) (hok : s.Ok) (htl : s.Tl) (hne : told ≠ []) (hle : told.length ≤ cs.length)
    (hh : ∀ x ∈ told, x.1.h < 18446744073709551616) (ha : a < all.length) (hall : g.all.length ≤ all.length) : WF13 calls (g.go i k s told a all) := by
  obtain ⟨p1, p2, p3⟩ := p13_step s g.M (Int.ofNat k) hok htl
  have hkl : k < g.ths.length := by rw [W.len]; exact (List.getElem?_eq_some_iff.1 hk).1
  refine ⟨by simp only [R13.go, List.length_set]; exact W.len, fun j cs' th h1 h2 => ?_, (p13_nxt s g.M (Int.ofNat k)).fine W.fine⟩
  simp only [R13.go, seenUpd_len] at h2 ⊢
  by_cases hj : k = j
  · subst hj
    rw [List.getElem?_set_self hkl] at h2
    rw [hk] at h1
    cases h1
    cases h2
    refine ⟨by simpa using hle, fun x hx => ?_, fun s' hs' => ?_⟩
    · rcases List.mem_or_eq_of_mem_set hx with h | rfl
      · exact hh x h
      · exact p13_hlt p2
    · simp only at hs'
      by_cases hf : (s.step g.M (Int.ofNat k)).1.fin = true
      · rw [if_pos hf] at hs'; cases hs'
      · rw [if_neg hf] at hs'
        cases hs'
        refine ⟨p1 (by simpa using hf), p2, fun h => hne ?_, ha⟩
        have := congrArg List.length h
        simp at this
        exact this
  · rw [List.getElem?_set_ne hj] at h2
    obtain ⟨q1, q2, q3⟩ := W.th j cs' th h1 h2
    exact ⟨q1, q2, fun s' hs' => by obtain ⟨u1, u2, u3, u4⟩ := q3 s' hs'; exact ⟨u1, u2, u3, by omega⟩⟩
def Calls64 (calls : List (List C13)) : Prop := ∀ cs ∈ calls, ∀ c ∈ cs, c.h < 18446744073709551616
theorem wf_fresh {calls : List (List C13)} (hc : Calls64 calls) {g : R13} (W : WF13 calls g) {k : Nat} {cs : List C13} {th : Th13} {c : C13} (hk : calls[k]? = some cs) (ht : g.ths[k]? = some th) (ec : cs[th.told.length]? = some c) (sl : SlotsS) :
    (P13.fresh sl c.kind (bh c.kind c.h (th.told.map fun x => x.1.h))).Ok ∧ (P13.fresh sl c.kind (bh c.kind c.h (th.told.map fun x => x.1.h))).Tl ∧ ∀ x ∈ th.told ++ [(z13T, false)], x.1.h < 18446744073709551616 := by
  obtain ⟨q1, q2, q3⟩ := W.th k cs th hk ht
  obtain ⟨f1, f2, _, _⟩ := p13_fresh sl c.kind (bh_lt (kind := c.kind) (hd := th.told.map fun x => x.1.h) (hc cs (List.mem_of_getElem? hk) c (List.mem_of_getElem? ec)) fun x hx => by
    obtain ⟨y, hy, rfl⟩ := List.mem_map.1 hx
    exact q2 y hy)
  refine ⟨f1, f2, fun x hx => ?_⟩
  rcases List.mem_append.1 hx with h | h
  · exact q2 x h
  · rw [List.mem_singleton.1 h]; show 0 < _; omega
/-- What a pick does, case by case. -/
theorem pick_cases (sl : SlotsS) (calls : List (List C13)) (g : R13) (i : Nat) (t : Int) (Q : R13 → Prop) (h0 : Q g)
    (h1 : ∀ (k : Nat) cs th s, t = Int.ofNat k → calls[k]? = some cs → g.ths[k]? = some th → th.now = some s → Q (g.go i k s th.told th.at_ g.all))
    (h2 : ∀ (k : Nat) cs th c, t = Int.ofNat k → calls[k]? = some cs → g.ths[k]? = some th → th.now = none → cs[th.told.length]? = some c →
      Q (g.go i k (P13.fresh sl c.kind (bh c.kind c.h (th.told.map fun x => x.1.h))) (th.told ++ [(z13T, false)]) g.all.length (g.all ++ [⟨(z13T, false), i, Int.negSucc 0, k, c⟩]))) : Q (g.pick sl calls i t) := by
  cases t with
  | negSucc z => exact h0
  | ofNat k =>
    cases e1 : calls[k]? with
    | none => simp only [R13.pick, e1]; exact h0
    | some cs =>
      cases e2 : g.ths[k]? with
      | none => simp only [R13.pick, e1, e2]; exact h0
      | some th =>
        cases e3 : th.now with
        | some s => simp only [R13.pick, e1, e2, e3]; exact h1 k cs th s rfl e1 e2 e3
        | none =>
          cases e4 : cs[th.told.length]? with
          | none => simp only [R13.pick, e1, e2, e3, e4]; exact h0
          | some c => simp only [R13.pick, e1, e2, e3, e4]; exact h2 k cs th c rfl e1 e2 e3 e4
theorem wf_pick {calls : List (List C13)} (hc : Calls64 calls) (sl : SlotsS) {g : R13} (W : WF13 calls g) (i : Nat) (t : Int) : WF13 calls (g.pick sl calls i t) := by
  refine pick_cases sl calls g i t _ W (fun k cs th s _ hk ht hs => ?_) (fun k cs th c _ hk ht hs ec => ?_)
  · obtain ⟨q1, q2, q3⟩ := W.th k cs th hk ht
    obtain ⟨u1, u2, u3, u4⟩ := q3 s hs
    exact wf_go W hk u1 u2 u3 q1 q2 u4 (Nat.le_refl _)
  · obtain ⟨q1, q2, q3⟩ := W.th k cs th hk ht
    obtain ⟨f1, f2, f3⟩ := wf_fresh hc W hk ht ec sl
    have := (List.getElem?_eq_some_iff.1 ec).1
    exact wf_go W hk f1 f2 (by simp) (by simp; omega) f3 (by simp) (by simp)
theorem go_sz (g : R13) (i k a : Nat) (s : P13) (told : List (T13 × Bool)) (all : List Seen13) : (g.go i k s told a all).all.length = all.length ∧ (g.go i k s told a all).M.tr.length ≤ g.M.tr.length + 1 := by
  refine ⟨by simp only [R13.go, seenUpd_len], (p13_nxt s g.M (Int.ofNat k)).tr⟩
theorem pick_sz (calls : List (List C13)) (sl : SlotsS) (g : R13) (i : Nat) (t : Int) : (g.pick sl calls i t).all.length ≤ g.all.length + 1 ∧ (g.pick sl calls i t).M.tr.length ≤ g.M.tr.length + 1 := by
  refine pick_cases sl calls g i t (fun g' => g'.all.length ≤ g.all.length + 1 ∧ g'.M.tr.length ≤ g.M.tr.length + 1) ⟨Nat.le_succ _, Nat.le_succ _⟩ (fun k cs th s _ hk ht hs => ?_) (fun k cs th c _ hk ht hs ec => ?_)
  · obtain ⟨h1, h2⟩ := go_sz g i k th.at_ s th.told g.all
    exact ⟨by omega, h2⟩
  · obtain ⟨h1, h2⟩ := go_sz g i k g.all.length (P13.fresh sl c.kind (bh c.kind c.h (th.told.map fun x => x.1.h))) (th.told ++ [(z13T, false)]) (g.all ++ [⟨(z13T, false), i, Int.negSucc 0, k, c⟩])
    exact ⟨by rw [h1]; simp, h2⟩
/-- All picks up to one. -/
noncomputable def r13At (sl : SlotsS) (calls : List (List C13)) (picks : List Int) (g : R13) : Nat → R13
  | 0 => g
  | j + 1 => match picks[j]? with | some t => (r13At sl calls picks g j).pick sl calls j t | none => r13At sl calls picks g j
theorem r13At_succ {sl : SlotsS} {calls : List (List C13)} {picks : List Int} {g : R13} {j : Nat} {t : Int} (h : picks[j]? = some t) : r13At sl calls picks g (j + 1) = (r13At sl calls picks g j).pick sl calls j t := by
  show (match picks[j]? with | some t => (r13At sl calls picks g j).pick sl calls j t | none => r13At sl calls picks g j) = _
  rw [h]
theorem r13At_wf {sl : SlotsS} {calls : List (List C13)} (hc : Calls64 calls) {picks : List Int} {g : R13} (W : WF13 calls g) : ∀ j, WF13 calls (r13At sl calls picks g j)
  | 0 => W
  | j + 1 => by
    have ih := r13At_wf hc (sl := sl) (picks := picks) W j
    show WF13 calls (match picks[j]? with | some t => (r13At sl calls picks g j).pick sl calls j t | none => r13At sl calls picks g j)
    split
    · exact wf_pick hc sl ih _ _
    · exact ih
theorem r13At_sz {sl : SlotsS} {calls : List (List C13)} {picks : List Int} {g : R13} : ∀ j, (r13At sl calls picks g j).all.length ≤ g.all.length + j ∧ (r13At sl calls picks g j).M.tr.length ≤ g.M.tr.length + j
  | 0 => ⟨Nat.le_refl _, Nat.le_refl _⟩
  | j + 1 => by
    have ih := r13At_sz (sl := sl) (calls := calls) (picks := picks) (g := g) j
    show (match picks[j]? with | some t => (r13At sl calls picks g j).pick sl calls j t | none => r13At sl calls picks g j).all.length ≤ _ ∧ (match picks[j]? with | some t => (r13At sl calls picks g j).pick sl calls j t | none => r13At sl calls picks g j).M.tr.length ≤ _
    split
    · rename_i t _
      have := pick_sz calls sl (r13At sl calls picks g j) j t
      omega
    · omega
/-! ### where all this lies -/
abbrev Pool := List (Value × List Nat)
def poolL (pool : Pool) : List HP := pool.map fun x => Nums x.1 x.2
def tRow (x : T13 × Bool) (w : Value) : List Value := [u64 x.1.h, u64 x.1.st, iN x.1.er, u64 x.1.fl, w, .bool x.2]
def RowT (pool : Pool) (x : T13 × Bool) (row : List Value) : Prop := ∃ w, isCell w = true ∧ row = tRow x w ∧ (w, x.1.need) ∈ pool
def sRow (x : Seen13) (w : Value) : List Value := [u64 x.t.1.h, u64 x.t.1.st, iN x.t.1.er, u64 x.t.1.fl, w, .bool x.t.2, iN x.from_, i64 x.to, iN x.th, i64 x.call.kind, u64 x.call.h]
def RowS (pool : Pool) (x : Seen13) (row : List Value) : Prop := ∃ w, isCell w = true ∧ row = sRow x w ∧ (w, x.t.1.need) ∈ pool
/-- Rows that fit what they tell, one by one. -/
def Rows2 {α : Type} (Q : α → List Value → Prop) (l : List α) (rows : List (List Value)) : Prop := rows.length = l.length ∧ ∀ (i : Nat) x r, l[i]? = some x → rows[i]? = some r → Q x r
theorem Rows2.nil {α : Type} {Q : α → List Value → Prop} : Rows2 Q [] [] := ⟨rfl, fun i x r h => by simp at h⟩
theorem Rows2.snoc {α : Type} {Q : α → List Value → Prop} {l : List α} {rows : List (List Value)} (h : Rows2 Q l rows) {x : α} {r : List Value} (q : Q x r) : Rows2 Q (l ++ [x]) (rows ++ [r]) := by
  obtain ⟨h1, h2⟩ := h
  refine ⟨by simp [h1], fun i y s hy hr => ?_⟩
  by_cases hl : i < l.length
  · rw [List.getElem?_append_left hl] at hy
    rw [List.getElem?_append_left (by omega)] at hr
    exact h2 i y s hy hr
  · rw [List.getElem?_append_right (by omega)] at hy hr
    rw [h1] at hr
    cases e : i - l.length with
    | zero => rw [e] at hy hr; cases hy; cases hr; exact q
    | succ k => rw [e] at hy; simp at hy
theorem Rows2.set {α : Type} {Q : α → List Value → Prop} {l : List α} {rows : List (List Value)} (h : Rows2 Q l rows) (i : Nat) {x : α} {r : List Value} (q : Q x r) : Rows2 Q (l.set i x) (rows.set i r) := by
  obtain ⟨h1, h2⟩ := h
  refine ⟨by simp [h1], fun j y s hy hr => ?_⟩
  rw [List.getElem?_set] at hy hr
  by_cases e : i = j
  · subst e
    simp only [if_true] at hy hr
    by_cases hl : i < l.length
    · rw [if_pos hl] at hy
      rw [if_pos (by omega)] at hr
      cases hy; cases hr; exact q
    · rw [if_neg hl] at hy; cases hy
  · rw [if_neg e] at hy hr
    exact h2 j y s hy hr
theorem Rows2.mono {α : Type} {Q Q' : α → List Value → Prop} {l : List α} {rows : List (List Value)} (h : Rows2 Q l rows) (f : ∀ x r, Q x r → Q' x r) : Rows2 Q' l rows := ⟨h.1, fun i x r h1 h2 => f x r (h.2 i x r h1 h2)⟩
theorem Rows2.at {α : Type} {Q : α → List Value → Prop} {l : List α} {rows : List (List Value)} (h : Rows2 Q l rows) {i : Nat} {x : α} (hx : l[i]? = some x) : ∃ r, rows[i]? = some r ∧ Q x r := by
  have hi := (List.getElem?_eq_some_iff.1 hx).1
  exact ⟨_, List.getElem?_eq_getElem (by have := h.1; omega), h.2 i x _ hx (List.getElem?_eq_getElem (by have := h.1; omega))⟩
theorem RowT.mono {pool pool' : Pool} (h : ∀ x ∈ pool, x ∈ pool') (x : T13 × Bool) (r : List Value) (a : RowT pool x r) : RowT pool' x r := by
  obtain ⟨w, h1, h2, h3⟩ := a
  exact ⟨w, h1, h2, h _ h3⟩
theorem RowS.mono {pool pool' : Pool} (h : ∀ x ∈ pool, x ∈ pool') (x : Seen13) (r : List Value) (a : RowS pool x r) : RowS pool' x r := by
  obtain ⟨w, h1, h2, h3⟩ := a
  exact ⟨w, h1, h2, h _ h3⟩
structure Ph13 where
  vo : Value
  vn : Value
  q : Nat
  nq : Nat
  k : Nat
abbrev nilP : Value := .pointer none
def NowP (vn : Value) (now : Option P13) : HP := fun h => match now with | none => vn = nilP | some s => ∃ p, vn = ptr p 0 ∧ PrAt13 p s h
def ThP (m : Nat) (pool : Pool) (ph : Ph13) (th : Th13) : HP := fun h => ∃ rows, Rows2 (RowT pool) th.told rows ∧ SatL [Vec ph.vo 76 6 rows, NowP ph.vn th.now, ViewAt ph.q m (Int.ofNat ph.k) ph.nq] h
theorem ThP.mono {m : Nat} {pool pool' : Pool} (hp : ∀ x ∈ pool, x ∈ pool') {ph : Ph13} {th : Th13} (g : PH) (a : ThP m pool ph th g) : ThP m pool' ph th g := by
  obtain ⟨rows, h1, h2⟩ := a
  exact ⟨rows, h1.mono fun x r => RowT.mono hp x r, h2⟩
def ThrP (l : List C13) (cs : List Value) : HP := fun h => ∃ xv, cs = [xv] ∧ C13R xv l h
abbrev Thr13 (v : Value) (l : List (List C13)) : HP := RowsR 1 ThrP v l
theorem has_thr {v : Value} {l : List (List C13)} {L : List HP} : Has (Thr13 v l :: L) (Thr13 v l) := Has.here fun a t => RowsR.mono (fun ⟨x, e, a⟩ t => ⟨x, e, RowsR.mono (fun a _ => a) a t⟩) a t
theorem has_ints {v : Value} {l : List Int} {L : List HP} : Has (IntsR v l :: L) (IntsR v l) := Has.here fun a t => IntsR.mono a t
end Go.Proofs.YtipbbnoepphdkaaGreat

set_option linter.unusedVariables false
set_option linter.unusedSimpArgs false
namespace Go.Proofs.YtipbbnoepphdkaaGreat
open Go Go.CM
attribute [local irreducible] AsBool AsWant AsNat AsInt AsCnt AsPtr AsSlc AsLen AsStr AsAgg AsTup AsFn AsIfc Nth Sc NotNil IsNil Must Cd codeW funW Sat SatL wrapN subM mkRow ltZ leZ ltN leN
variable {con : CallT}
theorem el_seen : elemOk Tryz.prog 100 210 11 104 = true := by kernel_rfl
theorem sl_seen : ∃ e, Tryz.prog.underlying 100 = some (.slice e) := ⟨210, by kernel_rfl⟩
theorem ths_put {m k : Nat} {pool pool' : Pool} (hp : ∀ x ∈ pool, x ∈ pool') {phs : List Ph13} {ths : List Th13} {ph : Ph13} {th : Th13} {L : List HP} {H : CH} (h1 : k < phs.length) (h2 : k < ths.length)
    (hs : Sat (ThP m pool' ph th :: SatL ((List.zipWith (ThP m pool) phs ths).set k Emp) :: L) H) : Sat (SatL (List.zipWith (ThP m pool') (phs.set k ph) (ths.set k th)) :: L) H := by
  have h3 := Sat.putAll (i := k) (by simp; omega) hs
  refine h3.impAll (by simp) fun i A B e1 e2 g a => ?_
  rw [List.getElem?_set] at e1
  rw [List.getElem?_zipWith, List.getElem?_set, List.getElem?_set] at e2
  by_cases hi : k = i
  · subst hi
    rw [if_pos rfl, if_pos (by simp; omega)] at e1
    rw [if_pos rfl, if_pos rfl, if_pos h1, if_pos h2] at e2
    cases e1
    cases e2
    exact a
  · rw [if_neg hi, List.getElem?_zipWith] at e1
    rw [if_neg hi, if_neg hi] at e2
    cases e3 : phs[i]? with
    | none => rw [e3] at e1; cases e1
    | some ph' =>
      cases e4 : ths[i]? with
      | none => rw [e3, e4] at e1; cases e1
      | some th' =>
        rw [e3, e4] at e1 e2
        cases e1
        cases e2
        exact ThP.mono hp g a
theorem run13_put {m k bo bn ba eo en ea p1 p3 a n2 : Nat} {M2 : Mem} {vo vn' w vv va xv xw : Value} {nd : List Nat} {sl : SlotsS} {n0 : Int} {most : Nat} {calls : List (List C13)} {picks : List Int} {pool : Pool} {phs : List Ph13} {ths : List Th13} {ph : Ph13} {rowsA rows' : List (List Value)} {told' : List (T13 × Bool)} {now' : Option P13} {R : List HP} {H : CH}
    (h1 : k < phs.length) (h2 : k < ths.length) (hph : phs[k]? = some ph) (hrw : Rows2 (RowT ((w, nd) :: pool)) told' rows')
    (hs : Sat (Vec vo 76 6 rows' :: NowP vn' now' :: ViewAt ph.q m (Int.ofNat k) n2 :: Nums w nd :: SatL ((List.zipWith (ThP m pool) phs ths).set k Emp) :: MemP m M2 :: Row bo eo 0 true ((phs.map Ph13.vo).set k vo) :: Row bn en 0 true ((phs.map Ph13.vn).set k vn') :: Row ba ea 0 true ((ths.map fun t => iN t.at_).set k (iN a)) :: Vec vv 33 1 (phs.map fun p => [ptr p.q 0]) :: Vec va 210 11 rowsA :: SatL (poolL pool) :: Own p1 [u64 sl.cam, u64 sl.first, i64 sl.count, u64 sl.most] :: Own p3 [i64 n0, u64 most, xv, xw] :: Thr13 xv calls :: IntsR xw picks :: R) H) :
    Sat (MemP m M2 :: Row bo eo 0 true ((phs.set k ⟨vo, vn', ph.q, n2, k⟩).map Ph13.vo) :: Row bn en 0 true ((phs.set k ⟨vo, vn', ph.q, n2, k⟩).map Ph13.vn) :: Row ba ea 0 true ((ths.set k ⟨told', now', a⟩).map fun t => iN t.at_) :: Vec vv 33 1 ((phs.set k ⟨vo, vn', ph.q, n2, k⟩).map fun p => [ptr p.q 0]) :: SatL (List.zipWith (ThP m ((w, nd) :: pool)) (phs.set k ⟨vo, vn', ph.q, n2, k⟩) (ths.set k ⟨told', now', a⟩)) :: Vec va 210 11 rowsA :: SatL (poolL ((w, nd) :: pool)) :: Own p1 [u64 sl.cam, u64 sl.first, i64 sl.count, u64 sl.most] :: Own p3 [i64 n0, u64 most, xv, xw] :: Thr13 xv calls :: IntsR xw picks :: R) H := by
  have hvw : (phs.map fun p => [ptr p.q 0])[k]? = some [ptr ph.q 0] := by rw [List.getElem?_map, hph]; rfl
  have e4 : (phs.set k ⟨vo, vn', ph.q, n2, k⟩).map (fun p => [ptr p.q 0]) = phs.map fun p => [ptr p.q 0] := by rw [List.map_set]; exact set_self hvw
  rw [e4, List.map_set, List.map_set, List.map_set]
  have h3 : Sat ([Vec vo 76 6 rows', NowP vn' now', ViewAt ph.q m (Int.ofNat k) n2] ++ (SatL ((List.zipWith (ThP m pool) phs ths).set k Emp) :: Nums w nd :: MemP m M2 :: Row bo eo 0 true ((phs.map Ph13.vo).set k vo) :: Row bn en 0 true ((phs.map Ph13.vn).set k vn') :: Row ba ea 0 true ((ths.map fun t => iN t.at_).set k (iN a)) :: Vec vv 33 1 (phs.map fun p => [ptr p.q 0]) :: Vec va 210 11 rowsA :: SatL (poolL pool) :: Own p1 [u64 sl.cam, u64 sl.first, i64 sl.count, u64 sl.most] :: Own p3 [i64 n0, u64 most, xv, xw] :: Thr13 xv calls :: IntsR xw picks :: R)) H := hs.ent ee
  have h4 := h3.close (A := ThP m ((w, nd) :: pool) ⟨vo, vn', ph.q, n2, k⟩ ⟨told', now', a⟩) fun g b => ⟨rows', hrw, b⟩
  have h5 := ths_put (fun x hx => List.mem_cons_of_mem _ hx) h1 h2 h4
  have h6 : Sat ([Nums w nd, SatL (poolL pool)] ++ (SatL (List.zipWith (ThP m ((w, nd) :: pool)) (phs.set k ⟨vo, vn', ph.q, n2, k⟩) (ths.set k ⟨told', now', a⟩)) :: MemP m M2 :: Row bo eo 0 true ((phs.map Ph13.vo).set k vo) :: Row bn en 0 true ((phs.map Ph13.vn).set k vn') :: Row ba ea 0 true ((ths.map fun t => iN t.at_).set k (iN a)) :: Vec vv 33 1 (phs.map fun p => [ptr p.q 0]) :: Vec va 210 11 rowsA :: Own p1 [u64 sl.cam, u64 sl.first, i64 sl.count, u64 sl.most] :: Own p3 [i64 n0, u64 most, xv, xw] :: Thr13 xv calls :: IntsR xw picks :: R)) H := h5.ent ee
  have h7 := h6.close (A := SatL (poolL ((w, nd) :: pool))) fun g b => satL_cons b
  exact h7.ent ee
set_option maxRecDepth 100000 in
theorem run13_pick (hc : Con con lives) {sl : SlotsS} {calls : List (List C13)} (hc64 : Calls64 calls) {g : R13} (W : WF13 calls g) {R : List HP} {H : CH} {m bo bn ba eo en ea p1 p3 j n : Nat} {vv va xv xw : Value} {n0 : Int} {most : Nat} {t : Int} {picks : List Int} {phs : List Ph13} {pool : Pool} {rowsA : List (List Value)} {σ : TF} {Q : KX}
    (hn : n = calls.length) (hl1 : calls.length ≤ 1048576) (hl2 : ∀ cs ∈ calls, cs.length ≤ 1048576) (hpl : phs.length = n) (hpk : ∀ (i : Nat) ph, phs[i]? = some ph → ph.k = i ∧ ph.nq ≤ j) (hj : j < picks.length) (hpc : picks.length ≤ 1048576) (et : picks[j]? = some t) (htr' : g.M.tr.length ≤ 10 + j) (hal : g.all.length ≤ j)
    (hp0 : (snil, []) ∈ pool) (hra : Rows2 (RowS pool) g.all rowsA)
    (hs : Sat (MemP m g.M :: Row bo eo 0 true (phs.map Ph13.vo) :: Row bn en 0 true (phs.map Ph13.vn) :: Row ba ea 0 true (g.ths.map fun t => iN t.at_) :: Vec vv 33 1 (phs.map fun p => [ptr p.q 0]) :: SatL (List.zipWith (ThP m pool) phs g.ths) :: Vec va 210 11 rowsA :: SatL (poolL pool) :: Own p1 [u64 sl.cam, u64 sl.first, i64 sl.count, u64 sl.most] :: Own p3 [i64 n0, u64 most, xv, xw] :: Thr13 xv calls :: IntsR xw picks :: R) H)
    (a4 : σ 4 = ptr p1 0) (a5 : σ 5 = ptr p3 0) (a8 : σ 8 = slc bo 0 n n) (a9 : σ 9 = slc bn 0 n n) (a10 : σ 10 = slc ba 0 n n) (a11 : σ 11 = vv) (a13 : σ 13 = va) (a14 : σ 14 = iN j)
    (kk : ∀ σ1 H1 phs' pool' va' rowsA', σ1 4 = ptr p1 0 → σ1 5 = ptr p3 0 → σ1 8 = slc bo 0 n n → σ1 9 = slc bn 0 n n → σ1 10 = slc ba 0 n n → σ1 11 = vv → σ1 13 = va' → σ1 14 = iN (j + 1) → phs'.length = n → (∀ (i : Nat) ph, phs'[i]? = some ph → ph.k = i ∧ ph.nq ≤ j + 1) → (snil, []) ∈ pool' → Rows2 (RowS pool') (g.pick sl calls j t).all rowsA' →
      ∀
      (h1 : Sat (MemP m (g.pick sl calls j t).M :: Row bo eo 0 true (phs'.map Ph13.vo) :: Row bn en 0 true (phs'.map Ph13.vn) :: Row ba ea 0 true ((g.pick sl calls j t).ths.map fun t => iN t.at_) :: Vec vv 33 1 (phs'.map fun p => [ptr p.q 0]) :: SatL (List.zipWith (ThP m pool') phs' (g.pick sl calls j t).ths) :: Vec va' 210 11 rowsA' :: SatL (poolL pool') :: Own p1 [u64 sl.cam, u64 sl.first, i64 sl.count, u64 sl.most] :: Own p3 [i64 n0, u64 most, xv, xw] :: Thr13 xv calls :: IntsR xw picks :: R) H1)
      , Q .normal σ1 H1) :
    codeW (lpAt Tryz.prog 35 1) Tryz.prog con σ H Q := by
  rw [l13runB_W]
  rw [a4, a5, a8, a9, a10, a13, a14]
  obtain ⟨bw, cw, csw, rfl, _, ecw, hldw⟩ := rows_at hs (Has.skip (Has.skip (Has.skip (Has.skip (Has.skip (Has.skip (Has.skip (Has.skip (Has.skip (Has.skip (Has.skip has_ints))))))))))) et
  obtain ⟨pxv, cxv, exv⟩ := (hs.has (Has.skip (Has.skip (Has.skip (Has.skip (Has.skip (Has.skip (Has.skip (Has.skip (Has.skip (Has.skip has_thr))))))))))).len
  have htr : g.M.tr.length < 1000000000 := by omega
  have hkk : ∀ (i : Nat) ph, phs[i]? = some ph → ph.k = i ∧ ph.nq ≤ j + 1 := fun i ph h => ⟨(hpk i ph h).1, by have := (hpk i ph h).2; omega⟩
  have idle : ∀ (σ1 : TF), g.pick sl calls j t = g → σ1 4 = ptr p1 0 → σ1 5 = ptr p3 0 → σ1 8 = slc bo 0 n n → σ1 9 = slc bn 0 n n → σ1 10 = slc ba 0 n n → σ1 11 = vv → σ1 13 = va → σ1 14 = iN (j + 1) → Q .normal σ1 H := fun σ1 hp b4 b5 b8 b9 b10 b11 b13 b14 => by
    rw [hp] at kk
    exact kk σ1 H phs pool va rowsA b4 b5 b8 b9 b10 b11 b13 b14 hpl hkk hp0 hra hs
  repeat (refine gO ?_; intros)
  refine Cd.t (ltZ_t hj) ?_
  repeat (refine gO ?_; intros)
  refine Must.mk (ltN_t hj) ?_
  refine hldw _ 0 _ _ (by show 0 + j * 1 = _; omega) (by rw [ecw]; rfl) ?_
  repeat (refine gO ?_; intros)
  cases t with
  | negSucc z =>
    refine Cd.t ltZ_neg ?_
    repeat (refine gO ?_; intros)
    try rw [addInt]
    refine inR_nat (by omega) ?_
    repeat (refine gO ?_; intros)
    exact idle _ rfl a4 a5 a8 a9 a10 a11 a13 rfl
  | ofNat k =>
    refine Cd.f (ltZ_f (Nat.zero_le _)) ?_
    repeat (refine gO ?_; intros)
    refine AsLen.eq exv ?_
    repeat (refine gO ?_; intros)
    by_cases hk : k < calls.length
    · refine Cd.f (leZ_f hk) ?_
      obtain ⟨cs, ecs⟩ : ∃ x, calls[k]? = some x := ⟨_, List.getElem?_eq_getElem hk⟩
      obtain ⟨th, eth⟩ : ∃ x, g.ths[k]? = some x := ⟨_, List.getElem?_eq_getElem (by have := W.len; omega)⟩
      obtain ⟨ph, hph⟩ : ∃ x, phs[k]? = some x := ⟨_, List.getElem?_eq_getElem (by omega)⟩
      obtain ⟨ek, hnq'⟩ := hpk k ph hph
      have hnq : ph.nq < 1000000000 := by omega
      obtain ⟨q1, q2, q3⟩ := W.th k cs th ecs eth
      have hcs := hl2 cs (List.mem_of_getElem? ecs)
      have hthl := W.len
      have hkn : k < n := by omega
      have hgt : (List.zipWith (ThP m pool) phs g.ths)[k]? = some (ThP m pool ph th) := zip_get' _ hph eth
      have hvo0 : (phs.map Ph13.vo)[k]? = some ph.vo := by rw [List.getElem?_map, hph]; rfl
      have hvn0 : (phs.map Ph13.vn)[k]? = some ph.vn := by rw [List.getElem?_map, hph]; rfl
      have hs1 : Sat (SatL (List.zipWith (ThP m pool) phs g.ths) :: _) H := hs.pull pp
      have hs2 := hs1.pull (pull_all Pull.here hgt)
      obtain ⟨u1, u2, v1, v2, dd, ⟨rows, hrw, hin⟩, hRR⟩ := hs2.opens Pull.here
      have hs3 := Sat.merge v1 v2 dd hin hRR
      simp only [List.cons_append, List.nil_append] at hs3
      rw [ek] at hs3
      clear hs1 hs2
      obtain ⟨pvo, evo⟩ := (hs3.has Has.vec).shape
      rw [hrw.1] at evo
      repeat (refine gO ?_; intros)
      refine Must.mk (ltN_t hkn) (ldRow hs3 (off1 k) hvo0 ?_)
      refine AsLen.eq evo ?_
      repeat (refine gO ?_; intros)
      refine Must.mk (ltN_t hkn) (ldRow hs3 (off1 k) hvn0 ?_)
      cases hnow : th.now with
      | some s =>
        rw [hnow] at hs3
        obtain ⟨s1, s2', s3, s4⟩ := q3 s hnow
        have hs4 : Sat (NowP ph.vn (some s) :: _) H := hs3.pull pp
        obtain ⟨u1, u2, v1, v2, dd, ⟨p, evn, hin⟩, hRR⟩ := hs4.opens Pull.here
        have hs5 := Sat.merge (L1 := [PrAt13 p s]) v1 v2 dd (SatL.one hin) hRR
        simp only [List.cons_append, List.nil_append] at hs5
        rw [evn]
        repeat (refine gO ?_; intros)
        have hpos : 0 < th.told.length := List.length_pos_iff.2 s3
        have hsA : Sat (Vec ph.vo 76 6 rows :: PrAt13 p s :: ViewAt ph.q m (Int.ofNat k) ph.nq :: SatL ((List.zipWith (ThP m pool) phs g.ths).set k Emp) :: MemP m g.M :: Row bo eo 0 true ((phs.map Ph13.vo).set k ph.vo) :: Row bn en 0 true ((phs.map Ph13.vn).set k (ptr p 0)) :: Row ba ea 0 true ((g.ths.map fun t => iN t.at_).set k (iN th.at_)) :: Vec vv 33 1 (phs.map fun p => [ptr p.q 0]) :: Vec va 210 11 rowsA :: SatL (poolL pool) :: Own p1 [u64 sl.cam, u64 sl.first, i64 sl.count, u64 sl.most] :: Own p3 [i64 n0, u64 most, xv, slc bw 0 picks.length cw] :: Thr13 xv calls :: IntsR (slc bw 0 picks.length cw) picks :: R) H := by
          rw [set_self hvo0, set_self (show (phs.map Ph13.vn)[k]? = some (ptr p 0) by rw [hvn0, evn]), set_self (show (g.ths.map fun t => iN t.at_)[k]? = some (iN th.at_) by rw [List.getElem?_map, eth]; rfl)]
          exact hs5.ent ee
        clear hs3 hs4 hs5
        have hp : g.pick sl calls j (Int.ofNat k) = g.go j k s th.told th.at_ g.all := by simp only [R13.pick, ecs, eth, hnow]
        rw [hp] at kk
        simp only [R13.go] at kk
        obtain ⟨vo, evo'⟩ : ∃ vo, vo = ph.vo := ⟨_, rfl⟩
        rw [← evo'] at hsA
        have hvo : ((phs.map Ph13.vo).set k vo)[k]? = some vo := List.getElem?_set_self (by simp; omega)
        have hvn : ((phs.map Ph13.vn).set k (ptr p 0))[k]? = some (ptr p 0) := List.getElem?_set_self (by simp; omega)
        have hat : ((g.ths.map fun t => iN t.at_).set k (iN th.at_))[k]? = some (iN th.at_) := List.getElem?_set_self (by simp; omega)
        refine Must.mk (ltN_t hkn) (ldRow hsA (off1 k) hvn ?_)
        have hvw : (phs.map fun p => [ptr p.q 0])[k]? = some [ptr ph.q 0] := by rw [List.getElem?_map, hph]; rfl
        obtain ⟨bv, evv, _⟩ := (Sat.has hsA (Has.skip (Has.skip (Has.skip (Has.skip (Has.skip (Has.skip (Has.skip (Has.skip Has.vec))))))))).slot hvw
        refine AsSlc.eq (a11.trans evv) ?_
        repeat (refine gO ?_; intros)
        refine Must.mk (ltN_t (by simp; omega)) ?_
        refine ldVec hsA (Has.skip (Has.skip (Has.skip (Has.skip (Has.skip (Has.skip (Has.skip (Has.skip Has.vec)))))))) evv hvw (j := 0) (by show 0 + k * 1 = _; omega) (by omega) rfl ?_
        have hx := p13_step s g.M (Int.ofNat k) s1 s2'
        refine p13step_ok hc s hsA pp pp pp hnq htr W.fine.bd s1 fun n2 H2 hn2 h2 => ?_
        generalize (s.step g.M (Int.ofNat k)).1 = s2 at *
        generalize (s.step g.M (Int.ofNat k)).2 = M2 at *
        obtain ⟨x1, x2, x3⟩ := hx
        repeat (refine gO ?_; intros)
        refine Must.mk (ltN_t hkn) (ldRow h2 (off1 k) hvo ?_)
        repeat (refine gO ?_; intros)
        rw [(subInt (a := th.told.length) (b := 1) (by omega))]
        refine inR_nat (by omega) ?_
        repeat (refine gO ?_; intros)
        refine Must.mk (ltN_t hkn) (ldRow h2 (off1 k) hvn ?_)
        refine p13told_ok hc s2 h2 pp x2 fun w H3 h3 => ?_
        obtain ⟨pw, cw', ew⟩ := (h3.has Has.nums).len
        subst ew
        obtain ⟨r0, hr0, w0, _, er0, _⟩ := (hrw).at (i := th.told.length - 1) (List.getElem?_eq_getElem (by omega))
        obtain ⟨b2, evo, _⟩ := (h3.has (Has.skip (Has.skip (Has.skip (Has.skip Has.vec))))).slot hr0
        have hle14 : (rows).length = th.told.length := hrw.1
        rw [hle14] at evo
        subst evo
        repeat (refine gO ?_; intros)
        refine Must.mk (ltN_t (by omega)) ?_
        repeat (refine gO ?_; intros)
        refine stVecN h3 pp hr0 (j := 0) (by show 0 + (th.told.length - 1) * 6 = _; omega) (by show 0 + 6 ≤ 6; omega) rfl fun H4 h4 => ?_
        rw [show ovw [u64 s2.told.h, u64 s2.told.st, iN s2.told.er, u64 s2.told.fl, Value.slice pw s2.told.need.length cw', Value.bool s2.fin] r0 0 = tRow (s2.told, s2.fin) (.slice pw s2.told.need.length cw') from by rw [er0]; rfl] at h4
        have hrw' := ((hrw).mono (RowT.mono (pool' := (.slice pw s2.told.need.length cw', s2.told.need) :: pool) fun x hx => List.mem_cons_of_mem _ hx)).set (th.told.length - 1) (x := (s2.told, s2.fin)) (r := tRow (s2.told, s2.fin) (.slice pw s2.told.need.length cw')) ⟨_, rfl, rfl, List.mem_cons_self ..⟩
        have hr1 : (rows.set (th.told.length - 1) (tRow (s2.told, s2.fin) (.slice pw s2.told.need.length cw')))[th.told.length - 1]? = some (tRow (s2.told, s2.fin) (.slice pw s2.told.need.length cw')) := List.getElem?_set_self (List.getElem?_eq_some_iff.1 hr0).1
        refine ldRow h2 (off1 k) hvo ?_
        repeat (refine gO ?_; intros)
        refine ldRow h3 (off1 k) hvo ?_
        repeat (refine gO ?_; intros)
        refine Must.mk (ltN_t hkn) (ldRow h4 (off1 k) hat ?_)
        repeat (refine gO ?_; intros)
        refine Must.mk (ltN_t hkn) (ldRow h4 (off1 k) hvo ?_)
        repeat (refine gO ?_; intros)
        refine inR_nat (by omega) ?_
        repeat (refine gO ?_; intros)
        refine Must.mk (ltN_t (by omega)) ?_
        refine ldVec h4 Has.vec rfl hr1 (j := 0) (by show 0 + (th.told.length - 1) * 6 + 0 = _; omega) (by omega) rfl ?_
        refine ldVec h4 Has.vec rfl hr1 (j := 1) (by show 0 + (th.told.length - 1) * 6 + 1 = _; omega) (by omega) rfl ?_
        refine ldVec h4 Has.vec rfl hr1 (j := 2) (by show 0 + (th.told.length - 1) * 6 + 2 = _; omega) (by omega) rfl ?_
        refine ldVec h4 Has.vec rfl hr1 (j := 3) (by show 0 + (th.told.length - 1) * 6 + 3 = _; omega) (by omega) rfl ?_
        refine ldVec h4 Has.vec rfl hr1 (j := 4) (by show 0 + (th.told.length - 1) * 6 + 4 = _; omega) (by omega) rfl ?_
        refine ldVec h4 Has.vec rfl hr1 (j := 5) (by show 0 + (th.told.length - 1) * 6 + 5 = _; omega) (by omega) rfl ?_
        obtain ⟨xs, exs⟩ : ∃ x, (g.all)[th.at_]? = some x := ⟨_, List.getElem?_eq_getElem s4⟩
        obtain ⟨rs, hrs, ws, _, ers, _⟩ := (hra).at exs
        have hva4 : Sat (Vec va 210 11 rowsA :: _) H4 := h4.pull pp
        obtain ⟨bva, eva, _⟩ := (hva4.has Has.vec).slot hrs
        have hln := (hra).1
        rw [hln] at eva
        refine AsSlc.eq eva ?_
        subst eva
        repeat (refine gO ?_; intros)
        refine Must.mk (ltN_t s4) ?_
        repeat (refine gO ?_; intros)
        refine stVecN h4 pp hrs (j := 0) (by show 0 + th.at_ * 11 + 0 = _; omega) (by show 0 + 6 ≤ 11; omega) rfl fun H5 h5 => ?_
        rw [show ovw [u64 s2.told.h, u64 s2.told.st, iN s2.told.er, u64 s2.told.fl, Value.slice pw s2.told.need.length cw', Value.bool s2.fin] rs 0 = sRow { xs with t := (s2.told, s2.fin) } (.slice pw s2.told.need.length cw') from by rw [ers]; rfl] at h5
        have hra' := (hra).mono (RowS.mono (pool' := (.slice pw s2.told.need.length cw', s2.told.need) :: pool) fun x hx => List.mem_cons_of_mem _ hx)
        have hra2 : (rowsA.set th.at_ (sRow { xs with t := (s2.told, s2.fin) } (.slice pw s2.told.need.length cw')))[th.at_]? = some (sRow { xs with t := (s2.told, s2.fin) } (.slice pw s2.told.need.length cw')) := List.getElem?_set_self (List.getElem?_eq_some_iff.1 hrs).1
        have esu : seenUpd g.all th.at_ (s2.told, s2.fin) j = (g.all).set th.at_ (xs.upd (s2.told, s2.fin) j) := by unfold seenUpd; rw [exs]
        rw [esu] at kk
        clear esu x1
        generalize s2.fin = bf at *
        have idx : ∀ (vo' vn' : Value) (i : Nat) (ph' : Ph13), (phs.set k ⟨vo', vn', ph.q, n2, k⟩)[i]? = some ph' → ph'.k = i ∧ ph'.nq ≤ j + 1 := fun vo' vn' i ph' h => by
          rw [List.getElem?_set] at h
          by_cases hi : k = i
          · subst hi
            rw [if_pos rfl, if_pos (by omega)] at h
            cases h
            exact ⟨rfl, by show n2 ≤ _; omega⟩
          · rw [if_neg hi] at h
            exact hkk i ph' h
        repeat (refine gO ?_; intros)
        cases bf with
        | true =>
          simp only [if_true] at kk
          refine Cd.t rfl ?_
          repeat (refine gO ?_; intros)
          refine Must.mk (ltN_t hkn) (ldRow h5 (off1 k) hat ?_)
          repeat (refine gO ?_; intros)
          refine Must.mk (ltN_t s4) ?_
          repeat (refine gO ?_; intros)
          refine stVecN h5 pp hra2 (j := 7) (by show 0 + th.at_ * 11 + 7 = _; omega) (by show 7 + 1 ≤ 11; omega) rfl fun H6 h6 => ?_
          rw [List.set_set, show ovw [iN j] (sRow { xs with t := (s2.told, true) } (.slice pw s2.told.need.length cw')) 7 = sRow (xs.upd (s2.told, true) j) (.slice pw s2.told.need.length cw') from rfl] at h6
          repeat (refine gO ?_; intros)
          refine Must.mk (ltN_t hkn) (st h6 (by rw [off1]; simp; omega) rfl fun H7 h7 => ?_)
          rw [off1, List.set_set] at h7
          repeat (refine gO ?_; intros)
          try rw [addInt]
          refine inR_nat (by omega) ?_
          repeat (refine gO ?_; intros)
          refine kk _ H7 (phs.set k ⟨slc b2 0 th.told.length th.told.length, nilP, ph.q, n2, k⟩) ((.slice pw s2.told.need.length cw', s2.told.need) :: pool) (slc bva 0 (g.all).length (g.all).length) _ a4 a5 a8 a9 a10 a11 (by first | exact a13 | rfl) rfl (by simp [hpl]) (idx _ nilP) (List.mem_cons_of_mem _ hp0) (hra'.set th.at_ ⟨_, rfl, rfl, List.mem_cons_self ..⟩) ?_
          have h8 : Sat (NowP nilP none :: _) H7 := h7.triv fun _ => rfl
          exact run13_put (by omega) (by omega) hph hrw' (h8.ent ee)
        | false =>
          simp only [Bool.false_eq_true, if_false] at kk
          refine Cd.f rfl ?_
          repeat (refine gO ?_; intros)
          try rw [addInt]
          refine inR_nat (by omega) ?_
          repeat (refine gO ?_; intros)
          refine kk _ H5 (phs.set k ⟨slc b2 0 th.told.length th.told.length, ptr p 0, ph.q, n2, k⟩) ((.slice pw s2.told.need.length cw', s2.told.need) :: pool) (slc bva 0 (g.all).length (g.all).length) _ a4 a5 a8 a9 a10 a11 (by first | exact a13 | rfl) rfl (by simp [hpl]) (idx _ (ptr p 0)) (List.mem_cons_of_mem _ hp0) (hra'.set th.at_ ⟨_, rfl, rfl, List.mem_cons_self ..⟩) ?_
          have h7 : Sat (PrAt13 p s2 :: _) H5 := h5.pull pp
          have h8 : Sat (NowP (ptr p 0) (some s2) :: _) H5 := h7.imp fun g a => ⟨p, rfl, a⟩
          exact run13_put (by omega) (by omega) hph hrw' (h8.ent ee)
      | none =>
        rw [hnow] at hs3
        have hs4 : Sat (NowP ph.vn none :: _) H := hs3.pull pp
        obtain ⟨u1, u2, v1, v2, dd, evn, hRR⟩ := hs4.opens Pull.here
        have hs5 := hs4.drop
        have evn : ph.vn = nilP := evn
        rw [evn]
        repeat (refine gO ?_; intros)
        obtain ⟨bx, cx, csx, exv', _, ⟨xvi, ecx, hcl⟩, hldx⟩ := rows_at hs5 (Has.skip (Has.skip (Has.skip (Has.skip (Has.skip (Has.skip (Has.skip (Has.skip (Has.skip (Has.skip (Has.skip (Has.skip has_thr)))))))))))) ecs
        refine AsSlc.eq exv' ?_
        repeat (refine gO ?_; intros)
        refine Must.mk (ltN_t hk) (hldx _ 0 _ _ (by show 0 + k * 1 = _; omega) (by rw [ecx]; rfl) ?_)
        obtain ⟨pi, ci, exi⟩ := RowsR.len hcl
        refine AsLen.eq exi ?_
        by_cases hlt : th.told.length < cs.length
        · refine Cd.f (leZ_f hlt) ?_
          obtain ⟨c, ec⟩ : ∃ x, cs[th.told.length]? = some x := ⟨_, List.getElem?_eq_getElem hlt⟩
          obtain ⟨f1, f2, f3⟩ := wf_fresh hc64 W ecs eth ec sl
          obtain ⟨bi, ci', cc, exi', _, ecc, hldc⟩ := rows_at' hcl ec
          have hp : g.pick sl calls j (Int.ofNat k) = g.go j k (P13.fresh sl c.kind (bh c.kind c.h (th.told.map fun x => x.1.h))) (th.told ++ [(z13T, false)]) g.all.length (g.all ++ [⟨(z13T, false), j, Int.negSucc 0, k, c⟩]) := by simp only [R13.pick, ecs, eth, hnow, ec]
          rw [hp] at kk
          simp only [R13.go] at kk
          rw [show (th.told ++ [(z13T, false)]).length - 1 = th.told.length + 1 - 1 by simp] at kk
          repeat (refine gO ?_; intros)
          refine AsSlc.eq exv' ?_
          repeat (refine gO ?_; intros)
          refine Must.mk (ltN_t hk) (hldx _ 0 _ _ (by show 0 + k * 1 = _; omega) (by rw [ecx]; rfl) ?_)
          refine AsSlc.eq exi' ?_
          refine Must.mk (ltN_t hlt) ?_
          refine hldc _ 0 _ _ (by show 0 + th.told.length * 2 + 0 = _; omega) (by rw [ecc]; rfl) ?_
          refine hldc _ 1 _ _ (by show 0 + th.told.length * 2 + 1 = _; omega) (by rw [ecc]; rfl) ?_
          repeat (refine gO ?_; intros)
          refine Must.mk (ltN_t hkn) (ldRow hs5 (off1 k) hvo0 ?_)
          have hhd : ∀ (i : Nat) row x, rows[i]? = some row → (th.told.map fun x => x.1.h)[i]? = some x → row[0]? = some (u64 x) := fun i row x h1 h2 => by
            rw [List.getElem?_map] at h2
            cases e : th.told[i]? with
            | none => rw [e] at h2; cases h2
            | some y =>
              rw [e] at h2
              cases h2
              obtain ⟨w, _, rfl, _⟩ := hrw.2 i y row e h1
              rfl
          refine begin13_ok hc sl hs5 Has.vec (by have := hrw.1; omega) (by simp [hrw.1]) hhd fun p H76 h76 => ?_
          generalize hsf : P13.fresh sl c.kind (bh c.kind c.h (th.told.map fun x => x.1.h)) = s at *
          repeat (refine gO ?_; intros)
          refine Must.mk (ltN_t hkn) ?_
          repeat (refine gO ?_; intros)
          refine st h76 (by rw [off1]; simp; omega) rfl fun H82 h82 => ?_
          rw [off1] at h82
          repeat (refine gO ?_; intros)
          refine Must.mk (ltN_t hkn) (ldRow h82 (off1 k) hvo0 ?_)
          repeat (refine gO ?_; intros)
          rename_i p89 H90 h90
          refine app_vec (new := [tRow (z13T, false) snil]) h90 pp el_told (by omega) sl_told (Src.cell (n := 6) (by rfl)) rfl (by simp [tRow]) (by have := hrw.1; simp; omega) rfl fun v91 H92 h92 => ?_
          have hrw2 := hrw.snoc (x := (z13T, false)) (r := tRow (z13T, false) snil) ⟨snil, rfl, rfl, hp0⟩
          obtain ⟨pv9, ev9⟩ := (h92.has Has.vec).shape
          subst ev9
          repeat (refine gO ?_; intros)
          refine Must.mk (ltN_t hkn) ?_
          repeat (refine gO ?_; intros)
          refine st h92 (by rw [off1]; simp; omega) rfl fun H98 h98 => ?_
          rw [off1] at h98
          have hva : Sat (Vec va 210 11 rowsA :: _) H98 := h98.pull pp
          obtain ⟨pva, eva0⟩ := (hva.has Has.vec).shape
          rw [hra.1] at eva0
          repeat (refine gO ?_; intros)
          refine AsLen.eq eva0 ?_
          repeat (refine gO ?_; intros)
          refine Must.mk (ltN_t hkn) ?_
          refine st h98 (by rw [off1]; simp; omega) rfl fun H105 h105 => ?_
          rw [off1] at h105
          repeat (refine gO ?_; intros)
          refine AsSlc.eq exv' ?_
          repeat (refine gO ?_; intros)
          have h105t : Sat (Thr13 xv calls :: _) H105 := h105.pull pp
          obtain ⟨bx2, cx2, csx2, exv2, _, ⟨xvi2, ecx2, hcl2⟩, hldx2⟩ := rows_at h105t has_thr ecs
          have ebx : bx2 = bx := by
            rw [exv'] at exv2
            injection exv2 with q1 _ _
            injection q1 with q1
            injection q1 with q1 _ _
            exact q1.symm
          subst ebx
          refine Must.mk (ltN_t hk) (hldx2 _ 0 _ _ (by show 0 + k * 1 = _; omega) (by rw [ecx2]; rfl) ?_)
          obtain ⟨bi2, ci2, cc2, exi2, _, ecc2, hldc2⟩ := rows_at' hcl2 ec
          refine AsSlc.eq exi2 ?_
          refine Must.mk (ltN_t hlt) ?_
          refine hldc2 _ 0 _ _ (by show 0 + th.told.length * 2 + 0 = _; omega) (by rw [ecc2]; rfl) ?_
          refine hldc2 _ 1 _ _ (by show 0 + th.told.length * 2 + 1 = _; omega) (by rw [ecc2]; rfl) ?_
          repeat (refine gO ?_; intros)
          rename_i p121 H122 h122
          refine app_vec (new := [sRow ⟨(z13T, false), j, Int.negSucc 0, k, c⟩ snil]) h122 pp el_seen (by omega) sl_seen (Src.cell (n := 11) (by rfl)) rfl (by simp [sRow]) (by have := hra.1; simp; omega) rfl fun v123 H124 h124 => ?_
          have hra2' := hra.snoc (x := ⟨(z13T, false), j, Int.negSucc 0, k, c⟩) (r := sRow ⟨(z13T, false), j, Int.negSucc 0, k, c⟩ snil) ⟨snil, rfl, rfl, hp0⟩
          repeat (refine gO ?_; intros)
          try rw [addInt]
          refine inR_nat (by omega) ?_
          repeat (refine gO ?_; intros)
          generalize hv91 : Value.slice pv9 _ _ = v91 at *
          have hsA : Sat (Vec v91 76 6 (rows ++ [tRow (z13T, false) snil]) :: PrAt13 p s :: ViewAt ph.q m (Int.ofNat k) ph.nq :: SatL ((List.zipWith (ThP m pool) phs g.ths).set k Emp) :: MemP m g.M :: Row bo eo 0 true ((phs.map Ph13.vo).set k v91) :: Row bn en 0 true ((phs.map Ph13.vn).set k (ptr p 0)) :: Row ba ea 0 true ((g.ths.map fun t => iN t.at_).set k (iN g.all.length)) :: Vec vv 33 1 (phs.map fun p => [ptr p.q 0]) :: Vec v123 210 11 (rowsA ++ [sRow ⟨(z13T, false), j, Int.negSucc 0, k, c⟩ snil]) :: SatL (poolL pool) :: Own p1 [u64 sl.cam, u64 sl.first, i64 sl.count, u64 sl.most] :: Own p3 [i64 n0, u64 most, xv, slc bw 0 picks.length cw] :: Thr13 xv calls :: IntsR (slc bw 0 picks.length cw) picks :: R) H124 := h124.ent ee
          clear hs3 hs4 hs5 h76 h82 h90 h92 h98 hva h105 h105t h122 h124
          obtain ⟨vo, evo'⟩ : ∃ vo, vo = v91 := ⟨_, rfl⟩
          rw [← evo'] at hsA
          have hvo : ((phs.map Ph13.vo).set k vo)[k]? = some vo := List.getElem?_set_self (by simp; omega)
          have hvn : ((phs.map Ph13.vn).set k (ptr p 0))[k]? = some (ptr p 0) := List.getElem?_set_self (by simp; omega)
          have hat : ((g.ths.map fun t => iN t.at_).set k (iN g.all.length))[k]? = some (iN g.all.length) := List.getElem?_set_self (by simp; omega)
          refine Must.mk (ltN_t hkn) (ldRow hsA (off1 k) hvn ?_)
          have hvw : (phs.map fun p => [ptr p.q 0])[k]? = some [ptr ph.q 0] := by rw [List.getElem?_map, hph]; rfl
          obtain ⟨bv, evv, _⟩ := (Sat.has hsA (Has.skip (Has.skip (Has.skip (Has.skip (Has.skip (Has.skip (Has.skip (Has.skip Has.vec))))))))).slot hvw
          refine AsSlc.eq (a11.trans evv) ?_
          repeat (refine gO ?_; intros)
          refine Must.mk (ltN_t (by simp; omega)) ?_
          refine ldVec hsA (Has.skip (Has.skip (Has.skip (Has.skip (Has.skip (Has.skip (Has.skip (Has.skip Has.vec)))))))) evv hvw (j := 0) (by show 0 + k * 1 = _; omega) (by omega) rfl ?_
          have hx := p13_step s g.M (Int.ofNat k) f1 f2
          refine p13step_ok hc s hsA pp pp pp hnq htr W.fine.bd f1 fun n2 H2 hn2 h2 => ?_
          generalize (s.step g.M (Int.ofNat k)).1 = s2 at *
          generalize (s.step g.M (Int.ofNat k)).2 = M2 at *
          obtain ⟨x1, x2, x3⟩ := hx
          repeat (refine gO ?_; intros)
          refine Must.mk (ltN_t hkn) (ldRow h2 (off1 k) hvo ?_)
          repeat (refine gO ?_; intros)
          rw [(subInt (a := th.told.length + 1) (b := 1) (by omega))]
          refine inR_nat (by omega) ?_
          repeat (refine gO ?_; intros)
          refine Must.mk (ltN_t hkn) (ldRow h2 (off1 k) hvn ?_)
          refine p13told_ok hc s2 h2 pp x2 fun w H3 h3 => ?_
          obtain ⟨pw, cw', ew⟩ := (h3.has Has.nums).len
          subst ew
          obtain ⟨r0, hr0, w0, _, er0, _⟩ := (hrw2).at (i := (th.told.length + 1) - 1) (List.getElem?_eq_getElem (by simp))
          obtain ⟨b2, evo, _⟩ := (h3.has (Has.skip (Has.skip (Has.skip (Has.skip Has.vec))))).slot hr0
          have hle14 : ((rows ++ [tRow (z13T, false) snil])).length = (th.told.length + 1) := (by simp [hrw.1])
          rw [hle14] at evo
          subst evo
          repeat (refine gO ?_; intros)
          refine Must.mk (ltN_t (by omega)) ?_
          repeat (refine gO ?_; intros)
          refine stVecN h3 pp hr0 (j := 0) (by show 0 + ((th.told.length + 1) - 1) * 6 = _; omega) (by show 0 + 6 ≤ 6; omega) rfl fun H4 h4 => ?_
          rw [show ovw [u64 s2.told.h, u64 s2.told.st, iN s2.told.er, u64 s2.told.fl, Value.slice pw s2.told.need.length cw', Value.bool s2.fin] r0 0 = tRow (s2.told, s2.fin) (.slice pw s2.told.need.length cw') from by rw [er0]; rfl] at h4
          have hrw' := ((hrw2).mono (RowT.mono (pool' := (.slice pw s2.told.need.length cw', s2.told.need) :: pool) fun x hx => List.mem_cons_of_mem _ hx)).set ((th.told.length + 1) - 1) (x := (s2.told, s2.fin)) (r := tRow (s2.told, s2.fin) (.slice pw s2.told.need.length cw')) ⟨_, rfl, rfl, List.mem_cons_self ..⟩
          have hr1 : ((rows ++ [tRow (z13T, false) snil]).set ((th.told.length + 1) - 1) (tRow (s2.told, s2.fin) (.slice pw s2.told.need.length cw')))[(th.told.length + 1) - 1]? = some (tRow (s2.told, s2.fin) (.slice pw s2.told.need.length cw')) := List.getElem?_set_self (List.getElem?_eq_some_iff.1 hr0).1
          refine ldRow h2 (off1 k) hvo ?_
          repeat (refine gO ?_; intros)
          refine ldRow h3 (off1 k) hvo ?_
          repeat (refine gO ?_; intros)
          refine Must.mk (ltN_t hkn) (ldRow h4 (off1 k) hat ?_)
          repeat (refine gO ?_; intros)
          refine Must.mk (ltN_t hkn) (ldRow h4 (off1 k) hvo ?_)
          repeat (refine gO ?_; intros)
          refine inR_nat (by omega) ?_
          repeat (refine gO ?_; intros)
          refine Must.mk (ltN_t (by omega)) ?_
          refine ldVec h4 Has.vec rfl hr1 (j := 0) (by show 0 + ((th.told.length + 1) - 1) * 6 + 0 = _; omega) (by omega) rfl ?_
          refine ldVec h4 Has.vec rfl hr1 (j := 1) (by show 0 + ((th.told.length + 1) - 1) * 6 + 1 = _; omega) (by omega) rfl ?_
          refine ldVec h4 Has.vec rfl hr1 (j := 2) (by show 0 + ((th.told.length + 1) - 1) * 6 + 2 = _; omega) (by omega) rfl ?_
          refine ldVec h4 Has.vec rfl hr1 (j := 3) (by show 0 + ((th.told.length + 1) - 1) * 6 + 3 = _; omega) (by omega) rfl ?_
          refine ldVec h4 Has.vec rfl hr1 (j := 4) (by show 0 + ((th.told.length + 1) - 1) * 6 + 4 = _; omega) (by omega) rfl ?_
          refine ldVec h4 Has.vec rfl hr1 (j := 5) (by show 0 + ((th.told.length + 1) - 1) * 6 + 5 = _; omega) (by omega) rfl ?_
          obtain ⟨xs, exs⟩ : ∃ x, ((g.all ++ [(⟨(z13T, false), j, Int.negSucc 0, k, c⟩ : Seen13)]))[g.all.length]? = some x := ⟨_, List.getElem?_eq_getElem (by simp)⟩
          obtain ⟨rs, hrs, ws, _, ers, _⟩ := (hra2').at exs
          have hva4 : Sat (Vec v123 210 11 (rowsA ++ [sRow ⟨(z13T, false), j, Int.negSucc 0, k, c⟩ snil]) :: _) H4 := h4.pull pp
          obtain ⟨bva, eva, _⟩ := (hva4.has Has.vec).slot hrs
          have hln := (hra2').1
          rw [hln] at eva
          refine AsSlc.eq eva ?_
          subst eva
          repeat (refine gO ?_; intros)
          refine Must.mk (ltN_t (by simp)) ?_
          repeat (refine gO ?_; intros)
          refine stVecN h4 pp hrs (j := 0) (by show 0 + g.all.length * 11 + 0 = _; omega) (by show 0 + 6 ≤ 11; omega) rfl fun H5 h5 => ?_
          rw [show ovw [u64 s2.told.h, u64 s2.told.st, iN s2.told.er, u64 s2.told.fl, Value.slice pw s2.told.need.length cw', Value.bool s2.fin] rs 0 = sRow { xs with t := (s2.told, s2.fin) } (.slice pw s2.told.need.length cw') from by rw [ers]; rfl] at h5
          have hra' := (hra2').mono (RowS.mono (pool' := (.slice pw s2.told.need.length cw', s2.told.need) :: pool) fun x hx => List.mem_cons_of_mem _ hx)
          have hra2 : ((rowsA ++ [sRow ⟨(z13T, false), j, Int.negSucc 0, k, c⟩ snil]).set g.all.length (sRow { xs with t := (s2.told, s2.fin) } (.slice pw s2.told.need.length cw')))[g.all.length]? = some (sRow { xs with t := (s2.told, s2.fin) } (.slice pw s2.told.need.length cw')) := List.getElem?_set_self (List.getElem?_eq_some_iff.1 hrs).1
          have esu : seenUpd (g.all ++ [(⟨(z13T, false), j, Int.negSucc 0, k, c⟩ : Seen13)]) g.all.length (s2.told, s2.fin) j = ((g.all ++ [(⟨(z13T, false), j, Int.negSucc 0, k, c⟩ : Seen13)])).set g.all.length (xs.upd (s2.told, s2.fin) j) := by unfold seenUpd; rw [exs]
          rw [esu] at kk
          clear esu x1
          generalize s2.fin = bf at *
          have idx : ∀ (vo' vn' : Value) (i : Nat) (ph' : Ph13), (phs.set k ⟨vo', vn', ph.q, n2, k⟩)[i]? = some ph' → ph'.k = i ∧ ph'.nq ≤ j + 1 := fun vo' vn' i ph' h => by
            rw [List.getElem?_set] at h
            by_cases hi : k = i
            · subst hi
              rw [if_pos rfl, if_pos (by omega)] at h
              cases h
              exact ⟨rfl, by show n2 ≤ _; omega⟩
            · rw [if_neg hi] at h
              exact hkk i ph' h
          repeat (refine gO ?_; intros)
          cases bf with
          | true =>
            simp only [if_true] at kk
            refine Cd.t rfl ?_
            repeat (refine gO ?_; intros)
            refine Must.mk (ltN_t hkn) (ldRow h5 (off1 k) hat ?_)
            repeat (refine gO ?_; intros)
            refine Must.mk (ltN_t (by simp)) ?_
            repeat (refine gO ?_; intros)
            refine stVecN h5 pp hra2 (j := 7) (by show 0 + g.all.length * 11 + 7 = _; omega) (by show 7 + 1 ≤ 11; omega) rfl fun H6 h6 => ?_
            rw [List.set_set, show ovw [iN j] (sRow { xs with t := (s2.told, true) } (.slice pw s2.told.need.length cw')) 7 = sRow (xs.upd (s2.told, true) j) (.slice pw s2.told.need.length cw') from rfl] at h6
            repeat (refine gO ?_; intros)
            refine Must.mk (ltN_t hkn) (st h6 (by rw [off1]; simp; omega) rfl fun H7 h7 => ?_)
            rw [off1, List.set_set] at h7
            repeat (refine gO ?_; intros)
            try rw [addInt]
            refine inR_nat (by omega) ?_
            repeat (refine gO ?_; intros)
            refine kk _ H7 (phs.set k ⟨slc b2 0 (th.told.length + 1) (th.told.length + 1), nilP, ph.q, n2, k⟩) ((.slice pw s2.told.need.length cw', s2.told.need) :: pool) (slc bva 0 ((g.all ++ [(⟨(z13T, false), j, Int.negSucc 0, k, c⟩ : Seen13)])).length ((g.all ++ [(⟨(z13T, false), j, Int.negSucc 0, k, c⟩ : Seen13)])).length) _ a4 a5 a8 a9 a10 a11 (by first | exact a13 | rfl) rfl (by simp [hpl]) (idx _ nilP) (List.mem_cons_of_mem _ hp0) (hra'.set g.all.length ⟨_, rfl, rfl, List.mem_cons_self ..⟩) ?_
            have h8 : Sat (NowP nilP none :: _) H7 := h7.triv fun _ => rfl
            exact run13_put (by omega) (by omega) hph hrw' (h8.ent ee)
          | false =>
            simp only [Bool.false_eq_true, if_false] at kk
            refine Cd.f rfl ?_
            repeat (refine gO ?_; intros)
            try rw [addInt]
            refine inR_nat (by omega) ?_
            repeat (refine gO ?_; intros)
            refine kk _ H5 (phs.set k ⟨slc b2 0 (th.told.length + 1) (th.told.length + 1), ptr p 0, ph.q, n2, k⟩) ((.slice pw s2.told.need.length cw', s2.told.need) :: pool) (slc bva 0 ((g.all ++ [(⟨(z13T, false), j, Int.negSucc 0, k, c⟩ : Seen13)])).length ((g.all ++ [(⟨(z13T, false), j, Int.negSucc 0, k, c⟩ : Seen13)])).length) _ a4 a5 a8 a9 a10 a11 (by first | exact a13 | rfl) rfl (by simp [hpl]) (idx _ (ptr p 0)) (List.mem_cons_of_mem _ hp0) (hra'.set g.all.length ⟨_, rfl, rfl, List.mem_cons_self ..⟩) ?_
            have h7 : Sat (PrAt13 p s2 :: _) H5 := h5.pull pp
            have h8 : Sat (NowP (ptr p 0) (some s2) :: _) H5 := h7.imp fun g a => ⟨p, rfl, a⟩
            exact run13_put (by omega) (by omega) hph hrw' (h8.ent ee)
        · refine Cd.t (leZ_t (by omega)) ?_
          repeat (refine gO ?_; intros)
          try rw [addInt]
          refine inR_nat (by omega) ?_
          repeat (refine gO ?_; intros)
          refine idle _ ?_ a4 a5 a8 a9 a10 a11 a13 rfl
          simp only [R13.pick, ecs, eth, hnow, List.getElem?_eq_none (show cs.length ≤ th.told.length by omega)]
    · refine Cd.t (leZ_t (by omega)) ?_
      repeat (refine gO ?_; intros)
      try rw [addInt]
      refine inR_nat (by omega) ?_
      repeat (refine gO ?_; intros)
      refine idle _ ?_ a4 a5 a8 a9 a10 a11 a13 rfl
      simp only [R13.pick, List.getElem?_eq_none (show calls.length ≤ k by omega)]
end Go.Proofs.YtipbbnoepphdkaaGreat

set_option linter.unusedVariables false
set_option linter.unusedSimpArgs false
namespace Go.Proofs.YtipbbnoepphdkaaGreat
open Go Go.CM
attribute [local irreducible] AsBool AsWant AsNat AsInt AsCnt AsPtr AsSlc AsLen AsStr AsAgg AsTup AsFn AsIfc Nth Sc NotNil IsNil Must Cd codeW funW Sat SatL wrapN subM mkRow ltZ leZ ltN leN
variable {con : CallT}
noncomputable def elemT (t : Nat) : Nat := match Tryz.prog.underlying t with | some (.slice e) => e | _ => 0
theorem el_out : elemOk Tryz.prog 99 (elemT 99) 1 24 = true := by kernel_rfl
theorem el_now : elemOk Tryz.prog 207 (elemT 207) 1 8 = true := by kernel_rfl
theorem el_at : elemOk Tryz.prog 23 (elemT 23) 1 8 = true := by kernel_rfl
theorem el_view : elemOk Tryz.prog 208 33 1 8 = true := by kernel_rfl
theorem sl_view : ∃ e, Tryz.prog.underlying 208 = some (.slice e) := ⟨33, by kernel_rfl⟩
theorem zero_out : (zeroOf Tryz.prog (elemT 99)).map cellsF = some [snil] := by kernel_rfl
theorem zero_now : (zeroOf Tryz.prog (elemT 207)).map cellsF = some [nilP] := by kernel_rfl
theorem zero_at : (zeroOf Tryz.prog (elemT 23)).map cellsF = some [iN 0] := by kernel_rfl
theorem rep1 (n : Nat) (v : Value) : (List.replicate n [v]).flatten = List.replicate n v := by
  induction n with
  | zero => rfl
  | succ n ih => rw [List.replicate_succ, List.replicate_succ, List.flatten_cons, ih]; rfl
def th0 : Th13 := ⟨[], none, 0⟩
def g13 (M : Mem) (calls : List (List C13)) : R13 := ⟨M, List.replicate calls.length th0, []⟩
theorem wf0 {M : Mem} (h : Fine M) (calls : List (List C13)) : WF13 calls (g13 M calls) := by
  refine ⟨by simp [g13], fun k cs th h1 h2 => ?_, h⟩
  simp only [g13, List.getElem?_replicate] at h2
  split at h2
  · cases h2
    exact ⟨Nat.zero_le _, (fun x (hx : x ∈ ([] : List (T13 × Bool))) => nomatch hx), fun s (hs : (none : Option P13) = some s) => nomatch hs⟩
  · cases h2
abbrev pool0 : Pool := [(snil, [])]
set_option maxRecDepth 100000 in
theorem run13_ok (hc : Con con lives) (sl : SlotsS) {calls : List (List C13)} (hc64 : Calls64 calls) {M : Mem} (hf : Fine M) {R : List HP} {H : CH} {m : Nat} {xv xw : Value} {n0 : Int} {most : Nat} {picks : List Int} {K : KP}
    (hl1 : calls.length ≤ 1048576) (hl2 : ∀ cs ∈ calls, cs.length ≤ 1048576) (hpc : picks.length ≤ 1048576) (htr : M.tr.length ≤ 10)
    (hs : Sat (MemP m M :: Thr13 xv calls :: IntsR xw picks :: R) H)
    (k : ∀ bo eo va phs pool rowsA g H1, g = r13At sl calls picks (g13 M calls) picks.length → phs.length = calls.length → Rows2 (RowS pool) g.all rowsA →
      Sat (MemP m g.M :: Row bo eo 0 true (phs.map Ph13.vo) :: SatL (List.zipWith (ThP m pool) phs g.ths) :: Vec va 210 11 rowsA :: SatL (poolL pool) :: Thr13 xv calls :: IntsR xw picks :: R) H1 → K (.tuple ⟨[slc bo 0 calls.length calls.length, va]⟩) H1) :
    Call1 Tryz.prog con 35 [ptr m 0, .agg ⟨[u64 sl.cam, u64 sl.first, i64 sl.count, u64 sl.most]⟩, .agg ⟨[i64 n0, u64 most, xv, xw]⟩] H K := by
  refine call_of (hc _ _ _ rfl) ?_
  rw [l13run_W]
  obtain ⟨pxv, cxv, exv⟩ := (hs.has (Has.skip has_thr)).len
  refine na fun p1 H1 h1 => ?_
  obtain ⟨pxw, cxw, exw⟩ := (hs.has (Has.skip (Has.skip has_ints))).len
  have hcx : isCell xv = true := by rw [exv]; rfl
  have hcw : isCell xw = true := by rw [exw]; rfl
  refine na fun p3 H2 h2 => ?_
  repeat (refine gO ?_; intros)
  refine AsLen.eq exv ?_
  refine mkS h2 el_out zero_out (Nat.le_refl _) (by omega) (by omega) fun bo H3 h3 => ?_
  repeat (refine gO ?_; intros)
  refine AsLen.eq exv ?_
  refine mkS h3 el_now zero_now (Nat.le_refl _) (by omega) (by omega) fun bn H4 h4 => ?_
  repeat (refine gO ?_; intros)
  refine AsLen.eq exv ?_
  refine mkS h4 el_at zero_at (Nat.le_refl _) (by omega) (by omega) fun ba H5 h5 => ?_
  rw [rep1, rep1, rep1] at h5
  refine LoopC.indP (n := 300) (id := 0) (fun σ H => σ 4 = ptr p1 0 ∧ σ 5 = ptr p3 0 ∧ σ 8 = slc bo 0 calls.length calls.length ∧ σ 9 = slc bn 0 calls.length calls.length ∧ σ 10 = slc ba 0 calls.length calls.length ∧ ∃ vv phs, σ 11 = vv ∧ phs.length = calls.length ∧ (∀ (i : Nat) (ph : Ph13), phs[i]? = some ph → ph.k = i ∧ ph.nq = 0 ∧ ph.vo = snil ∧ ph.vn = nilP) ∧
      Sat (Vec vv 33 1 (phs.map fun p => [ptr p.q 0]) :: SatL (List.zipWith (ThP m pool0) phs (List.replicate calls.length th0)) :: Row ba (elemT 23) 0 true (List.replicate calls.length (iN 0)) :: Row bn (elemT 207) 0 true (List.replicate calls.length nilP) :: Row bo (elemT 99) 0 true (List.replicate calls.length snil) :: Own p3 [i64 n0, u64 most, xv, xw] :: Own p1 [u64 sl.cam, u64 sl.first, i64 sl.count, u64 sl.most] :: MemP m M :: Thr13 xv calls :: IntsR xw picks :: R) H) (by kernel_rfl)
    (fun (i : Nat) σ H => i ≤ calls.length ∧ σ 0 = ptr m 0 ∧ σ 4 = ptr p1 0 ∧ σ 5 = ptr p3 0 ∧ σ 8 = slc bo 0 calls.length calls.length ∧ σ 9 = slc bn 0 calls.length calls.length ∧ σ 10 = slc ba 0 calls.length calls.length ∧ σ 12 = iN i ∧ ∃ vv phs, σ 11 = vv ∧ phs.length = i ∧ (∀ (i : Nat) (ph : Ph13), phs[i]? = some ph → ph.k = i ∧ ph.nq = 0 ∧ ph.vo = snil ∧ ph.vn = nilP) ∧
      Sat (Vec vv 33 1 (phs.map fun p => [ptr p.q 0]) :: SatL (List.zipWith (ThP m pool0) phs (List.replicate i th0)) :: Row ba (elemT 23) 0 true (List.replicate calls.length (iN 0)) :: Row bn (elemT 207) 0 true (List.replicate calls.length nilP) :: Row bo (elemT 99) 0 true (List.replicate calls.length snil) :: Own p3 [i64 n0, u64 most, xv, xw] :: Own p1 [u64 sl.cam, u64 sl.first, i64 sl.count, u64 sl.most] :: MemP m M :: Thr13 xv calls :: IntsR xw picks :: R) H)
    (fun i => calls.length - i) (fun i σ H hI => ?_) (fun σ H hP => ?_) 0 _ _ ⟨Nat.zero_le _, rfl, rfl, rfl, rfl, rfl, rfl, rfl, snil, [], rfl, rfl, (fun i ph h => by simp at h), (Sat.none h5).nilV.ent ee⟩
  · obtain ⟨hi, e0, e4, e5, e8, e9, e10, e12, vv, phs, e11, hpl, hpk, hs1⟩ := hI
    rw [l13runA_W]
    rw [e0, e5, e11, e12]
    repeat (refine gO ?_; intros)
    refine AsLen.eq exv ?_
    repeat (refine gO ?_; intros)
    by_cases hlt : i < calls.length
    · refine Cd.t (ltZ_t hlt) ?_
      refine memView_ok hc hs1 fun q H6 h6 => ?_
      repeat (refine gO ?_; intros)
      rename_i p8 H9 h9
      refine app_vec (new := [[ptr q 0]]) h9 pp el_view (by omega) sl_view (Src.cell (n := 1) (by rfl)) rfl (by simp) (by simp; omega) rfl fun vv2 H11 h11 => ?_
      repeat (refine gO ?_; intros)
      try rw [addInt]
      refine inR_nat (by omega) ?_
      repeat (refine gO ?_; intros)
      show ∃ y, _ ∧ _
      refine ⟨i + 1, by omega, hlt, e0, e4, e5, e8, e9, e10, rfl, vv2, phs ++ [⟨snil, nilP, q, 0, i⟩], rfl, by simp [hpl], fun i' ph h => ?_, ?_⟩
      · by_cases hl : i' < phs.length
        · rw [List.getElem?_append_left hl] at h
          exact hpk i' ph h
        · rw [List.getElem?_append_right (by omega)] at h
          cases e : i' - phs.length with
          | zero => rw [e] at h; cases h; exact ⟨by show i = i'; omega, rfl, rfl, rfl⟩
          | succ n => rw [e] at h; simp at h
      · have h12 : Sat (NowP nilP none :: Vec snil 76 6 [] :: _) H11 := (h11.nilV (e := 76) (s := 6)).triv fun _ => rfl
        have h13 : Sat ([Vec snil 76 6 [], NowP nilP none, ViewAt q m (Int.ofNat i) 0] ++ (SatL (List.zipWith (ThP m pool0) phs (List.replicate i th0)) :: Vec vv2 33 1 ((phs.map fun p => [ptr p.q 0]) ++ [[ptr q 0]]) :: Row ba (elemT 23) 0 true (List.replicate calls.length (iN 0)) :: Row bn (elemT 207) 0 true (List.replicate calls.length nilP) :: Row bo (elemT 99) 0 true (List.replicate calls.length snil) :: Own p3 [i64 n0, u64 most, xv, xw] :: Own p1 [u64 sl.cam, u64 sl.first, i64 sl.count, u64 sl.most] :: MemP m M :: Thr13 xv calls :: IntsR xw picks :: R)) H11 := h12.ent ee
        have h14 := (h13.close (A := ThP m pool0 ⟨snil, nilP, q, 0, i⟩ th0) fun g a => ⟨[], Rows2.nil, a⟩).snoc
        have e1 : List.zipWith (ThP m pool0) phs (List.replicate i th0) ++ [ThP m pool0 ⟨snil, nilP, q, 0, i⟩ th0] = List.zipWith (ThP m pool0) (phs ++ [⟨snil, nilP, q, 0, i⟩]) (List.replicate (i + 1) th0) := by
          rw [List.replicate_succ', List.zipWith_append (by simp [hpl])]; rfl
        have e2 : (phs.map fun p => [ptr p.q 0]) ++ [[ptr q 0]] = (phs ++ [(⟨snil, nilP, q, 0, i⟩ : Ph13)]).map fun p => [ptr p.q 0] := by simp
        rw [e1, e2] at h14
        exact h14.ent ee
    · refine Cd.f (ltZ_f (by omega)) ?_
      show _ = _ ∧ _
      obtain rfl : i = calls.length := by omega
      exact ⟨rfl, e4, e5, e8, e9, e10, vv, phs, e11, hpl, hpk, hs1⟩
  · obtain ⟨e4, e5, e8, e9, e10, vv, phs, e11, hpl, hpk, hs1⟩ := hP
    show Cd _ _ _
    refine Cd.t (eqN_self 0) ?_
    have hA : ∀ (v : Value) (f : Ph13 → Value), (∀ (i : Nat) ph, phs[i]? = some ph → f ph = v) → List.replicate calls.length v = phs.map f := fun v f hh => by
      apply List.ext_getElem?
      intro i
      rw [List.getElem?_replicate, List.getElem?_map]
      by_cases hi : i < calls.length
      · obtain ⟨ph, hph⟩ : ∃ ph, phs[i]? = some ph := ⟨_, List.getElem?_eq_getElem (by omega)⟩
        rw [if_pos hi, hph, Option.map_some, hh i ph hph]
      · rw [if_neg hi, List.getElem?_eq_none (by omega)]; rfl
    have hB : List.replicate calls.length (iN 0) = (List.replicate calls.length th0).map fun t => iN t.at_ := by rw [List.map_replicate]; rfl
    rw [hA snil Ph13.vo fun i ph h => (hpk i ph h).2.2.1, hA nilP Ph13.vn fun i ph h => (hpk i ph h).2.2.2, hB] at hs1
    have h6 := (hs1.nil).imp (B := SatL (poolL pool0)) fun g a => SatL.one a
    refine LoopC.indP (n := 300) (id := 2) (fun σ H => ∃ va phs pool rowsA, σ 8 = slc bo 0 calls.length calls.length ∧ σ 13 = va ∧ phs.length = calls.length ∧ Rows2 (RowS pool) (r13At sl calls picks (g13 M calls) picks.length).all rowsA ∧
        Sat (MemP m (r13At sl calls picks (g13 M calls) picks.length).M :: Row bo (elemT 99) 0 true (phs.map Ph13.vo) :: SatL (List.zipWith (ThP m pool) phs (r13At sl calls picks (g13 M calls) picks.length).ths) :: Vec va 210 11 rowsA :: SatL (poolL pool) :: Thr13 xv calls :: IntsR xw picks :: R) H) (by kernel_rfl)
      (fun (j : Nat) σ H => j ≤ picks.length ∧ σ 4 = ptr p1 0 ∧ σ 5 = ptr p3 0 ∧ σ 8 = slc bo 0 calls.length calls.length ∧ σ 9 = slc bn 0 calls.length calls.length ∧ σ 10 = slc ba 0 calls.length calls.length ∧ σ 11 = vv ∧ σ 14 = iN j ∧ ∃ va phs pool rowsA, σ 13 = va ∧ phs.length = calls.length ∧ (∀ (i : Nat) ph, phs[i]? = some ph → ph.k = i ∧ ph.nq ≤ j) ∧ (snil, []) ∈ pool ∧ Rows2 (RowS pool) (r13At sl calls picks (g13 M calls) j).all rowsA ∧
        Sat (MemP m (r13At sl calls picks (g13 M calls) j).M :: Row bo (elemT 99) 0 true (phs.map Ph13.vo) :: Row bn (elemT 207) 0 true (phs.map Ph13.vn) :: Row ba (elemT 23) 0 true ((r13At sl calls picks (g13 M calls) j).ths.map fun t => iN t.at_) :: Vec vv 33 1 (phs.map fun p => [ptr p.q 0]) :: SatL (List.zipWith (ThP m pool) phs (r13At sl calls picks (g13 M calls) j).ths) :: Vec va 210 11 rowsA :: SatL (poolL pool) :: Own p1 [u64 sl.cam, u64 sl.first, i64 sl.count, u64 sl.most] :: Own p3 [i64 n0, u64 most, xv, xw] :: Thr13 xv calls :: IntsR xw picks :: R) H)
      (fun j => picks.length - j) (fun j σ H hI => ?_) (fun σ H hP => ?_) 0 _ _ ⟨Nat.zero_le _, e4, e5, e8, e9, e10, e11, rfl, snil, phs, pool0, [], rfl, hpl, (fun i ph h => ⟨(hpk i ph h).1, by have := (hpk i ph h).2.1; omega⟩), List.mem_cons_self .., Rows2.nil, (h6.nilV (e := 210) (s := 11)).ent ee⟩
    · obtain ⟨hj, a4, a5, a8, a9, a10, a11, a14, va, phs, pool, rowsA, a13, hpl, hpk, hp0, hra, hs2⟩ := hI
      by_cases hlt : j < picks.length
      · obtain ⟨t, et⟩ : ∃ t, picks[j]? = some t := ⟨_, List.getElem?_eq_getElem hlt⟩
        have hz := r13At_sz (sl := sl) (calls := calls) (picks := picks) (g := g13 M calls) j
        have hz1 : (g13 M calls).all.length = 0 := rfl
        have hz2 : (g13 M calls).M.tr.length ≤ 10 := htr
        have hsu := r13At_succ (sl := sl) (calls := calls) (g := g13 M calls) et
        refine run13_pick (n := calls.length) hc hc64 (r13At_wf hc64 (wf0 hf calls) j) rfl hl1 hl2 hpl hpk hlt hpc et (by omega) (by omega) hp0 hra hs2 a4 a5 a8 a9 a10 a11 a13 a14 fun σ1 H1 phs' pool' va' rowsA' b4 b5 b8 b9 b10 b11 b13 b14 hpl' hpk' hp0' hra' h1 => ?_
        rw [← hsu] at hra' h1
        show ∃ y, _ ∧ _
        exact ⟨j + 1, by omega, hlt, b4, b5, b8, b9, b10, b11, b14, va', phs', pool', rowsA', b13, hpl', hpk', hp0', hra', h1⟩
      · obtain rfl : j = picks.length := by omega
        rw [l13runB_W]
        rw [a5, a14]
        repeat (refine gO ?_; intros)
        refine AsLen.eq exw ?_
        repeat (refine gO ?_; intros)
        refine Cd.f (ltZ_f (Nat.le_refl _)) ?_
        show _ = _ ∧ _
        exact ⟨rfl, va, phs, pool, rowsA, a8, a13, hpl, hra, hs2.ent ee⟩
    · obtain ⟨va, phs, pool, rowsA, a8, a13, hpl, hra, hs2⟩ := hP
      show Cd _ _ _
      refine Cd.t (eqN_self 2) ?_
      rw [a8, a13]
      exact k _ _ va phs pool rowsA _ H rfl hpl hra hs2
end Go.Proofs.YtipbbnoepphdkaaGreat

set_option linter.unusedVariables false
set_option linter.unusedSimpArgs false
namespace Go.Proofs.YtipbbnoepphdkaaGreat
open Go Go.CM
theorem leZ_on (k z : Nat) : leZ (Int.ofNat k) (Int.negSucc z) = false := decide_eq_false fun h => by
  have h1 := Int.negSucc_lt_zero z
  have h2 : (0 : Int) ≤ Int.ofNat k := Int.natCast_nonneg k
  have h3 : Int.ofNat k ≤ Int.negSucc z := h
  omega
attribute [local irreducible] AsBool AsWant AsNat AsInt AsCnt AsPtr AsSlc AsLen AsStr AsAgg AsTup AsFn AsIfc Nth Sc NotNil IsNil Must Cd codeW funW Sat SatL wrapN subM mkRow ltZ leZ ltN leN
variable {con : CallT}
/-- The memory with a camera, and the slots. -/
def mem13 : Mem := (mem0 4096).alloc (Int.negSucc 0) [1]
def slots13 (n : Int) (most : Nat) : SlotsS × Nat × Mem := mkSlots 1 n most mem13 (Int.negSucc 0)
theorem fine_alloc {M : Mem} (h : Fine M) (th : Int) {vals : List Nat} (hv : ∀ x ∈ vals, x < 18446744073709551616) (hl : vals.length ≤ 1000000000) : Fine (M.alloc th vals) := by
  have hb : ∀ (v cs : List Nat) (o : Nat), (∀ x ∈ v, x < 18446744073709551616) → (∀ x ∈ cs, x < 18446744073709551616) → ∀ x ∈ ovN v cs o, x < 18446744073709551616 := fun v => by
    induction v with
    | nil => exact fun cs o _ h => h
    | cons y r ih =>
      intro cs o h1 h2
      refine ih (cs.set o y) (o + 1) (fun x hx => h1 x (List.mem_cons_of_mem _ hx)) fun x hx => ?_
      rcases List.mem_or_eq_of_mem_set hx with h | rfl
      · exact h2 x h
      · exact h1 x (List.mem_cons_self ..)
  unfold Mem.alloc
  split
  · exact ⟨fun x hx => hb vals M.cells M.free hv h.bd x hx, fine_note (M := { M with cells := _, free := _ }) h.vals hl⟩
  · exact ⟨h.bd, fine_note h.vals hl⟩
theorem alloc_len (M : Mem) (th : Int) (vals : List Nat) : (M.alloc th vals).tr.length = M.tr.length + 1 := by
  simp only [Mem.alloc, Mem.note]
  split <;> simp
theorem fine13 : Fine mem13 := fine_alloc (fine0 4096) _ (by simp) (by simp)
theorem mem13_tr : mem13.tr.length = 1 := alloc_len (mem0 4096) (Int.negSucc 0) [1]
theorem mkSlots_fine {cam : Nat} {n : Int} {most : Nat} {M : Mem} (h : Fine M) (th : Int) : Fine (mkSlots cam n most M th).2.2 ∧ (mkSlots cam n most M th).2.2.tr.length ≤ M.tr.length + 1 := by
  unfold mkSlots
  split
  · exact ⟨h, Nat.le_succ _⟩
  · rename_i c
    have hz : ∀ x ∈ List.replicate c 0, x < 18446744073709551616 := fun x hx => by rw [List.eq_of_mem_replicate hx]; omega
    by_cases h1 : c < 1
    · simp only [if_pos h1]; exact ⟨h, Nat.le_succ _⟩
    simp only [if_neg h1]
    by_cases h2 : 256 < c
    · simp only [if_pos h2]; exact ⟨h, Nat.le_succ _⟩
    simp only [if_neg h2]
    by_cases h3 : most < 1
    · simp only [if_pos h3]; exact ⟨h, Nat.le_succ _⟩
    simp only [if_neg h3]
    by_cases h4 : 1099511627776 < most
    · simp only [if_pos h4]; exact ⟨h, Nat.le_succ _⟩
    simp only [if_neg h4]
    have := fine_alloc h th hz (by simp; omega)
    have h5 := alloc_len M th (List.replicate c 0)
    split
    · exact ⟨this, by show (M.alloc th (List.replicate c 0)).tr.length ≤ _; omega⟩
    · exact ⟨this, by show (M.alloc th (List.replicate c 0)).tr.length ≤ _; omega⟩
theorem slots13_fine (n : Int) (most : Nat) : Fine (slots13 n most).2.2 ∧ (slots13 n most).2.2.tr.length ≤ 10 := by
  have h := mkSlots_fine (cam := 1) (n := n) (most := most) fine13 (Int.negSucc 0)
  have h2 := mem13_tr
  exact ⟨h.1, by have := h.2; show (mkSlots 1 n most mem13 (Int.negSucc 0)).2.2.tr.length ≤ 10; omega⟩
theorem room1 {n : Nat} (h : 2 ≤ n) : (mem0 n).room [1] = 1 := by
  unfold Mem.room mem0
  rw [if_pos]
  simp
  omega
theorem room13 : (mem0 4096).room [1] = 1 := room1 (by omega)
theorem alloc1 {n : Nat} (h : 2 ≤ n) (th : Int) : ((mem0 n).alloc th [1]).cells.length = n ∧ ((mem0 n).alloc th [1]).free = 2 := by
  rw [alloc_t (M := mem0 n) (vals := [1]) (by simp) (by simp [mem0]; omega)]
  refine ⟨?_, rfl⟩
  show (ovN [1] (List.replicate n 0) 1).length = n
  rw [ovN_len]; simp
/-- May there be such slots? -/
def right13 (n : Int) (most : Nat) : Bool := match n with | .negSucc _ => false | .ofNat c => decide (1 ≤ c) && (decide (c ≤ 256) && (decide (1 ≤ most) && decide (most ≤ 1099511627776)))
theorem mem13_len : mem13.cells.length = 4096 := (alloc1 (n := 4096) (by omega) _).1
theorem mem13_free : mem13.free = 2 := (alloc1 (n := 4096) (by omega) _).2
theorem room_n {c : Nat} (h1 : 1 ≤ c) (h2 : c ≤ 256) : mem13.room (List.replicate c 0) = 2 := by
  unfold Mem.room
  rw [mem13_len, mem13_free, List.length_replicate, if_pos (by omega)]
theorem slots13_no {n : Int} {most : Nat} (h : right13 n most = false) : slots13 n most = (sl0, 2, mem13) := by
  unfold slots13 mkSlots
  cases n with
  | negSucc z => rfl
  | ofNat c =>
    unfold right13 at h
    simp only at h ⊢
    by_cases h1 : c < 1
    · rw [if_pos h1]
    rw [if_neg h1]
    by_cases h2 : 256 < c
    · rw [if_pos h2]
    rw [if_neg h2]
    by_cases h3 : most < 1
    · rw [if_pos h3]
    rw [if_neg h3]
    by_cases h4 : 1099511627776 < most
    · rw [if_pos h4]
    · rw [decide_eq_true (show 1 ≤ c by omega), decide_eq_true (show c ≤ 256 by omega), decide_eq_true (show 1 ≤ most by omega), decide_eq_true (show most ≤ 1099511627776 by omega)] at h
      cases h
theorem slots13_yes {n : Int} {most : Nat} (h : right13 n most = true) : ∃ c, n = Int.ofNat c ∧ 1 ≤ c ∧ c ≤ 256 ∧ 1 ≤ most ∧ most ≤ 1099511627776 ∧ slots13 n most = (⟨1, 2, Int.ofNat c, most⟩, 0, mem13.alloc (Int.negSucc 0) (List.replicate c 0)) := by
  cases n with
  | negSucc z => cases h
  | ofNat c =>
    unfold right13 at h
    simp only [Bool.and_eq_true, decide_eq_true_eq] at h
    obtain ⟨h1, h2, h3, h4⟩ := h
    refine ⟨c, rfl, h1, h2, h3, h4, ?_⟩
    unfold slots13 mkSlots
    simp only
    rw [if_neg (by omega), if_neg (by omega), if_neg (by omega), if_neg (by omega), room_n h1 h2, if_neg (by omega)]
theorem l13memory_ok (hc : Con con lives) {n : Int} {most : Nat} {v w : Value} {L : List HP} {H : CH} {K : KP} (hs : Sat L H)
    (k : ∀ m H1, Sat (MemP m (slots13 n most).2.2 :: L) H1 → K (.tuple ⟨[ptr m 0, slA (slots13 n most).1, .bool (eqZ (Int.ofNat (slots13 n most).2.1) (Int.ofNat 0))]⟩) H1) : Call1 Tryz.prog con 32 [.agg ⟨[i64 n, u64 most, v, w]⟩] H K := by
  refine call_of (hc _ _ _ rfl) ?_
  rw [l13memory_W]
  refine na fun p1 H2 h2 => ?_
  refine na fun p3 H4 h4 => ?_
  refine arenaNew_ok hc h4 (by omega) (by omega) fun m H6 h6 => ?_
  repeat (refine gO ?_; intros)
  refine memView_ok hc h6 fun q H18 h18 => ?_
  repeat (refine gO ?_; intros)
  rename_i p19 H20 h20
  refine viewAlloc_ok (vals := [1]) hc h20 pp pp (Has.own3 (l := [1])) (by simp) (by omega) (by show 0 < _; omega) fun H22 h22 => ?_
  rw [room13]
  repeat (refine gO ?_; intros)
  have hM : (mem0 4096).alloc (Int.negSucc 0) [1] = mem13 := rfl
  rw [hM] at h22
  refine annMake_ok (n := n) hc h22 pp pp (by omega) (by have := mem13_tr; omega) fun nn' H26 _ h26 => ?_
  have e : mkSlots 1 n most mem13 (Int.negSucc 0) = slots13 n most := rfl
  rw [e] at h26
  rw [e]
  generalize slots13 n most = s at *
  obtain ⟨⟨cam, first, count, ms⟩, er, M⟩ := s
  repeat (refine gO ?_; intros)
  refine stN (by assumption) (Nat.le_of_ble_eq_true rfl) rfl fun H38 h38 => ?_
  repeat (refine gO ?_; intros)
  refine stN (by assumption) (Nat.le_of_ble_eq_true rfl) rfl fun H44 h44 => ?_
  repeat (refine gO ?_; intros)
  exact k m _ (h44.ent ee)
theorem l13right_ok (hc : Con con lives) {n : Int} {most : Nat} {v w : Value} {L : List HP} {H : CH} {K : KP} (hs : Sat L H)
    (k : ∀ H1, Sat L H1 → K (.bool (right13 n most)) H1) : Call1 Tryz.prog con 33 [.agg ⟨[i64 n, u64 most, v, w]⟩] H K := by
  refine call_of (hc _ _ _ rfl) ?_
  rw [l13right_W]
  refine na fun p1 H2 h2 => ?_
  repeat (refine gO ?_; intros)
  have kk := k _ (h2.ent ee)
  cases n with
  | negSucc z =>
    exact Cd.f (leZ_on 1 z) kk
  | ofNat c =>
    unfold right13 at kk
    simp only at kk
    by_cases h1 : 1 ≤ c
    · refine Cd.t (leZ_t h1) ?_
      rw [decide_eq_true h1, Bool.true_and] at kk
      repeat (refine gO ?_; intros)
      by_cases h3 : c ≤ 256
      · refine Cd.t (leZ_t h3) ?_
        rw [decide_eq_true h3, Bool.true_and] at kk
        repeat (refine gO ?_; intros)
        by_cases h4 : 1 ≤ most
        · refine Cd.t (leN_t h4) ?_
          rw [decide_eq_true h4, Bool.true_and] at kk
          repeat (refine gO ?_; intros)
          by_cases h5 : most ≤ 1099511627776
          · rw [leN_t h5]
            rw [decide_eq_true h5] at kk
            exact kk
          · rw [leN_f (by omega)]
            rw [decide_eq_false h5] at kk
            exact kk
        · refine Cd.f (leN_f (by omega)) ?_
          rw [decide_eq_false h4, Bool.false_and] at kk
          exact kk
      · refine Cd.f (leZ_f (by omega)) ?_
        rw [decide_eq_false h3, Bool.false_and] at kk
        exact kk
    · refine Cd.f (leZ_f (by omega)) ?_
      rw [decide_eq_false h1, Bool.false_and] at kk
      exact kk
end Go.Proofs.YtipbbnoepphdkaaGreat

set_option linter.unusedVariables false
set_option linter.unusedSimpArgs false
namespace Go.Proofs.YtipbbnoepphdkaaGreat
open Go Go.CM
attribute [local irreducible] AsBool AsWant AsNat AsInt AsCnt AsPtr AsSlc AsLen AsStr AsAgg AsTup AsFn AsIfc Nth Sc NotNil IsNil Must Cd codeW funW Sat SatL wrapN subM mkRow ltZ leZ ltN leN
variable {con : CallT}
structure Pr13 where
  vo : Value
  vn : Value
def NowR (vn : Value) (now : Option P13) : HP := fun h => match now with | none => vn = nilP | some s => ∃ p, vn = ptr p 0 ∧ RAt13 p s h
def ThR (pool : Pool) (ph : Pr13) (th : Th13) : HP := fun h => ∃ rows, Rows2 (RowT pool) th.told rows ∧ SatL [Vec ph.vo 76 6 rows, NowR ph.vn th.now] h
theorem ThR.mono {pool pool' : Pool} (hp : ∀ x ∈ pool, x ∈ pool') {ph : Pr13} {th : Th13} (g : PH) (a : ThR pool ph th g) : ThR pool' ph th g := by
  obtain ⟨rows, h1, h2⟩ := a
  exact ⟨rows, h1.mono fun x r => RowT.mono hp x r, h2⟩
theorem thr_put {k : Nat} {pool pool' : Pool} (hp : ∀ x ∈ pool, x ∈ pool') {phs : List Pr13} {ths : List Th13} {ph : Pr13} {th : Th13} {L : List HP} {H : CH} (h1 : k < phs.length) (h2 : k < ths.length)
    (hs : Sat (ThR pool' ph th :: SatL ((List.zipWith (ThR pool) phs ths).set k Emp) :: L) H) : Sat (SatL (List.zipWith (ThR pool') (phs.set k ph) (ths.set k th)) :: L) H := by
  have h3 := Sat.putAll (i := k) (by simp; omega) hs
  refine h3.impAll (by simp) fun i A B e1 e2 g a => ?_
  rw [List.getElem?_set] at e1
  rw [List.getElem?_zipWith, List.getElem?_set, List.getElem?_set] at e2
  by_cases hi : k = i
  · subst hi
    rw [if_pos rfl, if_pos (by simp; omega)] at e1
    rw [if_pos rfl, if_pos rfl, if_pos h1, if_pos h2] at e2
    cases e1
    cases e2
    exact a
  · rw [if_neg hi, List.getElem?_zipWith] at e1
    rw [if_neg hi, if_neg hi] at e2
    cases e3 : phs[i]? with
    | none => rw [e3] at e1; cases e1
    | some ph' =>
      cases e4 : ths[i]? with
      | none => rw [e3, e4] at e1; cases e1
      | some th' =>
        rw [e3, e4] at e1 e2
        cases e1
        cases e2
        exact ThR.mono hp g a
theorem rrun13_put0 {m k bo bn eo en p1 a : Nat} {M2 : Mem} {vo vn' xv xw : Value} {sl : SlotsS} {calls : List (List C13)} {picks : List Int} {pool : Pool} {phs : List Pr13} {ths : List Th13} {rows' : List (List Value)} {told' : List (T13 × Bool)} {now' : Option P13} {R : List HP} {H : CH}
    (h1 : k < phs.length) (h2 : k < ths.length) (hrw : Rows2 (RowT pool) told' rows')
    (hs : Sat (Vec vo 76 6 rows' :: NowR vn' now' :: SatL ((List.zipWith (ThR pool) phs ths).set k Emp) :: RefP m M2 :: Row bo eo 0 true ((phs.map Pr13.vo).set k vo) :: Row bn en 0 true ((phs.map Pr13.vn).set k vn') :: SatL (poolL pool) :: Own p1 [u64 sl.cam, u64 sl.first, i64 sl.count, u64 sl.most] :: Thr13 xv calls :: IntsR xw picks :: R) H) :
    Sat (RefP m M2 :: Row bo eo 0 true ((phs.set k ⟨vo, vn'⟩).map Pr13.vo) :: Row bn en 0 true ((phs.set k ⟨vo, vn'⟩).map Pr13.vn) :: SatL (List.zipWith (ThR pool) (phs.set k ⟨vo, vn'⟩) (ths.set k ⟨told', now', a⟩)) :: SatL (poolL pool) :: Own p1 [u64 sl.cam, u64 sl.first, i64 sl.count, u64 sl.most] :: Thr13 xv calls :: IntsR xw picks :: R) H := by
  rw [List.map_set, List.map_set]
  have h3 : Sat ([Vec vo 76 6 rows', NowR vn' now'] ++ (SatL ((List.zipWith (ThR pool) phs ths).set k Emp) :: RefP m M2 :: Row bo eo 0 true ((phs.map Pr13.vo).set k vo) :: Row bn en 0 true ((phs.map Pr13.vn).set k vn') :: SatL (poolL pool) :: Own p1 [u64 sl.cam, u64 sl.first, i64 sl.count, u64 sl.most] :: Thr13 xv calls :: IntsR xw picks :: R)) H := hs.ent ee
  have h4 := h3.close (A := ThR pool ⟨vo, vn'⟩ ⟨told', now', a⟩) fun g b => ⟨rows', hrw, b⟩
  have h5 := thr_put (fun x hx => hx) h1 h2 h4
  exact h5.ent ee
theorem rrun13_put {m k bo bn eo en p1 a : Nat} {M2 : Mem} {vo vn' w xv xw : Value} {nd : List Nat} {sl : SlotsS} {calls : List (List C13)} {picks : List Int} {pool : Pool} {phs : List Pr13} {ths : List Th13} {rows' : List (List Value)} {told' : List (T13 × Bool)} {now' : Option P13} {R : List HP} {H : CH}
    (h1 : k < phs.length) (h2 : k < ths.length) (hrw : Rows2 (RowT ((w, nd) :: pool)) told' rows')
    (hs : Sat (Vec vo 76 6 rows' :: NowR vn' now' :: Nums w nd :: SatL ((List.zipWith (ThR pool) phs ths).set k Emp) :: RefP m M2 :: Row bo eo 0 true ((phs.map Pr13.vo).set k vo) :: Row bn en 0 true ((phs.map Pr13.vn).set k vn') :: SatL (poolL pool) :: Own p1 [u64 sl.cam, u64 sl.first, i64 sl.count, u64 sl.most] :: Thr13 xv calls :: IntsR xw picks :: R) H) :
    Sat (RefP m M2 :: Row bo eo 0 true ((phs.set k ⟨vo, vn'⟩).map Pr13.vo) :: Row bn en 0 true ((phs.set k ⟨vo, vn'⟩).map Pr13.vn) :: SatL (List.zipWith (ThR ((w, nd) :: pool)) (phs.set k ⟨vo, vn'⟩) (ths.set k ⟨told', now', a⟩)) :: SatL (poolL ((w, nd) :: pool)) :: Own p1 [u64 sl.cam, u64 sl.first, i64 sl.count, u64 sl.most] :: Thr13 xv calls :: IntsR xw picks :: R) H := by
  rw [List.map_set, List.map_set]
  have h3 : Sat ([Vec vo 76 6 rows', NowR vn' now'] ++ (SatL ((List.zipWith (ThR pool) phs ths).set k Emp) :: Nums w nd :: RefP m M2 :: Row bo eo 0 true ((phs.map Pr13.vo).set k vo) :: Row bn en 0 true ((phs.map Pr13.vn).set k vn') :: SatL (poolL pool) :: Own p1 [u64 sl.cam, u64 sl.first, i64 sl.count, u64 sl.most] :: Thr13 xv calls :: IntsR xw picks :: R)) H := hs.ent ee
  have h4 := h3.close (A := ThR ((w, nd) :: pool) ⟨vo, vn'⟩ ⟨told', now', a⟩) fun g b => ⟨rows', hrw, b⟩
  have h5 := thr_put (fun x hx => List.mem_cons_of_mem _ hx) h1 h2 h4
  have h6 : Sat ([Nums w nd, SatL (poolL pool)] ++ (SatL (List.zipWith (ThR ((w, nd) :: pool)) (phs.set k ⟨vo, vn'⟩) (ths.set k ⟨told', now', a⟩)) :: RefP m M2 :: Row bo eo 0 true ((phs.map Pr13.vo).set k vo) :: Row bn en 0 true ((phs.map Pr13.vn).set k vn') :: Own p1 [u64 sl.cam, u64 sl.first, i64 sl.count, u64 sl.most] :: Thr13 xv calls :: IntsR xw picks :: R)) H := h5.ent ee
  have h7 := h6.close (A := SatL (poolL ((w, nd) :: pool))) fun g b => satL_cons b
  exact h7.ent ee
set_option maxRecDepth 100000 in
theorem rrun13_pick (hc : Con con lives) {sl : SlotsS} {calls : List (List C13)} (hc64 : Calls64 calls) {g : R13} (W : WF13 calls g) {R : List HP} {H : CH} {m bo bn eo en p1 j n : Nat} {xv xw : Value} {t : Int} {picks : List Int} {phs : List Pr13} {pool : Pool} {σ : TF} {Q : KX}
    (hn : n = calls.length) (hl1 : calls.length ≤ 1048576) (hl2 : ∀ cs ∈ calls, cs.length ≤ 1048576) (hpl : phs.length = n) (hj : j < picks.length) (hpc : picks.length ≤ 1048576) (et : picks[j]? = some t) (htr' : g.M.tr.length ≤ 10 + j)
    (hp0 : (snil, []) ∈ pool)
    (hs : Sat (RefP m g.M :: Row bo eo 0 true (phs.map Pr13.vo) :: Row bn en 0 true (phs.map Pr13.vn) :: SatL (List.zipWith (ThR pool) phs g.ths) :: SatL (poolL pool) :: Own p1 [u64 sl.cam, u64 sl.first, i64 sl.count, u64 sl.most] :: Thr13 xv calls :: IntsR xw picks :: R) H)
    (a0 : σ 0 = ptr m 0) (a2 : σ 2 = xv) (a3 : σ 3 = xw) (a5 : σ 5 = ptr p1 0) (a9 : σ 9 = slc bo 0 n n) (a10 : σ 10 = slc bn 0 n n) (a11 : σ 11 = iN j)
    (kk : ∀ σ1 H1 phs' pool', σ1 0 = ptr m 0 → σ1 2 = xv → σ1 3 = xw → σ1 5 = ptr p1 0 → σ1 9 = slc bo 0 n n → σ1 10 = slc bn 0 n n → σ1 11 = iN (j + 1) → phs'.length = n → (snil, []) ∈ pool' →
      ∀
      (h1 : Sat (RefP m (g.pick sl calls j t).M :: Row bo eo 0 true (phs'.map Pr13.vo) :: Row bn en 0 true (phs'.map Pr13.vn) :: SatL (List.zipWith (ThR pool') phs' (g.pick sl calls j t).ths) :: SatL (poolL pool') :: Own p1 [u64 sl.cam, u64 sl.first, i64 sl.count, u64 sl.most] :: Thr13 xv calls :: IntsR xw picks :: R) H1)
      , Q .normal σ1 H1) :
    codeW (lpAt Tryz.prog 36 0) Tryz.prog con σ H Q := by
  rw [rRun13L_W]
  rw [a0, a5, a9, a10, a11]
  obtain ⟨bw, cw, csw, exw, _, ecw, hldw⟩ := rows_at hs (Has.skip (Has.skip (Has.skip (Has.skip (Has.skip (Has.skip (Has.skip has_ints))))))) et
  obtain ⟨pxv, cxv, exv⟩ := (hs.has (Has.skip (Has.skip (Has.skip (Has.skip (Has.skip (Has.skip has_thr))))))).len
  have htr : g.M.tr.length < 1000000000 := by omega
  have idle : ∀ (σ1 : TF), g.pick sl calls j t = g → σ1 0 = ptr m 0 → σ1 2 = xv → σ1 3 = xw → σ1 5 = ptr p1 0 → σ1 9 = slc bo 0 n n → σ1 10 = slc bn 0 n n → σ1 11 = iN (j + 1) → Q .normal σ1 H := fun σ1 hp b0 b2 b3 b5 b9 b10 b11 => by
    rw [hp] at kk
    exact kk σ1 H phs pool b0 b2 b3 b5 b9 b10 b11 hpl hp0 hs
  refine AsLen.eq (a3.trans exw) ?_
  repeat (refine gO ?_; intros)
  refine Cd.t (ltZ_t hj) ?_
  refine AsSlc.eq (a3.trans exw) ?_
  repeat (refine gO ?_; intros)
  refine Must.mk (ltN_t hj) ?_
  refine hldw _ 0 _ _ (by show 0 + j * 1 = _; omega) (by rw [ecw]; rfl) ?_
  repeat (refine gO ?_; intros)
  cases t with
  | negSucc z =>
    refine Cd.t ltZ_neg ?_
    repeat (refine gO ?_; intros)
    try rw [addInt]
    refine inR_nat (by omega) ?_
    repeat (refine gO ?_; intros)
    exact idle _ rfl a0 a2 a3 a5 a9 a10 rfl
  | ofNat k =>
    refine Cd.f (ltZ_f (Nat.zero_le _)) ?_
    refine AsLen.eq (a2.trans exv) ?_
    repeat (refine gO ?_; intros)
    by_cases hk : k < calls.length
    · refine Cd.f (leZ_f hk) ?_
      obtain ⟨cs, ecs⟩ : ∃ x, calls[k]? = some x := ⟨_, List.getElem?_eq_getElem hk⟩
      obtain ⟨th, eth⟩ : ∃ x, g.ths[k]? = some x := ⟨_, List.getElem?_eq_getElem (by have := W.len; omega)⟩
      obtain ⟨ph, hph⟩ : ∃ x, phs[k]? = some x := ⟨_, List.getElem?_eq_getElem (by omega)⟩
      obtain ⟨q1, q2, q3⟩ := W.th k cs th ecs eth
      have hcs := hl2 cs (List.mem_of_getElem? ecs)
      have hthl := W.len
      have hkn : k < n := by omega
      have hgt : (List.zipWith (ThR pool) phs g.ths)[k]? = some (ThR pool ph th) := zip_get' _ hph eth
      have hvo0 : (phs.map Pr13.vo)[k]? = some ph.vo := by rw [List.getElem?_map, hph]; rfl
      have hvn0 : (phs.map Pr13.vn)[k]? = some ph.vn := by rw [List.getElem?_map, hph]; rfl
      have hs1 : Sat (SatL (List.zipWith (ThR pool) phs g.ths) :: _) H := hs.pull pp
      have hs2 := hs1.pull (pull_all Pull.here hgt)
      obtain ⟨u1, u2, v1, v2, dd, ⟨rows, hrw, hin⟩, hRR⟩ := hs2.opens Pull.here
      have hs3 := Sat.merge v1 v2 dd hin hRR
      simp only [List.cons_append, List.nil_append] at hs3
      clear hs1 hs2
      obtain ⟨pvo, evo⟩ := (hs3.has Has.vec).shape
      rw [hrw.1] at evo
      repeat (refine gO ?_; intros)
      refine Must.mk (ltN_t hkn) (ldRow hs3 (off1 k) hvn0 ?_)
      cases hnow : th.now with
      | some s =>
        rw [hnow] at hs3
        obtain ⟨s1, s2', s3, s4⟩ := q3 s hnow
        have hs4 : Sat (NowR ph.vn (some s) :: _) H := hs3.pull pp
        obtain ⟨u1, u2, v1, v2, dd, ⟨p, evn, hin⟩, hRR⟩ := hs4.opens Pull.here
        have hs5 := Sat.merge (L1 := [RAt13 p s]) v1 v2 dd (SatL.one hin) hRR
        simp only [List.cons_append, List.nil_append] at hs5
        rw [evn]
        repeat (refine gO ?_; intros)
        have hpos : 0 < th.told.length := List.length_pos_iff.2 s3
        have hsA : Sat (Vec ph.vo 76 6 rows :: RAt13 p s :: SatL ((List.zipWith (ThR pool) phs g.ths).set k Emp) :: RefP m g.M :: Row bo eo 0 true ((phs.map Pr13.vo).set k ph.vo) :: Row bn en 0 true ((phs.map Pr13.vn).set k (ptr p 0)) :: SatL (poolL pool) :: Own p1 [u64 sl.cam, u64 sl.first, i64 sl.count, u64 sl.most] :: Thr13 xv calls :: IntsR xw picks :: R) H := by
          rw [set_self hvo0, set_self (show (phs.map Pr13.vn)[k]? = some (ptr p 0) by rw [hvn0, evn])]
          exact hs5.ent ee
        clear hs3 hs4 hs5
        have hp : g.pick sl calls j (Int.ofNat k) = g.go j k s th.told th.at_ g.all := by simp only [R13.pick, ecs, eth, hnow]
        rw [hp] at kk
        simp only [R13.go] at kk
        obtain ⟨vo, evo'⟩ : ∃ vo, vo = ph.vo := ⟨_, rfl⟩
        rw [← evo'] at hsA
        have hvo : ((phs.map Pr13.vo).set k vo)[k]? = some vo := List.getElem?_set_self (by simp; omega)
        have hvn : ((phs.map Pr13.vn).set k (ptr p 0))[k]? = some (ptr p 0) := List.getElem?_set_self (by simp; omega)
        refine Must.mk (ltN_t hkn) (ldRow hsA (off1 k) hvn ?_)
        have hx := p13_step s g.M (Int.ofNat k) s1 s2'
        refine r13step_ok hc s hsA pp pp htr W.fine.bd s1 s2' fun H2 h2 => ?_
        generalize (s.step g.M (Int.ofNat k)).1 = s2 at *
        generalize (s.step g.M (Int.ofNat k)).2 = M2 at *
        obtain ⟨x1, x2, x3⟩ := hx
        have hnd := p13_need x2
        obtain ⟨u1, u2, v1, v2, dd, ⟨w, v, hin2⟩, hRR2⟩ := h2.opens Pull.here
        have h3 := Sat.merge v1 v2 dd hin2 hRR2
        simp only [List.cons_append, List.nil_append] at h3
        clear h2 hin2 hRR2
        have h3w : Sat (Vec w tU 1 (rowsU s2.sc.need) :: _) H2 := h3.pull pp
        obtain ⟨pw, ew⟩ := (h3w.has Has.vec).shape
        subst ew
        repeat (refine gO ?_; intros)
        refine Must.mk (ltN_t hkn) (ldRow h3 (off1 k) hvo ?_)
        repeat (refine gO ?_; intros)
        refine Must.mk (ltN_t hkn) (ldRow h3 (off1 k) hvo ?_)
        obtain ⟨r0, hr0, w0, _, er0, _⟩ := (hrw).at (i := th.told.length - 1) (List.getElem?_eq_getElem (by omega))
        have h3o : Sat (Vec vo 76 6 rows :: _) H2 := h3.pull pp
        obtain ⟨b2, evo, _⟩ := (h3o.has Has.vec).slot hr0
        have hle14 : (rows).length = th.told.length := hrw.1
        rw [hle14] at evo
        subst evo
        repeat (refine gO ?_; intros)
        rw [subInt (show 1 ≤ th.told.length by omega)]
        refine inR_nat (by omega) ?_
        repeat (refine gO ?_; intros)
        refine Must.mk (ltN_t hkn) (ldRow h3 (off1 k) hvn ?_)
        repeat (refine gO ?_; intros)
        refine Must.mk (ltN_t (by omega)) ?_
        refine stVecN h3 pp hr0 (j := 0) (by show 0 + (th.told.length - 1) * 6 = _; omega) (by show 0 + 6 ≤ 6; omega) rfl fun H4 h4 => ?_
        rw [show ovw [u64 s2.told.h, u64 s2.told.st, iN s2.told.er, u64 s2.told.fl, Value.slice pw (rowsU s2.sc.need).length (rowsU s2.sc.need).length, Value.bool s2.fin] r0 0 = tRow (s2.told, s2.fin) (.slice pw (rowsU s2.sc.need).length (rowsU s2.sc.need).length) from by rw [er0]; rfl] at h4
        repeat (refine gO ?_; intros)
        cases hbf : s2.fin with
        | true =>
          rw [hbf] at h4 kk
          simp only [if_true] at kk
          refine Cd.t rfl ?_
          repeat (refine gO ?_; intros)
          refine Must.mk (ltN_t hkn) (st h4 (by rw [off1]; simp; omega) rfl fun H7 h7 => ?_)
          rw [off1, List.set_set] at h7
          repeat (refine gO ?_; intros)
          try rw [addInt]
          refine inR_nat (by omega) ?_
          repeat (refine gO ?_; intros)
          have hrw' := ((hrw).mono (RowT.mono (pool' := (.slice pw (rowsU s2.sc.need).length (rowsU s2.sc.need).length, s2.told.need) :: pool) fun x hx => List.mem_cons_of_mem _ hx)).set (th.told.length - 1) (x := (s2.told, true)) (r := tRow (s2.told, true) (.slice pw (rowsU s2.sc.need).length (rowsU s2.sc.need).length)) ⟨_, rfl, rfl, List.mem_cons_self ..⟩
          refine kk _ H7 (phs.set k ⟨slc b2 0 th.told.length th.told.length, nilP⟩) ((.slice pw (rowsU s2.sc.need).length (rowsU s2.sc.need).length, s2.told.need) :: pool) a0 a2 a3 a5 a9 a10 rfl (by simp [hpl]) (List.mem_cons_of_mem _ hp0) ?_
          have h8 : Sat (NowR nilP none :: _) H7 := h7.triv fun _ => rfl
          have h9 : Sat (Vec (.slice pw (rowsU s2.sc.need).length (rowsU s2.sc.need).length) tU 1 (rowsU s2.sc.need) :: _) H7 := h8.pull pp
          have h10 : Sat (Nums (.slice pw (rowsU s2.sc.need).length (rowsU s2.sc.need).length) s2.told.need :: _) H7 := h9.imp fun g a => by rw [hnd]; exact a.nums
          exact rrun13_put (by omega) (by omega) hrw' (h10.ent ee)
        | false =>
          rw [hbf] at h4 kk
          simp only [Bool.false_eq_true, if_false] at kk
          refine Cd.f rfl ?_
          repeat (refine gO ?_; intros)
          try rw [addInt]
          refine inR_nat (by omega) ?_
          repeat (refine gO ?_; intros)
          have hn0 : s2.sc.need = [] := by
            cases h2' : s2.isN with
            | false => exact x2.no h2'
            | true =>
              have hS : s2.isS = false := by
                cases e : s2.isS with
                | false => rfl
                | true => rw [p13_not e] at h2'; cases h2'
              exact (x2.sc h2').2 (eqZ_ne ((p13_finN hS h2').symm.trans hbf))
          have hsn := vec_nil (x := .slice pw (rowsU s2.sc.need).length (rowsU s2.sc.need).length) (e := tU) (s := 1) (h := dom H2) (by have := h3w.has Has.vec; rw [hn0] at this ⊢; exact this)
          have hrw' := (hrw).set (th.told.length - 1) (x := (s2.told, false)) (r := tRow (s2.told, false) (.slice pw (rowsU s2.sc.need).length (rowsU s2.sc.need).length)) ⟨_, rfl, rfl, by rw [hnd, hn0]; rw [hn0] at hsn; rw [hsn]; exact hp0⟩
          refine kk _ H4 (phs.set k ⟨slc b2 0 th.told.length th.told.length, ptr p 0⟩) pool a0 a2 a3 a5 a9 a10 rfl (by simp [hpl]) hp0 ?_
          have h5 : Sat ([Own p (d13 s2.kind s2.sn s2.lt s2.sc (.slice pw (rowsU s2.sc.need).length (rowsU s2.sc.need).length) v (t13 (u64 s2.told.h) (u64 s2.told.st) (iN s2.told.er) (u64 s2.told.fl) (.slice pw (rowsU s2.sc.need).length (rowsU s2.sc.need).length) (.bool false))), Vec (.slice pw (rowsU s2.sc.need).length (rowsU s2.sc.need).length) tU 1 (rowsU s2.sc.need), Vec v tU 1 (rowsU s2.sc.told)] ++ (Vec (slc b2 0 th.told.length th.told.length) 76 6 ((rows).set (th.told.length - 1) (tRow (s2.told, false) (.slice pw (rowsU s2.sc.need).length (rowsU s2.sc.need).length))) :: SatL ((List.zipWith (ThR pool) phs g.ths).set k Emp) :: RefP m M2 :: Row bo eo 0 true ((phs.map Pr13.vo).set k (slc b2 0 th.told.length th.told.length)) :: Row bn en 0 true ((phs.map Pr13.vn).set k (ptr p 0)) :: SatL (poolL pool) :: Own p1 [u64 sl.cam, u64 sl.first, i64 sl.count, u64 sl.most] :: Thr13 xv calls :: IntsR xw picks :: R)) H4 := h4.ent ee
          have h6 := h5.close (A := NowR (ptr p 0) (some s2)) fun g a => ⟨p, rfl, _, v, by rw [hbf]; exact a⟩
          exact rrun13_put0 (by omega) (by omega) hrw' (h6.ent ee)
      | none =>
        rw [hnow] at hs3
        have hs4 : Sat (NowR ph.vn none :: _) H := hs3.pull pp
        obtain ⟨u1, u2, v1, v2, dd, evn, hRR⟩ := hs4.opens Pull.here
        have hs5 := hs4.drop
        have evn : ph.vn = nilP := evn
        rw [evn]
        repeat (refine gO ?_; intros)
        refine Must.mk (ltN_t hkn) (ldRow hs5 (off1 k) hvo0 ?_)
        refine AsLen.eq evo ?_
        obtain ⟨bx, cx, csx, exv', _, ⟨xvi, ecx, hcl⟩, hldx⟩ := rows_at hs5 (Has.skip (Has.skip (Has.skip (Has.skip (Has.skip (Has.skip (Has.skip has_thr))))))) ecs
        refine AsSlc.eq (a2.trans exv') ?_
        repeat (refine gO ?_; intros)
        refine Must.mk (ltN_t hk) (hldx _ 0 _ _ (by show 0 + k * 1 = _; omega) (by rw [ecx]; rfl) ?_)
        obtain ⟨pi, ci, exi⟩ := RowsR.len hcl
        refine AsLen.eq exi ?_
        by_cases hlt : th.told.length < cs.length
        · refine Cd.f (leZ_f hlt) ?_
          obtain ⟨c, ec⟩ : ∃ x, cs[th.told.length]? = some x := ⟨_, List.getElem?_eq_getElem hlt⟩
          obtain ⟨f1, f2, f3⟩ := wf_fresh hc64 W ecs eth ec sl
          obtain ⟨bi, ci', cc, exi', _, ecc, hldc⟩ := rows_at' hcl ec
          have hp : g.pick sl calls j (Int.ofNat k) = g.go j k (P13.fresh sl c.kind (bh c.kind c.h (th.told.map fun x => x.1.h))) (th.told ++ [(z13T, false)]) g.all.length (g.all ++ [⟨(z13T, false), j, Int.negSucc 0, k, c⟩]) := by simp only [R13.pick, ecs, eth, hnow, ec]
          rw [hp] at kk
          simp only [R13.go] at kk
          rw [show (th.told ++ [(z13T, false)]).length - 1 = th.told.length + 1 - 1 by simp] at kk
          repeat (refine gO ?_; intros)
          refine AsSlc.eq (a2.trans exv') ?_
          repeat (refine gO ?_; intros)
          refine Must.mk (ltN_t hk) (hldx _ 0 _ _ (by show 0 + k * 1 = _; omega) (by rw [ecx]; rfl) ?_)
          repeat (refine gO ?_; intros)
          refine Must.mk (ltN_t hkn) (ldRow hs5 (off1 k) hvo0 ?_)
          refine AsLen.eq evo ?_
          refine AsSlc.eq exi' ?_
          refine Must.mk (ltN_t hlt) ?_
          refine hldc _ 0 _ _ (by show 0 + th.told.length * 2 + 0 = _; omega) (by rw [ecc]; rfl) ?_
          refine hldc _ 1 _ _ (by show 0 + th.told.length * 2 + 1 = _; omega) (by rw [ecc]; rfl) ?_
          repeat (refine gO ?_; intros)
          refine Must.mk (ltN_t hkn) (ldRow hs5 (off1 k) hvo0 ?_)
          have hhd : ∀ (i : Nat) row x, rows[i]? = some row → (th.told.map fun x => x.1.h)[i]? = some x → row[0]? = some (u64 x) := fun i row x h1 h2 => by
            rw [List.getElem?_map] at h2
            cases e : th.told[i]? with
            | none => rw [e] at h2; cases h2
            | some y =>
              rw [e] at h2
              cases h2
              obtain ⟨w, _, rfl, _⟩ := hrw.2 i y row e h1
              rfl
          refine rbegin13_ok hc sl hs5 Has.vec (by have := hrw.1; omega) (by simp [hrw.1]) hhd fun p H76 h76 => ?_
          generalize hsf : P13.fresh sl c.kind (bh c.kind c.h (th.told.map fun x => x.1.h)) = s at *
          repeat (refine gO ?_; intros)
          refine Must.mk (ltN_t hkn) ?_
          repeat (refine gO ?_; intros)
          refine st h76 (by rw [off1]; simp; omega) rfl fun H82 h82 => ?_
          rw [off1] at h82
          repeat (refine gO ?_; intros)
          refine Must.mk (ltN_t hkn) (ldRow h82 (off1 k) hvo0 ?_)
          repeat (refine gO ?_; intros)
          rename_i p89 H90 h90
          refine app_vec (new := [tRow (z13T, false) snil]) h90 pp el_told (by omega) sl_told (Src.cell (n := 6) (by rfl)) rfl (by simp [tRow]) (by have := hrw.1; simp; omega) rfl fun v91 H92 h92 => ?_
          have hrw2 := hrw.snoc (x := (z13T, false)) (r := tRow (z13T, false) snil) ⟨snil, rfl, rfl, hp0⟩
          obtain ⟨pv9, ev9⟩ := (h92.has Has.vec).shape
          subst ev9
          repeat (refine gO ?_; intros)
          refine Must.mk (ltN_t hkn) ?_
          repeat (refine gO ?_; intros)
          refine st h92 (by rw [off1]; simp; omega) rfl fun H98 h98 => ?_
          rw [off1] at h98
          repeat (refine gO ?_; intros)
          generalize hv91 : Value.slice pv9 _ _ = v91 at *
          have hsA : Sat (Vec v91 76 6 (rows ++ [tRow (z13T, false) snil]) :: RAt13 p s :: SatL ((List.zipWith (ThR pool) phs g.ths).set k Emp) :: RefP m g.M :: Row bo eo 0 true ((phs.map Pr13.vo).set k v91) :: Row bn en 0 true ((phs.map Pr13.vn).set k (ptr p 0)) :: SatL (poolL pool) :: Own p1 [u64 sl.cam, u64 sl.first, i64 sl.count, u64 sl.most] :: Thr13 xv calls :: IntsR xw picks :: R) H98 := h98.ent ee
          clear hs3 hs4 hs5 h76 h82 h90 h92
          obtain ⟨vo, evo'⟩ : ∃ vo, vo = v91 := ⟨_, rfl⟩
          rw [← evo'] at hsA
          have hvo : ((phs.map Pr13.vo).set k vo)[k]? = some vo := List.getElem?_set_self (by simp; omega)
          have hvn : ((phs.map Pr13.vn).set k (ptr p 0))[k]? = some (ptr p 0) := List.getElem?_set_self (by simp; omega)
          refine Must.mk (ltN_t hkn) (ldRow hsA (off1 k) hvn ?_)
          have hx := p13_step s g.M (Int.ofNat k) f1 f2
          refine r13step_ok hc s hsA pp pp htr W.fine.bd f1 f2 fun H2 h2 => ?_
          generalize (s.step g.M (Int.ofNat k)).1 = s2 at *
          generalize (s.step g.M (Int.ofNat k)).2 = M2 at *
          obtain ⟨x1, x2, x3⟩ := hx
          have hnd := p13_need x2
          obtain ⟨u1, u2, v1, v2, dd, ⟨w, v, hin2⟩, hRR2⟩ := h2.opens Pull.here
          have h3 := Sat.merge v1 v2 dd hin2 hRR2
          simp only [List.cons_append, List.nil_append] at h3
          clear h2 hin2 hRR2
          have h3w : Sat (Vec w tU 1 (rowsU s2.sc.need) :: _) H2 := h3.pull pp
          obtain ⟨pw, ew⟩ := (h3w.has Has.vec).shape
          subst ew
          repeat (refine gO ?_; intros)
          refine Must.mk (ltN_t hkn) (ldRow h3 (off1 k) hvo ?_)
          repeat (refine gO ?_; intros)
          refine Must.mk (ltN_t hkn) (ldRow h3 (off1 k) hvo ?_)
          obtain ⟨r0, hr0, w0, _, er0, _⟩ := (hrw2).at (i := (th.told.length + 1) - 1) (List.getElem?_eq_getElem (by simp))
          have h3o : Sat (Vec vo 76 6 (rows ++ [tRow (z13T, false) snil]) :: _) H2 := h3.pull pp
          obtain ⟨b2, evo, _⟩ := (h3o.has Has.vec).slot hr0
          have hle14 : ((rows ++ [tRow (z13T, false) snil])).length = (th.told.length + 1) := (by simp [hrw.1])
          rw [hle14] at evo
          subst evo
          repeat (refine gO ?_; intros)
          rw [subInt (show 1 ≤ (th.told.length + 1) by omega)]
          refine inR_nat (by omega) ?_
          repeat (refine gO ?_; intros)
          refine Must.mk (ltN_t hkn) (ldRow h3 (off1 k) hvn ?_)
          repeat (refine gO ?_; intros)
          refine Must.mk (ltN_t (by omega)) ?_
          refine stVecN h3 pp hr0 (j := 0) (by show 0 + ((th.told.length + 1) - 1) * 6 = _; omega) (by show 0 + 6 ≤ 6; omega) rfl fun H4 h4 => ?_
          rw [show ovw [u64 s2.told.h, u64 s2.told.st, iN s2.told.er, u64 s2.told.fl, Value.slice pw (rowsU s2.sc.need).length (rowsU s2.sc.need).length, Value.bool s2.fin] r0 0 = tRow (s2.told, s2.fin) (.slice pw (rowsU s2.sc.need).length (rowsU s2.sc.need).length) from by rw [er0]; rfl] at h4
          repeat (refine gO ?_; intros)
          cases hbf : s2.fin with
          | true =>
            rw [hbf] at h4 kk
            simp only [if_true] at kk
            refine Cd.t rfl ?_
            repeat (refine gO ?_; intros)
            refine Must.mk (ltN_t hkn) (st h4 (by rw [off1]; simp; omega) rfl fun H7 h7 => ?_)
            rw [off1, List.set_set] at h7
            repeat (refine gO ?_; intros)
            try rw [addInt]
            refine inR_nat (by omega) ?_
            repeat (refine gO ?_; intros)
            have hrw' := ((hrw2).mono (RowT.mono (pool' := (.slice pw (rowsU s2.sc.need).length (rowsU s2.sc.need).length, s2.told.need) :: pool) fun x hx => List.mem_cons_of_mem _ hx)).set ((th.told.length + 1) - 1) (x := (s2.told, true)) (r := tRow (s2.told, true) (.slice pw (rowsU s2.sc.need).length (rowsU s2.sc.need).length)) ⟨_, rfl, rfl, List.mem_cons_self ..⟩
            refine kk _ H7 (phs.set k ⟨slc b2 0 (th.told.length + 1) (th.told.length + 1), nilP⟩) ((.slice pw (rowsU s2.sc.need).length (rowsU s2.sc.need).length, s2.told.need) :: pool) a0 a2 a3 a5 a9 a10 rfl (by simp [hpl]) (List.mem_cons_of_mem _ hp0) ?_
            have h8 : Sat (NowR nilP none :: _) H7 := h7.triv fun _ => rfl
            have h9 : Sat (Vec (.slice pw (rowsU s2.sc.need).length (rowsU s2.sc.need).length) tU 1 (rowsU s2.sc.need) :: _) H7 := h8.pull pp
            have h10 : Sat (Nums (.slice pw (rowsU s2.sc.need).length (rowsU s2.sc.need).length) s2.told.need :: _) H7 := h9.imp fun g a => by rw [hnd]; exact a.nums
            exact rrun13_put (by omega) (by omega) hrw' (h10.ent ee)
          | false =>
            rw [hbf] at h4 kk
            simp only [Bool.false_eq_true, if_false] at kk
            refine Cd.f rfl ?_
            repeat (refine gO ?_; intros)
            try rw [addInt]
            refine inR_nat (by omega) ?_
            repeat (refine gO ?_; intros)
            have hn0 : s2.sc.need = [] := by
              cases h2' : s2.isN with
              | false => exact x2.no h2'
              | true =>
                have hS : s2.isS = false := by
                  cases e : s2.isS with
                  | false => rfl
                  | true => rw [p13_not e] at h2'; cases h2'
                exact (x2.sc h2').2 (eqZ_ne ((p13_finN hS h2').symm.trans hbf))
            have hsn := vec_nil (x := .slice pw (rowsU s2.sc.need).length (rowsU s2.sc.need).length) (e := tU) (s := 1) (h := dom H2) (by have := h3w.has Has.vec; rw [hn0] at this ⊢; exact this)
            have hrw' := (hrw2).set ((th.told.length + 1) - 1) (x := (s2.told, false)) (r := tRow (s2.told, false) (.slice pw (rowsU s2.sc.need).length (rowsU s2.sc.need).length)) ⟨_, rfl, rfl, by rw [hnd, hn0]; rw [hn0] at hsn; rw [hsn]; exact hp0⟩
            refine kk _ H4 (phs.set k ⟨slc b2 0 (th.told.length + 1) (th.told.length + 1), ptr p 0⟩) pool a0 a2 a3 a5 a9 a10 rfl (by simp [hpl]) hp0 ?_
            have h5 : Sat ([Own p (d13 s2.kind s2.sn s2.lt s2.sc (.slice pw (rowsU s2.sc.need).length (rowsU s2.sc.need).length) v (t13 (u64 s2.told.h) (u64 s2.told.st) (iN s2.told.er) (u64 s2.told.fl) (.slice pw (rowsU s2.sc.need).length (rowsU s2.sc.need).length) (.bool false))), Vec (.slice pw (rowsU s2.sc.need).length (rowsU s2.sc.need).length) tU 1 (rowsU s2.sc.need), Vec v tU 1 (rowsU s2.sc.told)] ++ (Vec (slc b2 0 (th.told.length + 1) (th.told.length + 1)) 76 6 (((rows ++ [tRow (z13T, false) snil])).set ((th.told.length + 1) - 1) (tRow (s2.told, false) (.slice pw (rowsU s2.sc.need).length (rowsU s2.sc.need).length))) :: SatL ((List.zipWith (ThR pool) phs g.ths).set k Emp) :: RefP m M2 :: Row bo eo 0 true ((phs.map Pr13.vo).set k (slc b2 0 (th.told.length + 1) (th.told.length + 1))) :: Row bn en 0 true ((phs.map Pr13.vn).set k (ptr p 0)) :: SatL (poolL pool) :: Own p1 [u64 sl.cam, u64 sl.first, i64 sl.count, u64 sl.most] :: Thr13 xv calls :: IntsR xw picks :: R)) H4 := h4.ent ee
            have h6 := h5.close (A := NowR (ptr p 0) (some s2)) fun g a => ⟨p, rfl, _, v, by rw [hbf]; exact a⟩
            exact rrun13_put0 (by omega) (by omega) hrw' (h6.ent ee)
        · refine Cd.t (leZ_t (by omega)) ?_
          repeat (refine gO ?_; intros)
          try rw [addInt]
          refine inR_nat (by omega) ?_
          repeat (refine gO ?_; intros)
          refine idle _ ?_ a0 a2 a3 a5 a9 a10 rfl
          simp only [R13.pick, ecs, eth, hnow, List.getElem?_eq_none (show cs.length ≤ th.told.length by omega)]
    · refine Cd.t (leZ_t (by omega)) ?_
      repeat (refine gO ?_; intros)
      try rw [addInt]
      refine inR_nat (by omega) ?_
      repeat (refine gO ?_; intros)
      refine idle _ ?_ a0 a2 a3 a5 a9 a10 rfl
      simp only [R13.pick, List.getElem?_eq_none (show calls.length ≤ k by omega)]
end Go.Proofs.YtipbbnoepphdkaaGreat

set_option linter.unusedVariables false
set_option linter.unusedSimpArgs false
namespace Go.Proofs.YtipbbnoepphdkaaGreat
open Go Go.CM
attribute [local irreducible] AsBool AsWant AsNat AsInt AsCnt AsPtr AsSlc AsLen AsStr AsAgg AsTup AsFn AsIfc Nth Sc NotNil IsNil Must Cd codeW funW Sat SatL wrapN subM mkRow ltZ leZ ltN leN
variable {con : CallT}
theorem el_nowR : elemOk Tryz.prog 211 (elemT 211) 1 8 = true := by kernel_rfl
theorem zero_nowR : (zeroOf Tryz.prog (elemT 211)).map cellsF = some [nilP] := by kernel_rfl
set_option maxRecDepth 100000 in
theorem rrun13_ok (hc : Con con lives) (sl : SlotsS) {calls : List (List C13)} (hc64 : Calls64 calls) {M : Mem} (hf : Fine M) {R : List HP} {H : CH} {m : Nat} {xv xw : Value} {picks : List Int} {K : KP}
    (hl1 : calls.length ≤ 1048576) (hl2 : ∀ cs ∈ calls, cs.length ≤ 1048576) (hpc : picks.length ≤ 1048576) (htr : M.tr.length ≤ 10)
    (hs : Sat (RefP m M :: Thr13 xv calls :: IntsR xw picks :: R) H)
    (k : ∀ bo eo phs pool g H1, g = r13At sl calls picks (g13 M calls) picks.length → phs.length = calls.length →
      Sat (RefP m g.M :: Row bo eo 0 true (phs.map Pr13.vo) :: SatL (List.zipWith (ThR pool) phs g.ths) :: SatL (poolL pool) :: Thr13 xv calls :: IntsR xw picks :: R) H1 → K (slc bo 0 calls.length calls.length) H1) :
    Call1 Tryz.prog con 36 [ptr m 0, .agg ⟨[u64 sl.cam, u64 sl.first, i64 sl.count, u64 sl.most]⟩, xv, xw] H K := by
  refine call_of (hc _ _ _ rfl) ?_
  rw [rRun13_W]
  obtain ⟨pxv, cxv, exv⟩ := (hs.has (Has.skip has_thr)).len
  obtain ⟨pxw, cxw, exw⟩ := (hs.has (Has.skip (Has.skip has_ints))).len
  refine na fun p1 H1 h1 => ?_
  refine AsLen.eq exv ?_
  refine mkS h1 el_out zero_out (Nat.le_refl _) (by omega) (by omega) fun bo H3 h3 => ?_
  refine AsLen.eq exv ?_
  refine mkS h3 el_nowR zero_nowR (Nat.le_refl _) (by omega) (by omega) fun bn H4 h4 => ?_
  rw [rep1, rep1] at h4
  have h5 := (h4.nil).imp (B := SatL (poolL pool0)) fun g a => SatL.one a
  have h6 : Sat (SatL (List.zipWith (ThR pool0) (List.replicate calls.length ⟨snil, nilP⟩) (List.replicate calls.length th0)) :: _) H4 := h5.triv fun g => satL_all fun A hA g' => by
    rw [List.zipWith_replicate'] at hA
    rw [List.eq_of_mem_replicate hA]
    exact ⟨[], Rows2.nil, satL_all fun B hB g'' => by
      rcases List.mem_cons.1 hB with rfl | hB
      · exact Vec.nil g''
      · rw [List.mem_singleton.1 hB]; exact rfl⟩
  rw [show List.replicate calls.length snil = (List.replicate calls.length (⟨snil, nilP⟩ : Pr13)).map Pr13.vo by rw [List.map_replicate], show List.replicate calls.length nilP = (List.replicate calls.length (⟨snil, nilP⟩ : Pr13)).map Pr13.vn by rw [List.map_replicate]] at h6
  refine LoopC.indP (n := 300) (id := 0) (fun σ H => ∃ phs pool, σ 9 = slc bo 0 calls.length calls.length ∧ phs.length = calls.length ∧
      Sat (RefP m (r13At sl calls picks (g13 M calls) picks.length).M :: Row bo (elemT 99) 0 true (phs.map Pr13.vo) :: SatL (List.zipWith (ThR pool) phs (r13At sl calls picks (g13 M calls) picks.length).ths) :: SatL (poolL pool) :: Thr13 xv calls :: IntsR xw picks :: R) H) (by kernel_rfl)
    (fun (j : Nat) σ H => j ≤ picks.length ∧ σ 0 = ptr m 0 ∧ σ 2 = xv ∧ σ 3 = xw ∧ σ 5 = ptr p1 0 ∧ σ 9 = slc bo 0 calls.length calls.length ∧ σ 10 = slc bn 0 calls.length calls.length ∧ σ 11 = iN j ∧ ∃ phs pool, phs.length = calls.length ∧ (snil, []) ∈ pool ∧
      Sat (RefP m (r13At sl calls picks (g13 M calls) j).M :: Row bo (elemT 99) 0 true (phs.map Pr13.vo) :: Row bn (elemT 211) 0 true (phs.map Pr13.vn) :: SatL (List.zipWith (ThR pool) phs (r13At sl calls picks (g13 M calls) j).ths) :: SatL (poolL pool) :: Own p1 [u64 sl.cam, u64 sl.first, i64 sl.count, u64 sl.most] :: Thr13 xv calls :: IntsR xw picks :: R) H)
    (fun j => picks.length - j) (fun j σ H hI => ?_) (fun σ H hP => ?_) 0 _ _ ⟨Nat.zero_le _, rfl, rfl, rfl, rfl, rfl, rfl, rfl, List.replicate calls.length ⟨snil, nilP⟩, pool0, by simp, List.mem_cons_self .., h6.ent ee⟩
  · obtain ⟨hj, a0, a2, a3, a5, a9, a10, a11, phs, pool, hpl, hp0, hs2⟩ := hI
    by_cases hlt : j < picks.length
    · obtain ⟨t, et⟩ : ∃ t, picks[j]? = some t := ⟨_, List.getElem?_eq_getElem hlt⟩
      have hz := r13At_sz (sl := sl) (calls := calls) (picks := picks) (g := g13 M calls) j
      have hz2 : (g13 M calls).M.tr.length ≤ 10 := htr
      have hsu := r13At_succ (sl := sl) (calls := calls) (g := g13 M calls) et
      refine rrun13_pick (n := calls.length) hc hc64 (r13At_wf hc64 (wf0 hf calls) j) rfl hl1 hl2 hpl hlt hpc et (by omega) hp0 hs2 a0 a2 a3 a5 a9 a10 a11 fun σ1 H1 phs' pool' b0 b2 b3 b5 b9 b10 b11 hpl' hp0' h1 => ?_
      rw [← hsu] at h1
      show ∃ y, _ ∧ _
      exact ⟨j + 1, by omega, hlt, b0, b2, b3, b5, b9, b10, b11, phs', pool', hpl', hp0', h1⟩
    · obtain rfl : j = picks.length := by omega
      rw [rRun13L_W]
      rw [a11]
      refine AsLen.eq (a3.trans exw) ?_
      repeat (refine gO ?_; intros)
      refine Cd.f (ltZ_f (Nat.le_refl _)) ?_
      show _ = _ ∧ _
      exact ⟨rfl, phs, pool, a9, hpl, hs2.ent ee⟩
  · obtain ⟨phs, pool, a9, hpl, hs2⟩ := hP
    show Cd _ _ _
    refine Cd.t (eqN_self 0) ?_
    rw [a9]
    exact k _ _ phs pool _ H rfl hpl hs2
end Go.Proofs.YtipbbnoepphdkaaGreat

set_option linter.unusedVariables false
set_option linter.unusedSimpArgs false
namespace Go.Proofs.YtipbbnoepphdkaaGreat
open Go Go.CM
attribute [local irreducible] AsBool AsWant AsNat AsInt AsCnt AsPtr AsSlc AsLen AsStr AsAgg AsTup AsFn AsIfc Nth Sc NotNil IsNil Must Cd codeW funW Sat SatL wrapN subM mkRow ltZ leZ ltN leN
variable {con : CallT}
theorem slots_eq (H : CH) (a0 a1 a3 b0 b1 b3 : Nat) (a2 b2 : Int) : ceq Tryz.prog H 10000 61 (.agg ⟨[u64 a0, u64 a1, i64 a2, u64 a3]⟩) (.agg ⟨[u64 b0, u64 b1, i64 b2, u64 b3]⟩) = some ((Int.ofNat a0 == Int.ofNat b0) && ((Int.ofNat a1 == Int.ofNat b1) && ((a2 == b2) && ((Int.ofNat a3 == Int.ofNat b3) && true)))) := by
  have e : ceq Tryz.prog H 10000 61 (.agg ⟨[u64 a0, u64 a1, i64 a2, u64 a3]⟩) (.agg ⟨[u64 b0, u64 b1, i64 b2, u64 b3]⟩) = brk (Int.ofNat a0 == Int.ofNat b0) (brk (Int.ofNat a1 == Int.ofNat b1) (brk (a2 == b2) (brk (Int.ofNat a3 == Int.ofNat b3) (some true)))) := by kernel_rfl
  rw [e, brk_eq, brk_eq, brk_eq, brk_eq]
theorem slots_guard : Tryz.prog.eqGuardType Tryz.prog.depth 61 = false := by kernel_rfl
theorem slots_self (H : CH) (a0 a1 a3 : Nat) (a2 : Int) : ceq Tryz.prog H 10000 61 (.agg ⟨[u64 a0, u64 a1, i64 a2, u64 a3]⟩) (.agg ⟨[u64 a0, u64 a1, i64 a2, u64 a3]⟩) = some true := by
  rw [slots_eq]; simp
/-- What both told: the same. -/
theorem told_same (hc : Con con lives) {n bo bo' eo eo' : Nat} {m : Nat} {phs : List Ph13} {rhs : List Pr13} {ths : List Th13} {pool pool' : Pool} {L : List HP} {H : CH} {x6 x3 x4 x8 : Value} {σ : TF} {Q : KX} (hp1 : phs.length = n) (hp2 : rhs.length = n) (hp3 : ths.length = n) (hn : n ≤ 1048576)
    (htl : ∀ th ∈ ths, th.told.length ≤ 1048576 ∧ ∀ x ∈ th.told, x.1.need.length ≤ 1000000)
    (h1 : Has L (Row bo eo 0 true (phs.map Ph13.vo))) (h2 : Has L (SatL (List.zipWith (ThP m pool) phs ths))) (h3 : Has L (SatL (poolL pool)))
    (h4 : Has L (Row bo' eo' 0 true (rhs.map Pr13.vo))) (h5 : Has L (SatL (List.zipWith (ThR pool') rhs ths))) (h6 : Has L (SatL (poolL pool')))
    (hs : Sat L H) (e3 : σ 3 = x3) (e4 : σ 4 = x4) (e6 : σ 6 = x6) (e8 : σ 8 = x8) (e10 : σ 10 = slc bo 0 n n) (e12 : σ 12 = slc bo' 0 n n) (e13 : σ 13 = iN 0)
    (k : ∀ σ1 H1, σ1 3 = x3 → σ1 4 = x4 → σ1 6 = x6 → σ1 8 = x8 → Sat L H1 → Q (.exit 0) σ1 H1) :
    LoopC Tryz.prog con (lpAt Tryz.prog 5 0) σ H Q := by
  have row : ∀ {b e : Nat} {cs : List Value}, Has L (Row b e 0 true cs) → ∀ {H : CH}, Sat L H → Sat [Row b e 0 true cs] H := fun h _ hs => Sat.mk (SatL.one (hs.has h))
  refine LoopC.indP (n := 300) (id := 0) (fun σ H => σ 3 = x3 ∧ σ 4 = x4 ∧ σ 6 = x6 ∧ σ 8 = x8 ∧ Sat L H) (by kernel_rfl)
    (fun (i : Nat) σ H => i ≤ n ∧ σ 3 = x3 ∧ σ 4 = x4 ∧ σ 6 = x6 ∧ σ 8 = x8 ∧ σ 10 = slc bo 0 n n ∧ σ 12 = slc bo' 0 n n ∧ σ 13 = iN i ∧ Sat L H)
    (fun i => n - i) (fun i σ H hI => ?_) (fun σ H hP => ?_) 0 _ _ ⟨Nat.zero_le _, e3, e4, e6, e8, e10, e12, e13, hs⟩
  · obtain ⟨hi, a3, a4, a6, a8, a10, a12, a13, hs1⟩ := hI
    rw [annPlaysA_W]
    rw [a10, a12, a13]
    repeat (refine gO ?_; intros)
    by_cases hlt : i < n
    · refine Cd.t (ltZ_t hlt) ?_
      obtain ⟨ph, hph⟩ : ∃ x, phs[i]? = some x := ⟨_, List.getElem?_eq_getElem (by omega)⟩
      obtain ⟨rh, hrh⟩ : ∃ x, rhs[i]? = some x := ⟨_, List.getElem?_eq_getElem (by omega)⟩
      obtain ⟨th, hth⟩ : ∃ x, ths[i]? = some x := ⟨_, List.getElem?_eq_getElem (by omega)⟩
      have hv : (phs.map Ph13.vo)[i]? = some ph.vo := by rw [List.getElem?_map, hph]; rfl
      have hv' : (rhs.map Pr13.vo)[i]? = some rh.vo := by rw [List.getElem?_map, hrh]; rfl
      have hT : Has L (ThP m pool ph th) := Has.all h2 (zip_get' _ hph hth) fun ⟨rows, q1, q2⟩ s => ⟨rows, q1, q2.mono s⟩
      have hT' : Has L (ThR pool' rh th) := Has.all h5 (zip_get' _ hrh hth) fun ⟨rows, q1, q2⟩ s => ⟨rows, q1, q2.mono s⟩
      obtain ⟨t1, t2⟩ := htl th (List.mem_of_getElem? hth)
      obtain ⟨rows, hr, hS⟩ := hs1.has hT
      obtain ⟨rows', hr', hS'⟩ := hs1.has hT'
      have hS : Sat [Vec ph.vo 76 6 rows, NowP ph.vn th.now, ViewAt ph.q m (Int.ofNat ph.k) ph.nq] H := Sat.mk hS
      have hS' : Sat [Vec rh.vo 76 6 rows', NowR rh.vn th.now] H := Sat.mk hS'
      obtain ⟨pv, ev⟩ := (hS.has Has.vec).shape
      obtain ⟨pv', ev'⟩ := (hS'.has Has.vec).shape
      rw [hr.1] at ev
      rw [hr'.1] at ev'
      repeat (refine gO ?_; intros)
      refine Must.mk (ltN_t hlt) (ldRow (row h1 hs1) (off1 i) hv ?_)
      refine AsLen.eq ev ?_
      repeat (refine gO ?_; intros)
      refine Must.mk (ltN_t hlt) (ldRow (row h4 hs1) (off1 i) hv' ?_)
      refine AsLen.eq ev' ?_
      refine Cd.f (by rw [eqZ_self]; rfl) ?_
      refine LoopC.indP (n := 300) (id := 2) (fun σ H => σ 3 = x3 ∧ σ 4 = x4 ∧ σ 6 = x6 ∧ σ 8 = x8 ∧ σ 10 = slc bo 0 n n ∧ σ 12 = slc bo' 0 n n ∧ σ 13 = iN i ∧ Sat L H) (by kernel_rfl)
        (fun (j : Nat) σ H => j ≤ th.told.length ∧ σ 3 = x3 ∧ σ 4 = x4 ∧ σ 6 = x6 ∧ σ 8 = x8 ∧ σ 10 = slc bo 0 n n ∧ σ 12 = slc bo' 0 n n ∧ σ 13 = iN i ∧ σ 14 = iN j ∧ Sat L H)
        (fun j => th.told.length - j) (fun j σ H hI => ?_) (fun σ H hP => ?_) 0 _ _ ⟨Nat.zero_le _, a3, a4, a6, a8, a10, a12, a13, rfl, hs1⟩
      · obtain ⟨hj, b3, b4, b6, b8, b10, b12, b13, b14, hs2⟩ := hI
        obtain ⟨rows, hr, hS⟩ := hs2.has hT
        obtain ⟨rows', hr', hS'⟩ := hs2.has hT'
        have hS : Sat [Vec ph.vo 76 6 rows, NowP ph.vn th.now, ViewAt ph.q m (Int.ofNat ph.k) ph.nq] H := Sat.mk hS
        have hS' : Sat [Vec rh.vo 76 6 rows', NowR rh.vn th.now] H := Sat.mk hS'
        obtain ⟨pv, ev⟩ := (hS.has Has.vec).shape
        rw [hr.1] at ev
        rw [annPlaysB_W]
        rw [b10, b12, b13, b14]
        repeat (refine gO ?_; intros)
        refine Must.mk (ltN_t hlt) (ldRow (row h1 hs2) (off1 i) hv ?_)
        refine AsLen.eq ev ?_
        repeat (refine gO ?_; intros)
        by_cases hjl : j < th.told.length
        · refine Cd.t (ltZ_t hjl) ?_
          obtain ⟨x, hx⟩ : ∃ x, th.told[j]? = some x := ⟨_, List.getElem?_eq_getElem hjl⟩
          obtain ⟨r0, hr0, w, hw, er, hwm⟩ := hr.at hx
          obtain ⟨r1, hr1, w', hw', er', hwm'⟩ := hr'.at hx
          obtain ⟨b1, ev1, _⟩ := (hS.has Has.vec).slot hr0
          obtain ⟨b2, ev2, _⟩ := (hS'.has Has.vec).slot hr1
          rw [hr.1] at ev1
          rw [hr'.1] at ev2
          subst er er'
          repeat (refine gO ?_; intros)
          refine Must.mk (ltN_t hlt) (ldRow (row h1 hs2) (off1 i) hv ?_)
          refine AsSlc.eq ev1 ?_
          repeat (refine gO ?_; intros)
          refine Must.mk (ltN_t hjl) ?_
          refine ldVec hS Has.vec ev1 hr0 (j := 0) (by show 0 + j * 6 + 0 = _; omega) (by omega) rfl ?_
          refine ldVec hS Has.vec ev1 hr0 (j := 1) (by show 0 + j * 6 + 1 = _; omega) (by omega) rfl ?_
          refine ldVec hS Has.vec ev1 hr0 (j := 2) (by show 0 + j * 6 + 2 = _; omega) (by omega) rfl ?_
          refine ldVec hS Has.vec ev1 hr0 (j := 3) (by show 0 + j * 6 + 3 = _; omega) (by omega) rfl ?_
          refine ldVec hS Has.vec ev1 hr0 (j := 4) (by show 0 + j * 6 + 4 = _; omega) (by omega) rfl ?_
          refine ldVec hS Has.vec ev1 hr0 (j := 5) (by show 0 + j * 6 + 5 = _; omega) (by omega) rfl ?_
          repeat (refine gO ?_; intros)
          refine Must.mk (ltN_t hlt) (ldRow (row h4 hs2) (off1 i) hv' ?_)
          refine AsSlc.eq ev2 ?_
          repeat (refine gO ?_; intros)
          refine Must.mk (ltN_t hjl) ?_
          refine ldVec hS' Has.vec ev2 hr1 (j := 0) (by show 0 + j * 6 + 0 = _; omega) (by omega) rfl ?_
          refine ldVec hS' Has.vec ev2 hr1 (j := 1) (by show 0 + j * 6 + 1 = _; omega) (by omega) rfl ?_
          refine ldVec hS' Has.vec ev2 hr1 (j := 2) (by show 0 + j * 6 + 2 = _; omega) (by omega) rfl ?_
          refine ldVec hS' Has.vec ev2 hr1 (j := 3) (by show 0 + j * 6 + 3 = _; omega) (by omega) rfl ?_
          refine ldVec hS' Has.vec ev2 hr1 (j := 4) (by show 0 + j * 6 + 4 = _; omega) (by omega) rfl ?_
          refine ldVec hS' Has.vec ev2 hr1 (j := 5) (by show 0 + j * 6 + 5 = _; omega) (by omega) rfl ?_
          obtain ⟨i1, hi1⟩ := List.mem_iff_getElem?.1 hwm
          obtain ⟨i2, hi2⟩ := List.mem_iff_getElem?.1 hwm'
          have hN : Has L (Nums w x.1.need) := Has.all h3 (i := i1) (by unfold poolL; rw [List.getElem?_map, hi1]; rfl) fun a s => a.mono s
          have hN' : Has L (Nums w' x.1.need) := Has.all h6 (i := i2) (by unfold poolL; rw [List.getElem?_map, hi2]; rfl) fun a s => a.mono s
          refine l13same_ok hc hs2 hN hN' (t2 x (List.mem_of_getElem? hx)) fun H9 h9 => ?_
          repeat (refine gO ?_; intros)
          try rw [addInt]
          refine inR_nat (by omega) ?_
          repeat (refine gO ?_; intros)
          show ∃ y, _ ∧ _
          exact ⟨j + 1, by omega, hjl, b3, b4, b6, b8, b10, b12, b13, rfl, h9⟩
        · refine Cd.f (ltZ_f (by omega)) ?_
          show _ = _ ∧ _
          exact ⟨rfl, b3, b4, b6, b8, b10, b12, b13, hs2⟩
      · obtain ⟨b3, b4, b6, b8, b10, b12, b13, hs2⟩ := hP
        show Cd _ _ _
        refine Cd.t rfl ?_
        rw [b13]
        repeat (refine gO ?_; intros)
        try rw [addInt]
        refine inR_nat (by omega) ?_
        repeat (refine gO ?_; intros)
        show ∃ y, _ ∧ _
        exact ⟨i + 1, by omega, hlt, b3, b4, b6, b8, b10, b12, rfl, hs2⟩
    · refine Cd.f (ltZ_f (by omega)) ?_
      show _ = _ ∧ _
      exact ⟨rfl, a3, a4, a6, a8, hs1⟩
  · obtain ⟨a3, a4, a6, a8, hs1⟩ := hP
    exact k σ H a3 a4 a6 a8 hs1
end Go.Proofs.YtipbbnoepphdkaaGreat

set_option linter.unusedVariables false
set_option linter.unusedSimpArgs false
namespace Go.Proofs.YtipbbnoepphdkaaGreat
open Go Go.CM
attribute [local irreducible] AsBool AsWant AsNat AsInt AsCnt AsPtr AsSlc AsLen AsStr AsAgg AsTup AsFn AsIfc Nth Sc NotNil IsNil Must Cd codeW funW Sat SatL wrapN subM mkRow ltZ leZ ltN leN
variable {con : CallT}
theorem has_pull {A : HP} {L R : List HP} (p : Pull L A R) (m : ∀ {g h : PH}, A g → Subh g h → A h) : Has L A := fun h a => (Has.here (L := R) m) h (p h a)
/-- Each need that was told is short. -/
def Need256 (g : R13) : Prop := ∀ th ∈ g.ths, ∀ x ∈ th.told, x.1.need.length ≤ 256
theorem need_go {g : R13} (h : Need256 g) {i k a : Nat} {s : P13} {told : List (T13 × Bool)} {all : List Seen13} (hok : s.Ok) (htl : s.Tl) (ht : ∀ x ∈ told, x.1.need.length ≤ 256) : Need256 (g.go i k s told a all) := fun th hth x hx => by
  simp only [R13.go] at hth
  rcases List.mem_or_eq_of_mem_set hth with h1 | rfl
  · exact h th h1 x hx
  · rcases List.mem_or_eq_of_mem_set hx with h2 | rfl
    · exact ht x h2
    · exact p13_need_le (p13_step s g.M (Int.ofNat k) hok htl).2.1
theorem need_pick {calls : List (List C13)} (hc : Calls64 calls) (sl : SlotsS) {g : R13} (W : WF13 calls g) (h : Need256 g) (i : Nat) (t : Int) : Need256 (g.pick sl calls i t) := by
  refine pick_cases sl calls g i t _ h (fun k cs th s _ hk ht hs => ?_) (fun k cs th c _ hk ht hs ec => ?_)
  · obtain ⟨q1, q2, q3⟩ := W.th k cs th hk ht
    obtain ⟨u1, u2, u3, u4⟩ := q3 s hs
    exact need_go h u1 u2 (h th (List.mem_of_getElem? ht))
  · obtain ⟨f1, f2, f3⟩ := wf_fresh hc W hk ht ec sl
    refine need_go h f1 f2 fun x hx => ?_
    rcases List.mem_append.1 hx with hx | hx
    · exact h th (List.mem_of_getElem? ht) x hx
    · rw [List.mem_singleton.1 hx]; exact Nat.zero_le _
theorem need_at {sl : SlotsS} {calls : List (List C13)} (hc : Calls64 calls) {picks : List Int} {g : R13} (W : WF13 calls g) (h : Need256 g) : ∀ j, Need256 (r13At sl calls picks g j)
  | 0 => h
  | j + 1 => by
    have ih := need_at hc (sl := sl) (picks := picks) W h j
    show Need256 (match picks[j]? with | some t => (r13At sl calls picks g j).pick sl calls j t | none => r13At sl calls picks g j)
    split
    · exact need_pick hc sl (r13At_wf hc W j) ih _ _
    · exact ih
theorem need0 (M : Mem) (calls : List (List C13)) : Need256 (g13 M calls) := fun th hth x hx => by
  rw [List.eq_of_mem_replicate hth] at hx
  cases hx
theorem told_le {calls : List (List C13)} {g : R13} (W : WF13 calls g) {b : Nat} (hl : ∀ cs ∈ calls, cs.length ≤ b) : ∀ th ∈ g.ths, th.told.length ≤ b := fun th hth => by
  obtain ⟨k, hk⟩ := List.mem_iff_getElem?.1 hth
  have hkl := (List.getElem?_eq_some_iff.1 hk).1
  obtain ⟨cs, hcs⟩ : ∃ cs, calls[k]? = some cs := ⟨_, List.getElem?_eq_getElem (by have := W.len; omega)⟩
  have := (W.th k cs th hcs hk).1
  have := hl cs (List.mem_of_getElem? hcs)
  omega
set_option maxRecDepth 100000 in
theorem annPlays_ok (hc : Con con lives) (hlive : ∀ H, con 28 ⟨[]⟩ H = some (.bool true, H)) {R : List HP} {H : CH} {n : Int} {most : Nat} {xv xw : Value} {calls : List (List C13)} {picks : List Int} (hc64 : Calls64 calls)
    (hl1 : calls.length ≤ 1048576) (hl2 : ∀ cs ∈ calls, cs.length ≤ 1048576) (hpc : picks.length ≤ 1048576) (hs : Sat (Thr13 xv calls :: IntsR xw picks :: R) H) :
    Call1 Tryz.prog con 5 [.agg ⟨[i64 n, u64 most, xv, xw]⟩] H (fun v _ => v = .bool true) := by
  refine call_of (hc _ _ _ rfl) ?_
  rw [annPlays_W]
  refine na fun p1 H1 h1 => ?_
  refine la rfl (la rfl (la rfl (la rfl ?_)))
  refine l13memory_ok hc h1 fun m H8 h8 => ?_
  obtain ⟨hfine, htr⟩ := slots13_fine n most
  cases hr : right13 n most with
  | false =>
    rw [slots13_no hr] at h8 hfine htr ⊢
    repeat (refine gO ?_; intros)
    refine stN (by assumption) (Nat.le_of_ble_eq_true rfl) rfl fun H22 h22 => ?_
    refine call_yes (hlive _) ?_
    repeat (refine gO ?_; intros)
    refine l13right_ok hc h22 fun H31 h31 => ?_
    rw [hr]
    repeat (refine gO ?_; intros)
    refine OpN.eqAgg (a := ⟨[u64 0, u64 0, i64 (Int.ofNat 0), u64 0]⟩) (c := ⟨[u64 0, u64 0, i64 (Int.ofNat 0), u64 0]⟩) rfl rfl slots_guard (slots_self _ _ _ _ _) ?_
    rfl
  | true =>
    obtain ⟨c, rfl, c1, c2, c3, c4, es⟩ := slots13_yes hr
    rw [es] at h8 hfine htr ⊢
    generalize hM1 : mem13.alloc (Int.negSucc 0) (List.replicate c 0) = M1 at h8 hfine htr
    repeat (refine gO ?_; intros)
    refine stN (by assumption) (Nat.le_of_ble_eq_true rfl) rfl fun H22 h22 => ?_
    refine call_yes (hlive _) ?_
    repeat (refine gO ?_; intros)
    refine l13right_ok hc h22 fun H31 h31 => ?_
    rw [hr]
    repeat (refine gO ?_; intros)
    refine refNew_ok hc h31 (by omega) (by omega) fun r H42 h42 => ?_
    repeat (refine gO ?_; intros)
    rename_i p47 H48 h48
    refine refAlloc_ok (vals := [1]) hc h48 pp (Has.own3 (l := [1])) (by simp) (by show 0 < _; omega) fun H50 h50 => ?_
    have hM : (mem0 4096).alloc (Int.negSucc 0) [1] = mem13 := rfl
    rw [hM] at h50
    repeat (refine gO ?_; intros)
    refine rMake_ok hc h50 pp (by have := mem13_tr; omega) fun H54 h54 => ?_
    have e : mkSlots 1 (Int.ofNat c) most mem13 (Int.negSucc 0) = slots13 (Int.ofNat c) most := rfl
    rw [e, es, hM1] at h54
    rw [e, es]
    repeat (refine gO ?_; intros)
    refine stN (by assumption) (Nat.le_of_ble_eq_true rfl) rfl fun H66 h66 => ?_
    repeat (refine gO ?_; intros)
    refine run13_ok (sl := ⟨1, 2, Int.ofNat c, most⟩) (R := RefP r M1 :: Own p1 [i64 (Int.ofNat c), u64 most, xv, xw] :: Own _ [u64 1, u64 2, i64 (Int.ofNat c), u64 most] :: Own _ [u64 1, u64 2, i64 (Int.ofNat c), u64 most] :: R) hc hc64 hfine hl1 hl2 hpc htr (h66.ent ee) fun bo eo va phs pool rowsA g H76 hg hpl hra h76 => ?_
    repeat (refine gO ?_; intros)
    have h77 := h76.takes (As := [RefP r M1, Thr13 xv calls, IntsR xw picks]) (.cons pp (.cons pp (.cons pp .nil)))
    simp only [List.cons_append, List.nil_append] at h77
    refine rrun13_ok (sl := ⟨1, 2, Int.ofNat c, most⟩) hc hc64 hfine hl1 hl2 hpc htr h77 fun bo' eo' rhs pool' g' H88 hg' hpl' h88 => ?_
    obtain rfl : g' = g := hg'.trans hg.symm
    have W := r13At_wf (sl := ⟨1, 2, Int.ofNat c, most⟩) hc64 (picks := picks) (wf0 hfine calls) picks.length
    have hN := need_at (sl := ⟨1, 2, Int.ofNat c, most⟩) hc64 (picks := picks) (wf0 hfine calls) (need0 M1 calls) picks.length
    have hz := (r13At_sz (sl := ⟨1, 2, Int.ofNat c, most⟩) (calls := calls) (picks := picks) (g := g13 M1 calls) picks.length).2
    rw [← hg] at W hN hz
    have hz2 : (g13 M1 calls).M.tr.length ≤ 10 := htr
    clear hg hg'
    have hL := told_le W hl2
    have hthl := W.len
    have hfg := W.fine
    repeat (refine gO ?_; intros)
    refine OpN.neAgg (a := ⟨[u64 1, u64 2, i64 (Int.ofNat c), u64 most]⟩) (c := ⟨[u64 1, u64 2, i64 (Int.ofNat c), u64 most]⟩) rfl rfl slots_guard (slots_self _ _ _ _ _) ?_
    repeat (refine gO ?_; intros)
    rw [eqZ_self]
    repeat (refine gO ?_; intros)
    refine told_same hc (x3 := ptr m 0) (x4 := ptr _ 0) (x6 := ptr r 0) (x8 := ptr _ 0) (n := calls.length) (m := m) (ths := g'.ths) (pool := pool) (pool' := pool') hpl hpl' hthl hl1 (fun th hth => ⟨hL th hth, fun x hx => by have := hN th hth x hx; omega⟩)
      (has_pull (by repeat (first | exact pH | apply pT)) fun a s => a.mono s) (has_pull (A := SatL (List.zipWith (ThP m pool) phs g'.ths)) (by repeat (first | exact pH | apply pT)) fun a s => SatL.mono s a) (has_pull (A := SatL (poolL pool)) (by repeat (first | exact pH | apply pT)) fun a s => SatL.mono s a)
      (has_pull (by repeat (first | exact pH | apply pT)) fun a s => a.mono s) (has_pull (A := SatL (List.zipWith (ThR pool') rhs g'.ths)) (by repeat (first | exact pH | apply pT)) fun a s => SatL.mono s a) (has_pull (A := SatL (poolL pool')) (by repeat (first | exact pH | apply pT)) fun a s => SatL.mono s a)
      h88 rfl rfl rfl rfl rfl rfl rfl fun σ1 H5 e3 e4 e6 e8 h5 => ?_
    show Cd _ _ _
    refine Cd.t (eqN_self 0) ?_
    simp only [e3, e4, e6, e8]
    obtain ⟨f1, f2, u1, u2, d, ⟨bl, tr, ⟨hn, hf⟩, hin⟩, hR⟩ := h5.opens Pull.here
    have hs5 := Sat.merge u1 u2 d hin hR
    simp only [List.cons_append, List.nil_append] at hs5
    obtain ⟨g1, g2, t1, t2, d2, hT', _⟩ := hs5.opens (A := TrAt tr tA g'.M.tr) (.there (.there .here))
    obtain ⟨pt, rfl⟩ := hT'.shape
    clear h5 h88 h76 h77
    refine memTraceK_ok hc hs5 pp (by omega) hfg.vals fun x H9 h9 => ?_
    repeat (refine gO ?_; intros)
    refine sameTraceK_ok hc h9 pp pp (by omega) hfg.vals fun H10 h10 => ?_
    repeat (refine gO ?_; intros)
    have h11 : Sat (RefP r g'.M :: MemP m g'.M :: Own _ [u64 1, u64 2, i64 (Int.ofNat c), u64 most] :: Own _ [u64 1, u64 2, i64 (Int.ofNat c), u64 most] :: R) H10 := Sat.close (L1 := [_, _, _]) (h10.ent ee) fun g a => ⟨bl, _, ⟨hn, hf⟩, a⟩
    refine annSlots_ok hc ⟨1, 2, Int.ofNat c, most⟩ h11 pp hfg.bd fun w H12 h12 => ?_
    repeat (refine gO ?_; intros)
    refine rSlots_ok hc ⟨1, 2, Int.ofNat c, most⟩ h12 pp hfg.bd fun w2 H13 h13 => ?_
    have hcl := cnt_le (Int.ofNat c)
    refine sameSlots_ok hc ⟨1, 2, Int.ofNat c, most⟩ h13 (Has.skip Has.vec) Has.vec (by show cnt (Int.ofNat c) ≤ _; omega) fun H14 h14 => ?_
    repeat (refine gO ?_; intros)
    rfl
end Go.Proofs.YtipbbnoepphdkaaGreat

