/- What the functions do to the memories and procs that they are given: their contracts. The conditions stand in each. -/
import Derived.Test.YtipbbnoepphdkaaGreatSpA
import Derived.Sort.AssemblyPlain
set_option linter.unusedVariables false
set_option linter.unusedSimpArgs false

set_option linter.unusedVariables false
set_option linter.unusedSimpArgs false
namespace Go.Proofs.YtipbbnoepphdkaaGreat
open Go Go.CM
attribute [local irreducible] AsBool AsWant AsNat AsInt AsCnt AsPtr AsSlc AsLen AsStr AsAgg AsTup AsFn AsIfc Nth Sc NotNil IsNil Must Cd codeW funW Sat SatL wrapN subM mkRow ltZ leZ ltN leN
variable {con : CallT}
theorem notB_not (b : Bool) : notB b = !b := by cases b <;> rfl
theorem scanUp_go {p : Nat → Bool} {d : Array Nat} {i j : Nat} (h : i ≤ j) (hp : p d[i]! = true) : Sort.scanUp p d j i = Sort.scanUp p d j (i + 1) := by
  rw [Sort.scanUp, if_pos (by rw [hp, decide_eq_true h]; rfl)]
theorem scanUp_stop {p : Nat → Bool} {d : Array Nat} {i j : Nat} (hp : p d[i]! = false) : Sort.scanUp p d j i = i := by
  rw [Sort.scanUp, if_neg (by rw [hp, Bool.and_false]; exact Bool.false_ne_true)]
theorem scanUp_over {p : Nat → Bool} {d : Array Nat} {i j : Nat} (h : j < i) : Sort.scanUp p d j i = i := by
  rw [Sort.scanUp, if_neg (by rw [decide_eq_false (by omega), Bool.false_and]; exact Bool.false_ne_true)]
theorem scanDown_go {p : Nat → Bool} {d : Array Nat} {i j : Nat} (h0 : 0 < j) (h : i ≤ j) (hp : p d[j]! = true) : Sort.scanDown p d i j = Sort.scanDown p d i (j - 1) := by
  obtain ⟨j, rfl⟩ : ∃ m, j = m + 1 := ⟨j - 1, by omega⟩
  rw [Sort.scanDown, if_pos (by rw [hp, decide_eq_true h]; rfl)]; rfl
theorem scanDown_stop {p : Nat → Bool} {d : Array Nat} {i j : Nat} (hp : p d[j]! = false) : Sort.scanDown p d i j = j := by
  cases j with
  | zero => rfl
  | succ j => rw [Sort.scanDown, if_neg (by rw [hp, Bool.and_false]; exact Bool.false_ne_true)]
theorem scanDown_over {p : Nat → Bool} {d : Array Nat} {i j : Nat} (h : j < i) : Sort.scanDown p d i j = j := by
  cases j with
  | zero => rfl
  | succ j => rw [Sort.scanDown, if_neg (by rw [decide_eq_false (by omega), Bool.false_and]; exact Bool.false_ne_true)]
theorem partLoop_facts (a : Nat) : ∀ (m i j : Nat) (d : Array Nat), j + 1 - i ≤ m → (Sort.partLoop ltU a i j d).1 ≤ j ∧ (Sort.partLoop ltU a i j d).2.size = d.size := by
  intro m
  induction m with
  | zero =>
    intro i j d hm
    rw [Sort.partLoop_eq, scanUp_over (by omega), scanDown_over (by omega), if_pos (by omega)]
    exact ⟨Nat.le_refl _, rfl⟩
  | succ m ih =>
    intro i j d hm
    have g1 := Sort.scanUp_ge (fun x => ltU x d[a]!) d j i
    have g2 := Sort.scanDown_le (fun x => !ltU x d[a]!) d (Sort.scanUp (fun x => ltU x d[a]!) d j i) j
    rw [Sort.partLoop_eq]
    generalize Sort.scanUp (fun x => ltU x d[a]!) d j i = i2 at *
    generalize Sort.scanDown (fun x => !ltU x d[a]!) d i2 j = j2 at *
    by_cases h : i2 > j2
    · rw [if_pos h]
      exact ⟨g2, rfl⟩
    · rw [if_neg h]
      have := ih (i2 + 1) (j2 - 1) (Sort.swp d i2 j2) (by omega)
      exact ⟨by omega, by rw [this.2, Sort.size_swp]⟩
theorem partEqB_ok (hc : Con con lives) {R : List HP} {H : CH} {b e s a n i j : Nat} {d : Array Nat} {σ : TF} {Q : KX} (hs : Sat (RowA b e s d :: R) H) (hn : d.size = n) (hn2 : n ≤ 1000000) (ha : a < n) (hj : j < n)
    (e0 : σ 0 = slc b 0 n n) (e1 : σ 1 = iN a) (ei : σ 9 = iN i) (ej : σ 10 = iN j)
    (k : ∀ σ1 H1, σ1 0 = slc b 0 n n → σ1 1 = iN a → σ1 9 = iN (Sort.scanUp (fun x => !ltU d[a]! x) d j i) → σ1 10 = iN j → Sat (RowA b e s d :: R) H1 → Q (.exit 2) σ1 H1) :
    LoopC Tryz.prog con (lpAt Tryz.prog 161 1) σ H Q := by
  refine LoopC.indP (n := 200) (id := 2) (fun σ1 H1 => σ1 0 = slc b 0 n n ∧ σ1 1 = iN a ∧ σ1 9 = iN (Sort.scanUp (fun x => !ltU d[a]! x) d j i) ∧ σ1 10 = iN j ∧ Sat (RowA b e s d :: R) H1) (by kernel_rfl)
    (fun (x : Nat) σ1 H1 => Sort.scanUp (fun x => !ltU d[a]! x) d j x = Sort.scanUp (fun x => !ltU d[a]! x) d j i ∧ σ1 0 = slc b 0 n n ∧ σ1 1 = iN a ∧ σ1 9 = iN x ∧ σ1 10 = iN j ∧ Sat (RowA b e s d :: R) H1)
    (fun x => j + 1 - x) (fun x σ1 H1 hI => ?_) (fun σ1 H1 hP => ?_) i _ _ ⟨rfl, e0, e1, ei, ej, hs⟩
  · obtain ⟨hx, a0, a1, ai, aj, hs1⟩ := hI
    rw [partEqB_W]
    simp only [ai, aj, a0, a1]
    repeat (first | refine run ?_ | refine ct ?_ | refine cf ?_ | refine sk ?_ | refine la rfl ?_ | refine na fun _ _ _ => ?_ | refine sa rfl fun _ _ => ?_ | refine nk ?_ | refine mu ?_ | refine ac ?_ | refine ai ?_)
    by_cases h : x ≤ j
    · refine Cd.t (leZ_t h) ?_
      repeat (first | refine run ?_ | refine ct ?_ | refine cf ?_ | refine sk ?_ | refine la rfl ?_ | refine na fun _ _ _ => ?_ | refine sa rfl fun _ _ => ?_ | refine nk ?_ | refine mu ?_ | refine ac ?_ | refine ai ?_)
      refine Must.mk (ltN_t (by omega)) (ldA hs1 (by omega) rfl ?_)
      repeat (first | refine run ?_ | refine ct ?_ | refine cf ?_ | refine sk ?_ | refine la rfl ?_ | refine na fun _ _ _ => ?_ | refine sa rfl fun _ _ => ?_ | refine nk ?_ | refine mu ?_ | refine ac ?_ | refine ai ?_)
      refine Must.mk (ltN_t (by omega)) (ldA hs1 (by omega) rfl ?_)
      repeat (first | refine run ?_ | refine ct ?_ | refine cf ?_ | refine sk ?_ | refine la rfl ?_ | refine na fun _ _ _ => ?_ | refine sa rfl fun _ _ => ?_ | refine nk ?_ | refine mu ?_ | refine ac ?_ | refine ai ?_)
      refine cmpLess_ok hc ?_
      repeat (first | refine run ?_ | refine ct ?_ | refine cf ?_ | refine sk ?_ | refine la rfl ?_ | refine na fun _ _ _ => ?_ | refine sa rfl fun _ _ => ?_ | refine nk ?_ | refine mu ?_ | refine ac ?_ | refine ai ?_)
      try rw [notB_not]
      by_cases hp : (fun x => !ltU d[a]! x) d[x]! = true
      · refine Cd.t hp ?_
        repeat (first | refine run ?_ | refine ct ?_ | refine cf ?_ | refine sk ?_ | refine la rfl ?_ | refine na fun _ _ _ => ?_ | refine sa rfl fun _ _ => ?_ | refine nk ?_ | refine mu ?_ | refine ac ?_ | refine ai ?_)
        try rw [addInt]
        refine inR_nat (by omega) ?_
        repeat (first | refine run ?_ | refine ct ?_ | refine cf ?_ | refine sk ?_ | refine la rfl ?_ | refine na fun _ _ _ => ?_ | refine sa rfl fun _ _ => ?_ | refine nk ?_ | refine mu ?_ | refine ac ?_ | refine ai ?_)
        show ∃ y, _ ∧ _
        exact ⟨x + 1, by omega, (scanUp_go (p := (fun x => !ltU d[a]! x)) h hp).symm.trans hx, a0, a1, rfl, aj, hs1⟩
      · have hp := Bool.eq_false_iff.2 hp
        refine Cd.f hp ?_
        show _ = _ ∧ _
        exact ⟨rfl, a0, a1, by rw [← hx, scanUp_stop (p := (fun x => !ltU d[a]! x)) hp]; exact ai, aj, hs1⟩
    · refine Cd.f (leZ_f (by omega)) ?_
      show _ = _ ∧ _
      exact ⟨rfl, a0, a1, by rw [← hx, scanUp_over (by omega)]; exact ai, aj, hs1⟩
  · obtain ⟨a0, a1, ai, aj, hs1⟩ := hP
    exact k σ1 H1 a0 a1 ai aj hs1
theorem partEqC_ok (hc : Con con lives) {R : List HP} {H : CH} {b e s a n i j : Nat} {d : Array Nat} {σ : TF} {Q : KX} (hs : Sat (RowA b e s d :: R) H) (hn : d.size = n) (hn2 : n ≤ 1000000) (ha : a < n) (hj : j < n) (hi : 0 < i)
    (e0 : σ 0 = slc b 0 n n) (e1 : σ 1 = iN a) (ei : σ 9 = iN i) (ej : σ 10 = iN j)
    (k : ∀ σ1 H1, σ1 0 = slc b 0 n n → σ1 1 = iN a → σ1 9 = iN i → σ1 10 = iN (Sort.scanDown (fun x => ltU d[a]! x) d i j) → Sat (RowA b e s d :: R) H1 → Q (.exit 4) σ1 H1) :
    LoopC Tryz.prog con (lpAt Tryz.prog 161 2) σ H Q := by
  refine LoopC.indP (n := 200) (id := 4) (fun σ1 H1 => σ1 0 = slc b 0 n n ∧ σ1 1 = iN a ∧ σ1 9 = iN i ∧ σ1 10 = iN (Sort.scanDown (fun x => ltU d[a]! x) d i j) ∧ Sat (RowA b e s d :: R) H1) (by kernel_rfl)
    (fun (x : Nat) σ1 H1 => x < n ∧ Sort.scanDown (fun x => ltU d[a]! x) d i x = Sort.scanDown (fun x => ltU d[a]! x) d i j ∧ σ1 0 = slc b 0 n n ∧ σ1 1 = iN a ∧ σ1 9 = iN i ∧ σ1 10 = iN x ∧ Sat (RowA b e s d :: R) H1)
    (fun x => x) (fun x σ1 H1 hI => ?_) (fun σ1 H1 hP => ?_) j _ _ ⟨hj, rfl, e0, e1, ei, ej, hs⟩
  · obtain ⟨hxn, hx, a0, a1, ai, aj, hs1⟩ := hI
    rw [partEqC_W]
    simp only [ai, aj, a0, a1]
    repeat (first | refine run ?_ | refine ct ?_ | refine cf ?_ | refine sk ?_ | refine la rfl ?_ | refine na fun _ _ _ => ?_ | refine sa rfl fun _ _ => ?_ | refine nk ?_ | refine mu ?_ | refine ac ?_ | refine ai ?_)
    by_cases h : i ≤ x
    · refine Cd.t (leZ_t h) ?_
      repeat (first | refine run ?_ | refine ct ?_ | refine cf ?_ | refine sk ?_ | refine la rfl ?_ | refine na fun _ _ _ => ?_ | refine sa rfl fun _ _ => ?_ | refine nk ?_ | refine mu ?_ | refine ac ?_ | refine ai ?_)
      refine Must.mk (ltN_t (by omega)) (ldA hs1 (by omega) rfl ?_)
      repeat (first | refine run ?_ | refine ct ?_ | refine cf ?_ | refine sk ?_ | refine la rfl ?_ | refine na fun _ _ _ => ?_ | refine sa rfl fun _ _ => ?_ | refine nk ?_ | refine mu ?_ | refine ac ?_ | refine ai ?_)
      refine Must.mk (ltN_t (by omega)) (ldA hs1 (by omega) rfl ?_)
      repeat (first | refine run ?_ | refine ct ?_ | refine cf ?_ | refine sk ?_ | refine la rfl ?_ | refine na fun _ _ _ => ?_ | refine sa rfl fun _ _ => ?_ | refine nk ?_ | refine mu ?_ | refine ac ?_ | refine ai ?_)
      refine cmpLess_ok hc ?_
      repeat (first | refine run ?_ | refine ct ?_ | refine cf ?_ | refine sk ?_ | refine la rfl ?_ | refine na fun _ _ _ => ?_ | refine sa rfl fun _ _ => ?_ | refine nk ?_ | refine mu ?_ | refine ac ?_ | refine ai ?_)
      try rw [notB_not]
      by_cases hp : (fun x => ltU d[a]! x) d[x]! = true
      · refine Cd.t hp ?_
        repeat (first | refine run ?_ | refine ct ?_ | refine cf ?_ | refine sk ?_ | refine la rfl ?_ | refine na fun _ _ _ => ?_ | refine sa rfl fun _ _ => ?_ | refine nk ?_ | refine mu ?_ | refine ac ?_ | refine ai ?_)
        rw [subInt (by omega)]
        refine inR_nat (by omega) ?_
        repeat (first | refine run ?_ | refine ct ?_ | refine cf ?_ | refine sk ?_ | refine la rfl ?_ | refine na fun _ _ _ => ?_ | refine sa rfl fun _ _ => ?_ | refine nk ?_ | refine mu ?_ | refine ac ?_ | refine ai ?_)
        show ∃ y, _ ∧ _
        exact ⟨x - 1, by omega, by omega, (scanDown_go (p := (fun x => ltU d[a]! x)) (by omega) h hp).symm.trans hx, a0, a1, ai, rfl, hs1⟩
      · have hp := Bool.eq_false_iff.2 hp
        refine Cd.f hp ?_
        show _ = _ ∧ _
        exact ⟨rfl, a0, a1, ai, by rw [← hx, scanDown_stop (p := (fun x => ltU d[a]! x)) hp]; exact aj, hs1⟩
    · refine Cd.f (leZ_f (by omega)) ?_
      show _ = _ ∧ _
      exact ⟨rfl, a0, a1, ai, by rw [← hx, scanDown_over (by omega)]; exact aj, hs1⟩
  · obtain ⟨a0, a1, ai, aj, hs1⟩ := hP
    exact k σ1 H1 a0 a1 ai aj hs1
theorem partOrdA_ok (hc : Con con lives) {R : List HP} {H : CH} {b e s a n i j : Nat} {d : Array Nat} {σ : TF} {Q : KX} (hs : Sat (RowA b e s d :: R) H) (hn : d.size = n) (hn2 : n ≤ 1000000) (ha : a < n) (hj : j < n)
    (e0 : σ 0 = slc b 0 n n) (e1 : σ 1 = iN a) (ei : σ 10 = iN i) (ej : σ 11 = iN j)
    (k : ∀ σ1 H1, σ1 0 = slc b 0 n n → σ1 1 = iN a → σ1 10 = iN (Sort.scanUp (fun x => ltU x d[a]!) d j i) → σ1 11 = iN j → Sat (RowA b e s d :: R) H1 → Q (.exit 0) σ1 H1) :
    LoopC Tryz.prog con (lpAt Tryz.prog 162 0) σ H Q := by
  refine LoopC.indP (n := 200) (id := 0) (fun σ1 H1 => σ1 0 = slc b 0 n n ∧ σ1 1 = iN a ∧ σ1 10 = iN (Sort.scanUp (fun x => ltU x d[a]!) d j i) ∧ σ1 11 = iN j ∧ Sat (RowA b e s d :: R) H1) (by kernel_rfl)
    (fun (x : Nat) σ1 H1 => Sort.scanUp (fun x => ltU x d[a]!) d j x = Sort.scanUp (fun x => ltU x d[a]!) d j i ∧ σ1 0 = slc b 0 n n ∧ σ1 1 = iN a ∧ σ1 10 = iN x ∧ σ1 11 = iN j ∧ Sat (RowA b e s d :: R) H1)
    (fun x => j + 1 - x) (fun x σ1 H1 hI => ?_) (fun σ1 H1 hP => ?_) i _ _ ⟨rfl, e0, e1, ei, ej, hs⟩
  · obtain ⟨hx, a0, a1, ai, aj, hs1⟩ := hI
    rw [partOrdA_W]
    simp only [ai, aj, a0, a1]
    repeat (first | refine run ?_ | refine ct ?_ | refine cf ?_ | refine sk ?_ | refine la rfl ?_ | refine na fun _ _ _ => ?_ | refine sa rfl fun _ _ => ?_ | refine nk ?_ | refine mu ?_ | refine ac ?_ | refine ai ?_)
    by_cases h : x ≤ j
    · refine Cd.t (leZ_t h) ?_
      repeat (first | refine run ?_ | refine ct ?_ | refine cf ?_ | refine sk ?_ | refine la rfl ?_ | refine na fun _ _ _ => ?_ | refine sa rfl fun _ _ => ?_ | refine nk ?_ | refine mu ?_ | refine ac ?_ | refine ai ?_)
      refine Must.mk (ltN_t (by omega)) (ldA hs1 (by omega) rfl ?_)
      repeat (first | refine run ?_ | refine ct ?_ | refine cf ?_ | refine sk ?_ | refine la rfl ?_ | refine na fun _ _ _ => ?_ | refine sa rfl fun _ _ => ?_ | refine nk ?_ | refine mu ?_ | refine ac ?_ | refine ai ?_)
      refine Must.mk (ltN_t (by omega)) (ldA hs1 (by omega) rfl ?_)
      repeat (first | refine run ?_ | refine ct ?_ | refine cf ?_ | refine sk ?_ | refine la rfl ?_ | refine na fun _ _ _ => ?_ | refine sa rfl fun _ _ => ?_ | refine nk ?_ | refine mu ?_ | refine ac ?_ | refine ai ?_)
      refine cmpLess_ok hc ?_
      repeat (first | refine run ?_ | refine ct ?_ | refine cf ?_ | refine sk ?_ | refine la rfl ?_ | refine na fun _ _ _ => ?_ | refine sa rfl fun _ _ => ?_ | refine nk ?_ | refine mu ?_ | refine ac ?_ | refine ai ?_)
      try rw [notB_not]
      by_cases hp : (fun x => ltU x d[a]!) d[x]! = true
      · refine Cd.t hp ?_
        repeat (first | refine run ?_ | refine ct ?_ | refine cf ?_ | refine sk ?_ | refine la rfl ?_ | refine na fun _ _ _ => ?_ | refine sa rfl fun _ _ => ?_ | refine nk ?_ | refine mu ?_ | refine ac ?_ | refine ai ?_)
        try rw [addInt]
        refine inR_nat (by omega) ?_
        repeat (first | refine run ?_ | refine ct ?_ | refine cf ?_ | refine sk ?_ | refine la rfl ?_ | refine na fun _ _ _ => ?_ | refine sa rfl fun _ _ => ?_ | refine nk ?_ | refine mu ?_ | refine ac ?_ | refine ai ?_)
        show ∃ y, _ ∧ _
        exact ⟨x + 1, by omega, (scanUp_go (p := (fun x => ltU x d[a]!)) h hp).symm.trans hx, a0, a1, rfl, aj, hs1⟩
      · have hp := Bool.eq_false_iff.2 hp
        refine Cd.f hp ?_
        show _ = _ ∧ _
        exact ⟨rfl, a0, a1, by rw [← hx, scanUp_stop (p := (fun x => ltU x d[a]!)) hp]; exact ai, aj, hs1⟩
    · refine Cd.f (leZ_f (by omega)) ?_
      show _ = _ ∧ _
      exact ⟨rfl, a0, a1, by rw [← hx, scanUp_over (by omega)]; exact ai, aj, hs1⟩
  · obtain ⟨a0, a1, ai, aj, hs1⟩ := hP
    exact k σ1 H1 a0 a1 ai aj hs1
theorem partOrdB_ok (hc : Con con lives) {R : List HP} {H : CH} {b e s a n i j : Nat} {d : Array Nat} {σ : TF} {Q : KX} (hs : Sat (RowA b e s d :: R) H) (hn : d.size = n) (hn2 : n ≤ 1000000) (ha : a < n) (hj : j < n) (hi : 0 < i)
    (e0 : σ 0 = slc b 0 n n) (e1 : σ 1 = iN a) (ei : σ 10 = iN i) (ej : σ 11 = iN j)
    (k : ∀ σ1 H1, σ1 0 = slc b 0 n n → σ1 1 = iN a → σ1 10 = iN i → σ1 11 = iN (Sort.scanDown (fun x => !ltU x d[a]!) d i j) → Sat (RowA b e s d :: R) H1 → Q (.exit 2) σ1 H1) :
    LoopC Tryz.prog con (lpAt Tryz.prog 162 1) σ H Q := by
  refine LoopC.indP (n := 200) (id := 2) (fun σ1 H1 => σ1 0 = slc b 0 n n ∧ σ1 1 = iN a ∧ σ1 10 = iN i ∧ σ1 11 = iN (Sort.scanDown (fun x => !ltU x d[a]!) d i j) ∧ Sat (RowA b e s d :: R) H1) (by kernel_rfl)
    (fun (x : Nat) σ1 H1 => x < n ∧ Sort.scanDown (fun x => !ltU x d[a]!) d i x = Sort.scanDown (fun x => !ltU x d[a]!) d i j ∧ σ1 0 = slc b 0 n n ∧ σ1 1 = iN a ∧ σ1 10 = iN i ∧ σ1 11 = iN x ∧ Sat (RowA b e s d :: R) H1)
    (fun x => x) (fun x σ1 H1 hI => ?_) (fun σ1 H1 hP => ?_) j _ _ ⟨hj, rfl, e0, e1, ei, ej, hs⟩
  · obtain ⟨hxn, hx, a0, a1, ai, aj, hs1⟩ := hI
    rw [partOrdB_W]
    simp only [ai, aj, a0, a1]
    repeat (first | refine run ?_ | refine ct ?_ | refine cf ?_ | refine sk ?_ | refine la rfl ?_ | refine na fun _ _ _ => ?_ | refine sa rfl fun _ _ => ?_ | refine nk ?_ | refine mu ?_ | refine ac ?_ | refine ai ?_)
    by_cases h : i ≤ x
    · refine Cd.t (leZ_t h) ?_
      repeat (first | refine run ?_ | refine ct ?_ | refine cf ?_ | refine sk ?_ | refine la rfl ?_ | refine na fun _ _ _ => ?_ | refine sa rfl fun _ _ => ?_ | refine nk ?_ | refine mu ?_ | refine ac ?_ | refine ai ?_)
      refine Must.mk (ltN_t (by omega)) (ldA hs1 (by omega) rfl ?_)
      repeat (first | refine run ?_ | refine ct ?_ | refine cf ?_ | refine sk ?_ | refine la rfl ?_ | refine na fun _ _ _ => ?_ | refine sa rfl fun _ _ => ?_ | refine nk ?_ | refine mu ?_ | refine ac ?_ | refine ai ?_)
      refine Must.mk (ltN_t (by omega)) (ldA hs1 (by omega) rfl ?_)
      repeat (first | refine run ?_ | refine ct ?_ | refine cf ?_ | refine sk ?_ | refine la rfl ?_ | refine na fun _ _ _ => ?_ | refine sa rfl fun _ _ => ?_ | refine nk ?_ | refine mu ?_ | refine ac ?_ | refine ai ?_)
      refine cmpLess_ok hc ?_
      repeat (first | refine run ?_ | refine ct ?_ | refine cf ?_ | refine sk ?_ | refine la rfl ?_ | refine na fun _ _ _ => ?_ | refine sa rfl fun _ _ => ?_ | refine nk ?_ | refine mu ?_ | refine ac ?_ | refine ai ?_)
      try rw [notB_not]
      by_cases hp : (fun x => !ltU x d[a]!) d[x]! = true
      · refine Cd.t hp ?_
        repeat (first | refine run ?_ | refine ct ?_ | refine cf ?_ | refine sk ?_ | refine la rfl ?_ | refine na fun _ _ _ => ?_ | refine sa rfl fun _ _ => ?_ | refine nk ?_ | refine mu ?_ | refine ac ?_ | refine ai ?_)
        rw [subInt (by omega)]
        refine inR_nat (by omega) ?_
        repeat (first | refine run ?_ | refine ct ?_ | refine cf ?_ | refine sk ?_ | refine la rfl ?_ | refine na fun _ _ _ => ?_ | refine sa rfl fun _ _ => ?_ | refine nk ?_ | refine mu ?_ | refine ac ?_ | refine ai ?_)
        show ∃ y, _ ∧ _
        exact ⟨x - 1, by omega, by omega, (scanDown_go (p := (fun x => !ltU x d[a]!)) (by omega) h hp).symm.trans hx, a0, a1, ai, rfl, hs1⟩
      · have hp := Bool.eq_false_iff.2 hp
        refine Cd.f hp ?_
        show _ = _ ∧ _
        exact ⟨rfl, a0, a1, ai, by rw [← hx, scanDown_stop (p := (fun x => !ltU x d[a]!)) hp]; exact aj, hs1⟩
    · refine Cd.f (leZ_f (by omega)) ?_
      show _ = _ ∧ _
      exact ⟨rfl, a0, a1, ai, by rw [← hx, scanDown_over (by omega)]; exact aj, hs1⟩
  · obtain ⟨a0, a1, ai, aj, hs1⟩ := hP
    exact k σ1 H1 a0 a1 ai aj hs1
theorem partOrdD_ok (hc : Con con lives) {R : List HP} {H : CH} {b e s a n i j : Nat} {d : Array Nat} {σ : TF} {Q : KX} (hs : Sat (RowA b e s d :: R) H) (hn : d.size = n) (hn2 : n ≤ 1000000) (ha : a < n) (hj : j < n)
    (e0 : σ 0 = slc b 0 n n) (e1 : σ 1 = iN a) (ei : σ 10 = iN i) (ej : σ 11 = iN j)
    (k : ∀ σ1 H1, σ1 0 = slc b 0 n n → σ1 1 = iN a → σ1 10 = iN (Sort.scanUp (fun x => ltU x d[a]!) d j i) → σ1 11 = iN j → Sat (RowA b e s d :: R) H1 → Q (.exit 6) σ1 H1) :
    LoopC Tryz.prog con (lpAt Tryz.prog 162 3) σ H Q := by
  refine LoopC.indP (n := 200) (id := 6) (fun σ1 H1 => σ1 0 = slc b 0 n n ∧ σ1 1 = iN a ∧ σ1 10 = iN (Sort.scanUp (fun x => ltU x d[a]!) d j i) ∧ σ1 11 = iN j ∧ Sat (RowA b e s d :: R) H1) (by kernel_rfl)
    (fun (x : Nat) σ1 H1 => Sort.scanUp (fun x => ltU x d[a]!) d j x = Sort.scanUp (fun x => ltU x d[a]!) d j i ∧ σ1 0 = slc b 0 n n ∧ σ1 1 = iN a ∧ σ1 10 = iN x ∧ σ1 11 = iN j ∧ Sat (RowA b e s d :: R) H1)
    (fun x => j + 1 - x) (fun x σ1 H1 hI => ?_) (fun σ1 H1 hP => ?_) i _ _ ⟨rfl, e0, e1, ei, ej, hs⟩
  · obtain ⟨hx, a0, a1, ai, aj, hs1⟩ := hI
    rw [partOrdD_W]
    simp only [ai, aj, a0, a1]
    repeat (first | refine run ?_ | refine ct ?_ | refine cf ?_ | refine sk ?_ | refine la rfl ?_ | refine na fun _ _ _ => ?_ | refine sa rfl fun _ _ => ?_ | refine nk ?_ | refine mu ?_ | refine ac ?_ | refine ai ?_)
    by_cases h : x ≤ j
    · refine Cd.t (leZ_t h) ?_
      repeat (first | refine run ?_ | refine ct ?_ | refine cf ?_ | refine sk ?_ | refine la rfl ?_ | refine na fun _ _ _ => ?_ | refine sa rfl fun _ _ => ?_ | refine nk ?_ | refine mu ?_ | refine ac ?_ | refine ai ?_)
      refine Must.mk (ltN_t (by omega)) (ldA hs1 (by omega) rfl ?_)
      repeat (first | refine run ?_ | refine ct ?_ | refine cf ?_ | refine sk ?_ | refine la rfl ?_ | refine na fun _ _ _ => ?_ | refine sa rfl fun _ _ => ?_ | refine nk ?_ | refine mu ?_ | refine ac ?_ | refine ai ?_)
      refine Must.mk (ltN_t (by omega)) (ldA hs1 (by omega) rfl ?_)
      repeat (first | refine run ?_ | refine ct ?_ | refine cf ?_ | refine sk ?_ | refine la rfl ?_ | refine na fun _ _ _ => ?_ | refine sa rfl fun _ _ => ?_ | refine nk ?_ | refine mu ?_ | refine ac ?_ | refine ai ?_)
      refine cmpLess_ok hc ?_
      repeat (first | refine run ?_ | refine ct ?_ | refine cf ?_ | refine sk ?_ | refine la rfl ?_ | refine na fun _ _ _ => ?_ | refine sa rfl fun _ _ => ?_ | refine nk ?_ | refine mu ?_ | refine ac ?_ | refine ai ?_)
      try rw [notB_not]
      by_cases hp : (fun x => ltU x d[a]!) d[x]! = true
      · refine Cd.t hp ?_
        repeat (first | refine run ?_ | refine ct ?_ | refine cf ?_ | refine sk ?_ | refine la rfl ?_ | refine na fun _ _ _ => ?_ | refine sa rfl fun _ _ => ?_ | refine nk ?_ | refine mu ?_ | refine ac ?_ | refine ai ?_)
        try rw [addInt]
        refine inR_nat (by omega) ?_
        repeat (first | refine run ?_ | refine ct ?_ | refine cf ?_ | refine sk ?_ | refine la rfl ?_ | refine na fun _ _ _ => ?_ | refine sa rfl fun _ _ => ?_ | refine nk ?_ | refine mu ?_ | refine ac ?_ | refine ai ?_)
        show ∃ y, _ ∧ _
        exact ⟨x + 1, by omega, (scanUp_go (p := (fun x => ltU x d[a]!)) h hp).symm.trans hx, a0, a1, rfl, aj, hs1⟩
      · have hp := Bool.eq_false_iff.2 hp
        refine Cd.f hp ?_
        show _ = _ ∧ _
        exact ⟨rfl, a0, a1, by rw [← hx, scanUp_stop (p := (fun x => ltU x d[a]!)) hp]; exact ai, aj, hs1⟩
    · refine Cd.f (leZ_f (by omega)) ?_
      show _ = _ ∧ _
      exact ⟨rfl, a0, a1, by rw [← hx, scanUp_over (by omega)]; exact ai, aj, hs1⟩
  · obtain ⟨a0, a1, ai, aj, hs1⟩ := hP
    exact k σ1 H1 a0 a1 ai aj hs1
theorem partOrdE_ok (hc : Con con lives) {R : List HP} {H : CH} {b e s a n i j : Nat} {d : Array Nat} {σ : TF} {Q : KX} (hs : Sat (RowA b e s d :: R) H) (hn : d.size = n) (hn2 : n ≤ 1000000) (ha : a < n) (hj : j < n) (hi : 0 < i)
    (e0 : σ 0 = slc b 0 n n) (e1 : σ 1 = iN a) (ei : σ 10 = iN i) (ej : σ 11 = iN j)
    (k : ∀ σ1 H1, σ1 0 = slc b 0 n n → σ1 1 = iN a → σ1 10 = iN i → σ1 11 = iN (Sort.scanDown (fun x => !ltU x d[a]!) d i j) → Sat (RowA b e s d :: R) H1 → Q (.exit 8) σ1 H1) :
    LoopC Tryz.prog con (lpAt Tryz.prog 162 4) σ H Q := by
  refine LoopC.indP (n := 200) (id := 8) (fun σ1 H1 => σ1 0 = slc b 0 n n ∧ σ1 1 = iN a ∧ σ1 10 = iN i ∧ σ1 11 = iN (Sort.scanDown (fun x => !ltU x d[a]!) d i j) ∧ Sat (RowA b e s d :: R) H1) (by kernel_rfl)
    (fun (x : Nat) σ1 H1 => x < n ∧ Sort.scanDown (fun x => !ltU x d[a]!) d i x = Sort.scanDown (fun x => !ltU x d[a]!) d i j ∧ σ1 0 = slc b 0 n n ∧ σ1 1 = iN a ∧ σ1 10 = iN i ∧ σ1 11 = iN x ∧ Sat (RowA b e s d :: R) H1)
    (fun x => x) (fun x σ1 H1 hI => ?_) (fun σ1 H1 hP => ?_) j _ _ ⟨hj, rfl, e0, e1, ei, ej, hs⟩
  · obtain ⟨hxn, hx, a0, a1, ai, aj, hs1⟩ := hI
    rw [partOrdE_W]
    simp only [ai, aj, a0, a1]
    repeat (first | refine run ?_ | refine ct ?_ | refine cf ?_ | refine sk ?_ | refine la rfl ?_ | refine na fun _ _ _ => ?_ | refine sa rfl fun _ _ => ?_ | refine nk ?_ | refine mu ?_ | refine ac ?_ | refine ai ?_)
    by_cases h : i ≤ x
    · refine Cd.t (leZ_t h) ?_
      repeat (first | refine run ?_ | refine ct ?_ | refine cf ?_ | refine sk ?_ | refine la rfl ?_ | refine na fun _ _ _ => ?_ | refine sa rfl fun _ _ => ?_ | refine nk ?_ | refine mu ?_ | refine ac ?_ | refine ai ?_)
      refine Must.mk (ltN_t (by omega)) (ldA hs1 (by omega) rfl ?_)
      repeat (first | refine run ?_ | refine ct ?_ | refine cf ?_ | refine sk ?_ | refine la rfl ?_ | refine na fun _ _ _ => ?_ | refine sa rfl fun _ _ => ?_ | refine nk ?_ | refine mu ?_ | refine ac ?_ | refine ai ?_)
      refine Must.mk (ltN_t (by omega)) (ldA hs1 (by omega) rfl ?_)
      repeat (first | refine run ?_ | refine ct ?_ | refine cf ?_ | refine sk ?_ | refine la rfl ?_ | refine na fun _ _ _ => ?_ | refine sa rfl fun _ _ => ?_ | refine nk ?_ | refine mu ?_ | refine ac ?_ | refine ai ?_)
      refine cmpLess_ok hc ?_
      repeat (first | refine run ?_ | refine ct ?_ | refine cf ?_ | refine sk ?_ | refine la rfl ?_ | refine na fun _ _ _ => ?_ | refine sa rfl fun _ _ => ?_ | refine nk ?_ | refine mu ?_ | refine ac ?_ | refine ai ?_)
      try rw [notB_not]
      by_cases hp : (fun x => !ltU x d[a]!) d[x]! = true
      · refine Cd.t hp ?_
        repeat (first | refine run ?_ | refine ct ?_ | refine cf ?_ | refine sk ?_ | refine la rfl ?_ | refine na fun _ _ _ => ?_ | refine sa rfl fun _ _ => ?_ | refine nk ?_ | refine mu ?_ | refine ac ?_ | refine ai ?_)
        rw [subInt (by omega)]
        refine inR_nat (by omega) ?_
        repeat (first | refine run ?_ | refine ct ?_ | refine cf ?_ | refine sk ?_ | refine la rfl ?_ | refine na fun _ _ _ => ?_ | refine sa rfl fun _ _ => ?_ | refine nk ?_ | refine mu ?_ | refine ac ?_ | refine ai ?_)
        show ∃ y, _ ∧ _
        exact ⟨x - 1, by omega, by omega, (scanDown_go (p := (fun x => !ltU x d[a]!)) (by omega) h hp).symm.trans hx, a0, a1, ai, rfl, hs1⟩
      · have hp := Bool.eq_false_iff.2 hp
        refine Cd.f hp ?_
        show _ = _ ∧ _
        exact ⟨rfl, a0, a1, ai, by rw [← hx, scanDown_stop (p := (fun x => !ltU x d[a]!)) hp]; exact aj, hs1⟩
    · refine Cd.f (leZ_f (by omega)) ?_
      show _ = _ ∧ _
      exact ⟨rfl, a0, a1, ai, by rw [← hx, scanDown_over (by omega)]; exact aj, hs1⟩
  · obtain ⟨a0, a1, ai, aj, hs1⟩ := hP
    exact k σ1 H1 a0 a1 ai aj hs1
theorem partEqLp (hc : Con con lives) {R : List HP} {H : CH} {b e s a n i j : Nat} {d : Array Nat} {σ : TF} {Q : KX} (hs : Sat (RowA b e s d :: R) H) (hn : d.size = n) (hn2 : n ≤ 1000000) (hai : a < i) (ha : a < n) (hj : j < n)
    (e0 : σ 0 = slc b 0 n n) (e1 : σ 1 = iN a) (ei : σ 9 = iN i) (ej : σ 10 = iN j)
    (k : ∀ σ1 H1, σ1 0 = slc b 0 n n → σ1 1 = iN a → σ1 9 = iN (Sort.partEqLoop ltU a i j d).1 → Sat (RowA b e s (Sort.partEqLoop ltU a i j d).2 :: R) H1 → Q (.exit 0) σ1 H1) :
    LoopC Tryz.prog con (lpAt Tryz.prog 161 0) σ H Q := by
  refine LoopC.indP (n := 200) (id := 0) (fun σ1 H1 => σ1 0 = slc b 0 n n ∧ σ1 1 = iN a ∧ σ1 9 = iN (Sort.partEqLoop ltU a i j d).1 ∧ Sat (RowA b e s (Sort.partEqLoop ltU a i j d).2 :: R) H1) (by kernel_rfl)
    (fun (x : Nat × Nat) σ1 H1 => a < x.1 ∧ x.2 < n ∧ σ1 0 = slc b 0 n n ∧ σ1 1 = iN a ∧ σ1 9 = iN x.1 ∧ σ1 10 = iN x.2 ∧ ∃ d1, d1.size = n ∧ Sort.partEqLoop ltU a x.1 x.2 d1 = Sort.partEqLoop ltU a i j d ∧ Sat (RowA b e s d1 :: R) H1)
    (fun x => x.2 + 1 - x.1) (fun x σ1 H1 hI => ?_) (fun σ1 H1 hP => ?_) (i, j) _ _ ⟨hai, hj, e0, e1, ei, ej, d, hn, rfl, hs⟩
  · obtain ⟨x, y⟩ := x
    obtain ⟨hax, hyn, a0, a1, ai, aj, d1, hd1, hl, hs1⟩ := hI
    have hax : a < x := hax
    have hyn : y < n := hyn
    rw [partEqA_W]
    have hq := Sort.partEqLoop_eq ltU a x y d1
    have g1 := Sort.scanUp_ge (fun x => !ltU d1[a]! x) d1 y x
    have g2 := Sort.scanDown_le (fun x => ltU d1[a]! x) d1 (Sort.scanUp (fun x => !ltU d1[a]! x) d1 y x) y
    refine partEqB_ok hc hs1 hd1 hn2 ha hyn a0 a1 ai aj fun σ2 H2 b0 b1 bi bj h2 => ?_
    show Cd _ _ _
    refine Cd.t rfl ?_
    have h0 : 0 < Sort.scanUp (fun x => !ltU d1[a]! x) d1 y x := Nat.lt_of_lt_of_le (by omega) g1
    refine partEqC_ok hc h2 hd1 hn2 ha hyn h0 b0 b1 bi bj fun σ3 H3 c0 c1 ci cj h3 => ?_
    show Cd _ _ _
    refine Cd.t rfl ?_
    clear h2 bi bj
    generalize Sort.scanUp (fun x => !ltU d1[a]! x) d1 y x = i2 at *
    generalize Sort.scanDown (fun x => ltU d1[a]! x) d1 i2 y = j2 at *
    simp only [ci, cj, c0, c1]
    repeat (first | refine run ?_ | refine ct ?_ | refine cf ?_ | refine sk ?_ | refine la rfl ?_ | refine na fun _ _ _ => ?_ | refine sa rfl fun _ _ => ?_ | refine nk ?_ | refine mu ?_ | refine ac ?_ | refine ai ?_)
    by_cases h : j2 < i2
    · rw [if_pos h] at hq
      refine Cd.t (ltZ_t h) ?_
      show _ = _ ∧ _
      exact ⟨rfl, c0, c1, by rw [← hl, hq]; exact ci, by rw [← hl, hq]; exact h3⟩
    · rw [if_neg h] at hq
      refine Cd.f (ltZ_f (by omega)) ?_
      repeat (first | refine run ?_ | refine ct ?_ | refine cf ?_ | refine sk ?_ | refine la rfl ?_ | refine na fun _ _ _ => ?_ | refine sa rfl fun _ _ => ?_ | refine nk ?_ | refine mu ?_ | refine ac ?_ | refine ai ?_)
      refine Must.mk (ltN_t (by omega)) (ldA h3 (by omega) rfl ?_)
      repeat (first | refine run ?_ | refine ct ?_ | refine cf ?_ | refine sk ?_ | refine la rfl ?_ | refine na fun _ _ _ => ?_ | refine sa rfl fun _ _ => ?_ | refine nk ?_ | refine mu ?_ | refine ac ?_ | refine ai ?_)
      refine Must.mk (ltN_t (by omega)) (ldA h3 (by omega) rfl ?_)
      repeat (first | refine run ?_ | refine ct ?_ | refine cf ?_ | refine sk ?_ | refine la rfl ?_ | refine na fun _ _ _ => ?_ | refine sa rfl fun _ _ => ?_ | refine nk ?_ | refine mu ?_ | refine ac ?_ | refine ai ?_)
      refine Must.mk (ltN_t (by omega)) ?_
      repeat (first | refine run ?_ | refine ct ?_ | refine cf ?_ | refine sk ?_ | refine la rfl ?_ | refine na fun _ _ _ => ?_ | refine sa rfl fun _ _ => ?_ | refine nk ?_ | refine mu ?_ | refine ac ?_ | refine ai ?_)
      refine st h3 (by rw [lenA, off1]; omega) rfl fun _ hx => ?_
      repeat (first | refine run ?_ | refine ct ?_ | refine cf ?_ | refine sk ?_ | refine la rfl ?_ | refine na fun _ _ _ => ?_ | refine sa rfl fun _ _ => ?_ | refine nk ?_ | refine mu ?_ | refine ac ?_ | refine ai ?_)
      refine Must.mk (ltN_t (by omega)) ?_
      repeat (first | refine run ?_ | refine ct ?_ | refine cf ?_ | refine sk ?_ | refine la rfl ?_ | refine na fun _ _ _ => ?_ | refine sa rfl fun _ _ => ?_ | refine nk ?_ | refine mu ?_ | refine ac ?_ | refine ai ?_)
      refine st hx (by rw [List.length_set, lenA, off1]; omega) rfl fun _ hy => ?_
      rw [off1, off1, swpA (by omega) (by omega)] at hy
      clear hx
      repeat (first | refine run ?_ | refine ct ?_ | refine cf ?_ | refine sk ?_ | refine la rfl ?_ | refine na fun _ _ _ => ?_ | refine sa rfl fun _ _ => ?_ | refine nk ?_ | refine mu ?_ | refine ac ?_ | refine ai ?_)
      try rw [addInt]
      refine inR_nat (by omega) ?_
      repeat (first | refine run ?_ | refine ct ?_ | refine cf ?_ | refine sk ?_ | refine la rfl ?_ | refine na fun _ _ _ => ?_ | refine sa rfl fun _ _ => ?_ | refine nk ?_ | refine mu ?_ | refine ac ?_ | refine ai ?_)
      rw [subInt (by omega)]
      refine inR_nat (by omega) ?_
      repeat (first | refine run ?_ | refine ct ?_ | refine cf ?_ | refine sk ?_ | refine la rfl ?_ | refine na fun _ _ _ => ?_ | refine sa rfl fun _ _ => ?_ | refine nk ?_ | refine mu ?_ | refine ac ?_ | refine ai ?_)
      show ∃ y, _ ∧ _
      exact ⟨(i2 + 1, j2 - 1), by show j2 - 1 + 1 - (i2 + 1) < y + 1 - x; omega, by show a < i2 + 1; omega, by show j2 - 1 < n; omega, c0, c1, rfl, rfl, _, by rw [Sort.size_swp]; exact hd1, by rw [← hl, hq], hy⟩
  · obtain ⟨a0, a1, ai, hs1⟩ := hP
    exact k σ1 H1 a0 a1 ai hs1
theorem partOrdLp (hc : Con con lives) {R : List HP} {H : CH} {b e s a n i j : Nat} {d : Array Nat} {σ : TF} {Q : KX} (hs : Sat (RowA b e s d :: R) H) (hn : d.size = n) (hn2 : n ≤ 1000000) (hai : a < i) (ha : a < n) (hj : j < n)
    (e0 : σ 0 = slc b 0 n n) (e1 : σ 1 = iN a) (ei : σ 10 = iN i) (ej : σ 11 = iN j)
    (k : ∀ σ1 H1, σ1 0 = slc b 0 n n → σ1 1 = iN a → σ1 11 = iN (Sort.partLoop ltU a i j d).1 → Sat (RowA b e s (Sort.partLoop ltU a i j d).2 :: R) H1 → Q (.exit 4) σ1 H1) :
    LoopC Tryz.prog con (lpAt Tryz.prog 162 2) σ H Q := by
  refine LoopC.indP (n := 200) (id := 4) (fun σ1 H1 => σ1 0 = slc b 0 n n ∧ σ1 1 = iN a ∧ σ1 11 = iN (Sort.partLoop ltU a i j d).1 ∧ Sat (RowA b e s (Sort.partLoop ltU a i j d).2 :: R) H1) (by kernel_rfl)
    (fun (x : Nat × Nat) σ1 H1 => a < x.1 ∧ x.2 < n ∧ σ1 0 = slc b 0 n n ∧ σ1 1 = iN a ∧ σ1 10 = iN x.1 ∧ σ1 11 = iN x.2 ∧ ∃ d1, d1.size = n ∧ Sort.partLoop ltU a x.1 x.2 d1 = Sort.partLoop ltU a i j d ∧ Sat (RowA b e s d1 :: R) H1)
    (fun x => x.2 + 1 - x.1) (fun x σ1 H1 hI => ?_) (fun σ1 H1 hP => ?_) (i, j) _ _ ⟨hai, hj, e0, e1, ei, ej, d, hn, rfl, hs⟩
  · obtain ⟨x, y⟩ := x
    obtain ⟨hax, hyn, a0, a1, ai, aj, d1, hd1, hl, hs1⟩ := hI
    have hax : a < x := hax
    have hyn : y < n := hyn
    rw [partOrdC_W]
    have hq := Sort.partLoop_eq ltU a x y d1
    have g1 := Sort.scanUp_ge (fun x => ltU x d1[a]!) d1 y x
    have g2 := Sort.scanDown_le (fun x => !ltU x d1[a]!) d1 (Sort.scanUp (fun x => ltU x d1[a]!) d1 y x) y
    refine partOrdD_ok hc hs1 hd1 hn2 ha hyn a0 a1 ai aj fun σ2 H2 b0 b1 bi bj h2 => ?_
    show Cd _ _ _
    refine Cd.t rfl ?_
    have h0 : 0 < Sort.scanUp (fun x => ltU x d1[a]!) d1 y x := Nat.lt_of_lt_of_le (by omega) g1
    refine partOrdE_ok hc h2 hd1 hn2 ha hyn h0 b0 b1 bi bj fun σ3 H3 c0 c1 ci cj h3 => ?_
    show Cd _ _ _
    refine Cd.t rfl ?_
    clear h2 bi bj
    generalize Sort.scanUp (fun x => ltU x d1[a]!) d1 y x = i2 at *
    generalize Sort.scanDown (fun x => !ltU x d1[a]!) d1 i2 y = j2 at *
    simp only [ci, cj, c0, c1]
    repeat (first | refine run ?_ | refine ct ?_ | refine cf ?_ | refine sk ?_ | refine la rfl ?_ | refine na fun _ _ _ => ?_ | refine sa rfl fun _ _ => ?_ | refine nk ?_ | refine mu ?_ | refine ac ?_ | refine ai ?_)
    by_cases h : j2 < i2
    · rw [if_pos h] at hq
      refine Cd.t (ltZ_t h) ?_
      show _ = _ ∧ _
      exact ⟨rfl, c0, c1, by rw [← hl, hq]; exact cj, by rw [← hl, hq]; exact h3⟩
    · rw [if_neg h] at hq
      refine Cd.f (ltZ_f (by omega)) ?_
      repeat (first | refine run ?_ | refine ct ?_ | refine cf ?_ | refine sk ?_ | refine la rfl ?_ | refine na fun _ _ _ => ?_ | refine sa rfl fun _ _ => ?_ | refine nk ?_ | refine mu ?_ | refine ac ?_ | refine ai ?_)
      refine Must.mk (ltN_t (by omega)) (ldA h3 (by omega) rfl ?_)
      repeat (first | refine run ?_ | refine ct ?_ | refine cf ?_ | refine sk ?_ | refine la rfl ?_ | refine na fun _ _ _ => ?_ | refine sa rfl fun _ _ => ?_ | refine nk ?_ | refine mu ?_ | refine ac ?_ | refine ai ?_)
      refine Must.mk (ltN_t (by omega)) (ldA h3 (by omega) rfl ?_)
      repeat (first | refine run ?_ | refine ct ?_ | refine cf ?_ | refine sk ?_ | refine la rfl ?_ | refine na fun _ _ _ => ?_ | refine sa rfl fun _ _ => ?_ | refine nk ?_ | refine mu ?_ | refine ac ?_ | refine ai ?_)
      refine Must.mk (ltN_t (by omega)) ?_
      repeat (first | refine run ?_ | refine ct ?_ | refine cf ?_ | refine sk ?_ | refine la rfl ?_ | refine na fun _ _ _ => ?_ | refine sa rfl fun _ _ => ?_ | refine nk ?_ | refine mu ?_ | refine ac ?_ | refine ai ?_)
      refine st h3 (by rw [lenA, off1]; omega) rfl fun _ hx => ?_
      repeat (first | refine run ?_ | refine ct ?_ | refine cf ?_ | refine sk ?_ | refine la rfl ?_ | refine na fun _ _ _ => ?_ | refine sa rfl fun _ _ => ?_ | refine nk ?_ | refine mu ?_ | refine ac ?_ | refine ai ?_)
      refine Must.mk (ltN_t (by omega)) ?_
      repeat (first | refine run ?_ | refine ct ?_ | refine cf ?_ | refine sk ?_ | refine la rfl ?_ | refine na fun _ _ _ => ?_ | refine sa rfl fun _ _ => ?_ | refine nk ?_ | refine mu ?_ | refine ac ?_ | refine ai ?_)
      refine st hx (by rw [List.length_set, lenA, off1]; omega) rfl fun _ hy => ?_
      rw [off1, off1, swpA (by omega) (by omega)] at hy
      clear hx
      repeat (first | refine run ?_ | refine ct ?_ | refine cf ?_ | refine sk ?_ | refine la rfl ?_ | refine na fun _ _ _ => ?_ | refine sa rfl fun _ _ => ?_ | refine nk ?_ | refine mu ?_ | refine ac ?_ | refine ai ?_)
      try rw [addInt]
      refine inR_nat (by omega) ?_
      repeat (first | refine run ?_ | refine ct ?_ | refine cf ?_ | refine sk ?_ | refine la rfl ?_ | refine na fun _ _ _ => ?_ | refine sa rfl fun _ _ => ?_ | refine nk ?_ | refine mu ?_ | refine ac ?_ | refine ai ?_)
      rw [subInt (by omega)]
      refine inR_nat (by omega) ?_
      repeat (first | refine run ?_ | refine ct ?_ | refine cf ?_ | refine sk ?_ | refine la rfl ?_ | refine na fun _ _ _ => ?_ | refine sa rfl fun _ _ => ?_ | refine nk ?_ | refine mu ?_ | refine ac ?_ | refine ai ?_)
      show ∃ y, _ ∧ _
      exact ⟨(i2 + 1, j2 - 1), by show j2 - 1 + 1 - (i2 + 1) < y + 1 - x; omega, by show a < i2 + 1; omega, by show j2 - 1 < n; omega, c0, c1, rfl, rfl, _, by rw [Sort.size_swp]; exact hd1, by rw [← hl, hq], hy⟩
  · obtain ⟨a0, a1, ai, hs1⟩ := hP
    exact k σ1 H1 a0 a1 ai hs1
theorem partEq_ok (hc : Con con lives) {L R : List HP} {H : CH} {b e s a z p n : Nat} {d : Array Nat} {K : KP} (hs : Sat L H) (hp : Pull L (RowA b e s d) R) (hn : d.size = n) (hn2 : n ≤ 1000000) (hab : a < z) (hz : z ≤ n) (hpp : p < n)
    (k : ∀ H1, Sat (RowA b e s (Sort.partitionEqual ltU d a z p).2 :: R) H1 → K (iN (Sort.partitionEqual ltU d a z p).1) H1) : Call1 Tryz.prog con 161 [slc b 0 n n, iN a, iN z, iN p] H K := by
  refine call_of (hc _ _ _ rfl) ?_
  rw [partEq_W]
  have hs0 := hs.pull hp
  clear hs hp
  repeat (first | refine run ?_ | refine ct ?_ | refine cf ?_ | refine sk ?_ | refine la rfl ?_ | refine na fun _ _ _ => ?_ | refine sa rfl fun _ _ => ?_ | refine nk ?_ | refine mu ?_ | refine ac ?_ | refine ai ?_)
  refine Must.mk (ltN_t (by omega)) (ldA hs0 (by omega) rfl ?_)
  repeat (first | refine run ?_ | refine ct ?_ | refine cf ?_ | refine sk ?_ | refine la rfl ?_ | refine na fun _ _ _ => ?_ | refine sa rfl fun _ _ => ?_ | refine nk ?_ | refine mu ?_ | refine ac ?_ | refine ai ?_)
  refine Must.mk (ltN_t (by omega)) (ldA hs0 (by omega) rfl ?_)
  repeat (first | refine run ?_ | refine ct ?_ | refine cf ?_ | refine sk ?_ | refine la rfl ?_ | refine na fun _ _ _ => ?_ | refine sa rfl fun _ _ => ?_ | refine nk ?_ | refine mu ?_ | refine ac ?_ | refine ai ?_)
  refine Must.mk (ltN_t (by omega)) ?_
  repeat (first | refine run ?_ | refine ct ?_ | refine cf ?_ | refine sk ?_ | refine la rfl ?_ | refine na fun _ _ _ => ?_ | refine sa rfl fun _ _ => ?_ | refine nk ?_ | refine mu ?_ | refine ac ?_ | refine ai ?_)
  refine st hs0 (by rw [lenA, off1]; omega) rfl fun _ hx => ?_
  repeat (first | refine run ?_ | refine ct ?_ | refine cf ?_ | refine sk ?_ | refine la rfl ?_ | refine na fun _ _ _ => ?_ | refine sa rfl fun _ _ => ?_ | refine nk ?_ | refine mu ?_ | refine ac ?_ | refine ai ?_)
  refine Must.mk (ltN_t (by omega)) ?_
  repeat (first | refine run ?_ | refine ct ?_ | refine cf ?_ | refine sk ?_ | refine la rfl ?_ | refine na fun _ _ _ => ?_ | refine sa rfl fun _ _ => ?_ | refine nk ?_ | refine mu ?_ | refine ac ?_ | refine ai ?_)
  refine st hx (by rw [List.length_set, lenA, off1]; omega) rfl fun _ hy => ?_
  rw [off1, off1, swpA (by omega) (by omega)] at hy
  clear hx
  repeat (first | refine run ?_ | refine ct ?_ | refine cf ?_ | refine sk ?_ | refine la rfl ?_ | refine na fun _ _ _ => ?_ | refine sa rfl fun _ _ => ?_ | refine nk ?_ | refine mu ?_ | refine ac ?_ | refine ai ?_)
  try rw [addInt]
  refine inR_nat (by omega) ?_
  repeat (first | refine run ?_ | refine ct ?_ | refine cf ?_ | refine sk ?_ | refine la rfl ?_ | refine na fun _ _ _ => ?_ | refine sa rfl fun _ _ => ?_ | refine nk ?_ | refine mu ?_ | refine ac ?_ | refine ai ?_)
  rw [subInt (by omega)]
  refine inR_nat (by omega) ?_
  repeat (first | refine run ?_ | refine ct ?_ | refine cf ?_ | refine sk ?_ | refine la rfl ?_ | refine na fun _ _ _ => ?_ | refine sa rfl fun _ _ => ?_ | refine nk ?_ | refine mu ?_ | refine ac ?_ | refine ai ?_)
  refine partEqLp (a := a) hc hy (by rw [Sort.size_swp]; exact hn) hn2 (by omega) (by omega) (by omega) rfl rfl rfl rfl fun σ1 H1 a0 a1 ai h1 => ?_
  show Cd _ _ _
  refine Cd.t rfl ?_
  rw [ai]
  exact k _ h1
theorem partOrd_ok (hc : Con con lives) {L R : List HP} {H : CH} {b e s a z p n : Nat} {d : Array Nat} {K : KP} (hs : Sat L H) (hp : Pull L (RowA b e s d) R) (hn : d.size = n) (hn2 : n ≤ 1000000) (hap : a ≤ p) (hpz : p < z) (hz : z ≤ n)
    (k : ∀ H1, Sat (RowA b e s (Sort.partition ltU d a z p).2.2 :: R) H1 → K (.tuple ⟨[iN (Sort.partition ltU d a z p).1, .bool (Sort.partition ltU d a z p).2.1]⟩) H1) : Call1 Tryz.prog con 162 [slc b 0 n n, iN a, iN z, iN p] H K := by
  refine call_of (hc _ _ _ rfl) ?_
  rw [partOrd_W]
  have hs0 := hs.pull hp
  clear hs hp
  repeat (first | refine run ?_ | refine ct ?_ | refine cf ?_ | refine sk ?_ | refine la rfl ?_ | refine na fun _ _ _ => ?_ | refine sa rfl fun _ _ => ?_ | refine nk ?_ | refine mu ?_ | refine ac ?_ | refine ai ?_)
  refine Must.mk (ltN_t (by omega)) (ldA hs0 (by omega) rfl ?_)
  repeat (first | refine run ?_ | refine ct ?_ | refine cf ?_ | refine sk ?_ | refine la rfl ?_ | refine na fun _ _ _ => ?_ | refine sa rfl fun _ _ => ?_ | refine nk ?_ | refine mu ?_ | refine ac ?_ | refine ai ?_)
  refine Must.mk (ltN_t (by omega)) (ldA hs0 (by omega) rfl ?_)
  repeat (first | refine run ?_ | refine ct ?_ | refine cf ?_ | refine sk ?_ | refine la rfl ?_ | refine na fun _ _ _ => ?_ | refine sa rfl fun _ _ => ?_ | refine nk ?_ | refine mu ?_ | refine ac ?_ | refine ai ?_)
  refine Must.mk (ltN_t (by omega)) ?_
  repeat (first | refine run ?_ | refine ct ?_ | refine cf ?_ | refine sk ?_ | refine la rfl ?_ | refine na fun _ _ _ => ?_ | refine sa rfl fun _ _ => ?_ | refine nk ?_ | refine mu ?_ | refine ac ?_ | refine ai ?_)
  refine st hs0 (by rw [lenA, off1]; omega) rfl fun _ hx => ?_
  repeat (first | refine run ?_ | refine ct ?_ | refine cf ?_ | refine sk ?_ | refine la rfl ?_ | refine na fun _ _ _ => ?_ | refine sa rfl fun _ _ => ?_ | refine nk ?_ | refine mu ?_ | refine ac ?_ | refine ai ?_)
  refine Must.mk (ltN_t (by omega)) ?_
  repeat (first | refine run ?_ | refine ct ?_ | refine cf ?_ | refine sk ?_ | refine la rfl ?_ | refine na fun _ _ _ => ?_ | refine sa rfl fun _ _ => ?_ | refine nk ?_ | refine mu ?_ | refine ac ?_ | refine ai ?_)
  refine st hx (by rw [List.length_set, lenA, off1]; omega) rfl fun _ hy => ?_
  rw [off1, off1, swpA (by omega) (by omega)] at hy
  clear hx
  repeat (first | refine run ?_ | refine ct ?_ | refine cf ?_ | refine sk ?_ | refine la rfl ?_ | refine na fun _ _ _ => ?_ | refine sa rfl fun _ _ => ?_ | refine nk ?_ | refine mu ?_ | refine ac ?_ | refine ai ?_)
  try rw [addInt]
  refine inR_nat (by omega) ?_
  repeat (first | refine run ?_ | refine ct ?_ | refine cf ?_ | refine sk ?_ | refine la rfl ?_ | refine na fun _ _ _ => ?_ | refine sa rfl fun _ _ => ?_ | refine nk ?_ | refine mu ?_ | refine ac ?_ | refine ai ?_)
  rw [subInt (by omega)]
  refine inR_nat (by omega) ?_
  repeat (first | refine run ?_ | refine ct ?_ | refine cf ?_ | refine sk ?_ | refine la rfl ?_ | refine na fun _ _ _ => ?_ | refine sa rfl fun _ _ => ?_ | refine nk ?_ | refine mu ?_ | refine ac ?_ | refine ai ?_)
  have hd1 : (Sort.swp d a p).size = n := by rw [Sort.size_swp]; exact hn
  unfold Sort.partition at k
  simp only [] at k
  clear hs0
  generalize Sort.swp d a p = d1 at *
  have g1 := Sort.scanUp_ge (fun x => ltU x d1[a]!) d1 (z - 1) (a + 1)
  have g2 := Sort.scanDown_le (fun x => !ltU x d1[a]!) d1 (Sort.scanUp (fun x => ltU x d1[a]!) d1 (z - 1) (a + 1)) (z - 1)
  refine partOrdA_ok (a := a) hc hy hd1 hn2 (by omega) (by omega) rfl rfl rfl rfl fun σ2 H2 b0 b1 bi bj h2 => ?_
  show Cd _ _ _
  refine Cd.t rfl ?_
  refine partOrdB_ok hc h2 hd1 hn2 (by omega) (by omega) (by omega) b0 b1 bi bj fun σ3 H3 c0 c1 ci cj h3 => ?_
  show Cd _ _ _
  refine Cd.t rfl ?_
  clear h2 bi bj hy
  have hj2 : Sort.scanUp (fun x => ltU x d1[a]!) d1 (z - 1) (a + 1) ≤ z := by
    have := (Sort.scanUp_spec (fun x => ltU x d1[a]!) d1 (z - 1) _ (a + 1) rfl).2.1 (by omega)
    omega
  generalize Sort.scanUp (fun x => ltU x d1[a]!) d1 (z - 1) (a + 1) = i2 at *
  generalize Sort.scanDown (fun x => !ltU x d1[a]!) d1 i2 (z - 1) = j2 at *
  simp only [ci, cj, c0, c1]
  repeat (first | refine run ?_ | refine ct ?_ | refine cf ?_ | refine sk ?_ | refine la rfl ?_ | refine na fun _ _ _ => ?_ | refine sa rfl fun _ _ => ?_ | refine nk ?_ | refine mu ?_ | refine ac ?_ | refine ai ?_)
  by_cases h : j2 < i2
  · rw [if_pos (show i2 > j2 from h)] at k
    refine Cd.t (ltZ_t h) ?_
    repeat (first | refine run ?_ | refine ct ?_ | refine cf ?_ | refine sk ?_ | refine la rfl ?_ | refine na fun _ _ _ => ?_ | refine sa rfl fun _ _ => ?_ | refine nk ?_ | refine mu ?_ | refine ac ?_ | refine ai ?_)
    refine Must.mk (ltN_t (by omega)) (ldA h3 (by omega) rfl ?_)
    repeat (first | refine run ?_ | refine ct ?_ | refine cf ?_ | refine sk ?_ | refine la rfl ?_ | refine na fun _ _ _ => ?_ | refine sa rfl fun _ _ => ?_ | refine nk ?_ | refine mu ?_ | refine ac ?_ | refine ai ?_)
    refine Must.mk (ltN_t (by omega)) (ldA h3 (by omega) rfl ?_)
    repeat (first | refine run ?_ | refine ct ?_ | refine cf ?_ | refine sk ?_ | refine la rfl ?_ | refine na fun _ _ _ => ?_ | refine sa rfl fun _ _ => ?_ | refine nk ?_ | refine mu ?_ | refine ac ?_ | refine ai ?_)
    refine Must.mk (ltN_t (by omega)) ?_
    repeat (first | refine run ?_ | refine ct ?_ | refine cf ?_ | refine sk ?_ | refine la rfl ?_ | refine na fun _ _ _ => ?_ | refine sa rfl fun _ _ => ?_ | refine nk ?_ | refine mu ?_ | refine ac ?_ | refine ai ?_)
    refine st h3 (by rw [lenA, off1]; omega) rfl fun _ hx => ?_
    repeat (first | refine run ?_ | refine ct ?_ | refine cf ?_ | refine sk ?_ | refine la rfl ?_ | refine na fun _ _ _ => ?_ | refine sa rfl fun _ _ => ?_ | refine nk ?_ | refine mu ?_ | refine ac ?_ | refine ai ?_)
    refine Must.mk (ltN_t (by omega)) ?_
    repeat (first | refine run ?_ | refine ct ?_ | refine cf ?_ | refine sk ?_ | refine la rfl ?_ | refine na fun _ _ _ => ?_ | refine sa rfl fun _ _ => ?_ | refine nk ?_ | refine mu ?_ | refine ac ?_ | refine ai ?_)
    refine st hx (by rw [List.length_set, lenA, off1]; omega) rfl fun _ hy => ?_
    rw [off1, off1, swpA (by omega) (by omega)] at hy
    clear hx
    repeat (first | refine run ?_ | refine ct ?_ | refine cf ?_ | refine sk ?_ | refine la rfl ?_ | refine na fun _ _ _ => ?_ | refine sa rfl fun _ _ => ?_ | refine nk ?_ | refine mu ?_ | refine ac ?_ | refine ai ?_)
    exact k _ hy
  · rw [if_neg (show ¬ i2 > j2 from h)] at k
    refine Cd.f (ltZ_f (by omega)) ?_
    repeat (first | refine run ?_ | refine ct ?_ | refine cf ?_ | refine sk ?_ | refine la rfl ?_ | refine na fun _ _ _ => ?_ | refine sa rfl fun _ _ => ?_ | refine nk ?_ | refine mu ?_ | refine ac ?_ | refine ai ?_)
    refine Must.mk (ltN_t (by omega)) (ldA h3 (by omega) rfl ?_)
    repeat (first | refine run ?_ | refine ct ?_ | refine cf ?_ | refine sk ?_ | refine la rfl ?_ | refine na fun _ _ _ => ?_ | refine sa rfl fun _ _ => ?_ | refine nk ?_ | refine mu ?_ | refine ac ?_ | refine ai ?_)
    refine Must.mk (ltN_t (by omega)) (ldA h3 (by omega) rfl ?_)
    repeat (first | refine run ?_ | refine ct ?_ | refine cf ?_ | refine sk ?_ | refine la rfl ?_ | refine na fun _ _ _ => ?_ | refine sa rfl fun _ _ => ?_ | refine nk ?_ | refine mu ?_ | refine ac ?_ | refine ai ?_)
    refine Must.mk (ltN_t (by omega)) ?_
    repeat (first | refine run ?_ | refine ct ?_ | refine cf ?_ | refine sk ?_ | refine la rfl ?_ | refine na fun _ _ _ => ?_ | refine sa rfl fun _ _ => ?_ | refine nk ?_ | refine mu ?_ | refine ac ?_ | refine ai ?_)
    refine st h3 (by rw [lenA, off1]; omega) rfl fun _ hx => ?_
    repeat (first | refine run ?_ | refine ct ?_ | refine cf ?_ | refine sk ?_ | refine la rfl ?_ | refine na fun _ _ _ => ?_ | refine sa rfl fun _ _ => ?_ | refine nk ?_ | refine mu ?_ | refine ac ?_ | refine ai ?_)
    refine Must.mk (ltN_t (by omega)) ?_
    repeat (first | refine run ?_ | refine ct ?_ | refine cf ?_ | refine sk ?_ | refine la rfl ?_ | refine na fun _ _ _ => ?_ | refine sa rfl fun _ _ => ?_ | refine nk ?_ | refine mu ?_ | refine ac ?_ | refine ai ?_)
    refine st hx (by rw [List.length_set, lenA, off1]; omega) rfl fun _ hy => ?_
    rw [off1, off1, swpA (by omega) (by omega)] at hy
    clear hx
    repeat (first | refine run ?_ | refine ct ?_ | refine cf ?_ | refine sk ?_ | refine la rfl ?_ | refine na fun _ _ _ => ?_ | refine sa rfl fun _ _ => ?_ | refine nk ?_ | refine mu ?_ | refine ac ?_ | refine ai ?_)
    try rw [addInt]
    refine inR_nat (by omega) ?_
    repeat (first | refine run ?_ | refine ct ?_ | refine cf ?_ | refine sk ?_ | refine la rfl ?_ | refine na fun _ _ _ => ?_ | refine sa rfl fun _ _ => ?_ | refine nk ?_ | refine mu ?_ | refine ac ?_ | refine ai ?_)
    rw [subInt (by omega)]
    refine inR_nat (by omega) ?_
    repeat (first | refine run ?_ | refine ct ?_ | refine cf ?_ | refine sk ?_ | refine la rfl ?_ | refine na fun _ _ _ => ?_ | refine sa rfl fun _ _ => ?_ | refine nk ?_ | refine mu ?_ | refine ac ?_ | refine ai ?_)
    have hd2 : (Sort.swp d1 i2 j2).size = n := by rw [Sort.size_swp]; exact hd1
    refine partOrdLp (a := a) (i := i2 + 1) (j := j2 - 1) hc hy hd2 hn2 (by omega) (by omega) (by omega) c0 c1 rfl rfl fun σ4 H4 q0 q1 qj h4 => ?_
    show Cd _ _ _
    refine Cd.t rfl ?_
    obtain ⟨hr1, hr2⟩ := partLoop_facts a _ (i2 + 1) (j2 - 1) (Sort.swp d1 i2 j2) (Nat.le_refl _)
    rw [hd2] at hr2
    simp only [q0, q1, qj]
    repeat (first | refine run ?_ | refine ct ?_ | refine cf ?_ | refine sk ?_ | refine la rfl ?_ | refine na fun _ _ _ => ?_ | refine sa rfl fun _ _ => ?_ | refine nk ?_ | refine mu ?_ | refine ac ?_ | refine ai ?_)
    refine Must.mk (ltN_t (by omega)) (ldA h4 (by omega) rfl ?_)
    repeat (first | refine run ?_ | refine ct ?_ | refine cf ?_ | refine sk ?_ | refine la rfl ?_ | refine na fun _ _ _ => ?_ | refine sa rfl fun _ _ => ?_ | refine nk ?_ | refine mu ?_ | refine ac ?_ | refine ai ?_)
    refine Must.mk (ltN_t (by omega)) (ldA h4 (by omega) rfl ?_)
    repeat (first | refine run ?_ | refine ct ?_ | refine cf ?_ | refine sk ?_ | refine la rfl ?_ | refine na fun _ _ _ => ?_ | refine sa rfl fun _ _ => ?_ | refine nk ?_ | refine mu ?_ | refine ac ?_ | refine ai ?_)
    refine Must.mk (ltN_t (by omega)) ?_
    repeat (first | refine run ?_ | refine ct ?_ | refine cf ?_ | refine sk ?_ | refine la rfl ?_ | refine na fun _ _ _ => ?_ | refine sa rfl fun _ _ => ?_ | refine nk ?_ | refine mu ?_ | refine ac ?_ | refine ai ?_)
    refine st h4 (by rw [lenA, off1]; omega) rfl fun _ hx => ?_
    repeat (first | refine run ?_ | refine ct ?_ | refine cf ?_ | refine sk ?_ | refine la rfl ?_ | refine na fun _ _ _ => ?_ | refine sa rfl fun _ _ => ?_ | refine nk ?_ | refine mu ?_ | refine ac ?_ | refine ai ?_)
    refine Must.mk (ltN_t (by omega)) ?_
    repeat (first | refine run ?_ | refine ct ?_ | refine cf ?_ | refine sk ?_ | refine la rfl ?_ | refine na fun _ _ _ => ?_ | refine sa rfl fun _ _ => ?_ | refine nk ?_ | refine mu ?_ | refine ac ?_ | refine ai ?_)
    refine st hx (by rw [List.length_set, lenA, off1]; omega) rfl fun _ hy => ?_
    rw [off1, off1, swpA (by omega) (by omega)] at hy
    clear hx
    repeat (first | refine run ?_ | refine ct ?_ | refine cf ?_ | refine sk ?_ | refine la rfl ?_ | refine na fun _ _ _ => ?_ | refine sa rfl fun _ _ => ?_ | refine nk ?_ | refine mu ?_ | refine ac ?_ | refine ai ?_)
    exact k _ hy
end Go.Proofs.YtipbbnoepphdkaaGreat

set_option linter.unusedVariables false
set_option linter.unusedSimpArgs false
namespace Go.Proofs.YtipbbnoepphdkaaGreat
open Go Go.CM
attribute [local irreducible] AsBool AsWant AsNat AsInt AsCnt AsPtr AsSlc AsLen AsStr AsAgg AsTup AsFn AsIfc Nth Sc NotNil IsNil Must Cd codeW funW Sat SatL wrapN subM mkRow ltZ leZ ltN leN
variable {con : CallT}
abbrev KeepP (σ1 : TF) (b n a z c : Nat) : Prop := σ1 0 = slc b 0 n n ∧ σ1 1 = iN a ∧ σ1 2 = iN z ∧ σ1 8 = iN c
theorem scanSorted_at {d : Array Nat} {z x : Nat} : Sort.scanSorted ltU d z x = if (decide (x < z) && !ltU d[x]! d[x - 1]!) = true then Sort.scanSorted ltU d z (x + 1) else x := by rw [Sort.scanSorted]
theorem partInsB_ok (hc : Con con lives) {R : List HP} {H : CH} {b e s a z n i c : Nat} {d : Array Nat} {σ : TF} {Q : KX} (hs : Sat (RowA b e s d :: R) H) (hn : d.size = n) (hn2 : n ≤ 1000000) (hz : z ≤ n) (hi : 0 < i) (hiz : i ≤ z)
    (e0 : σ 0 = slc b 0 n n) (e1 : σ 1 = iN a) (e2 : σ 2 = iN z) (e8 : σ 8 = iN c) (ei : σ 7 = iN i)
    (k : ∀ σ1 H1 y, Sort.scanSorted ltU d z i = y → i ≤ y → y ≤ z → σ1 0 = slc b 0 n n → σ1 1 = iN a → σ1 2 = iN z → σ1 8 = iN c → σ1 7 = iN y → Sat (RowA b e s d :: R) H1 → Q (.exit 2) σ1 H1) :
    LoopC Tryz.prog con (lpAt Tryz.prog 159 1) σ H Q := by
  refine LoopC.indP (n := 200) (id := 2) (fun σ1 H1 => ∃ y, Sort.scanSorted ltU d z i = y ∧ i ≤ y ∧ y ≤ z ∧ KeepP σ1 b n a z c ∧ σ1 7 = iN y ∧ Sat (RowA b e s d :: R) H1) (by kernel_rfl)
    (fun (x : Nat) σ1 H1 => Sort.scanSorted ltU d z i = Sort.scanSorted ltU d z x ∧ i ≤ x ∧ x ≤ z ∧ KeepP σ1 b n a z c ∧ σ1 7 = iN x ∧ Sat (RowA b e s d :: R) H1)
    (fun x => z - x) (fun x σ1 H1 hI => ?_) (fun σ1 H1 hP => ?_) i _ _ ⟨rfl, Nat.le_refl _, hiz, ⟨e0, e1, e2, e8⟩, ei, hs⟩
  · obtain ⟨hx, hix, hxz, ⟨a0, a1, a2, a8⟩, a7, hs1⟩ := hI
    rw [partInsB_W]
    simp only [a7, a2, a0, a1]
    repeat (first | refine run ?_ | refine ct ?_ | refine cf ?_ | refine sk ?_ | refine la rfl ?_ | refine na fun _ _ _ => ?_ | refine sa rfl fun _ _ => ?_ | refine nk ?_ | refine mu ?_ | refine ac ?_ | refine ai ?_)
    by_cases h : x < z
    · refine Cd.t (ltZ_t h) ?_
      repeat (first | refine run ?_ | refine ct ?_ | refine cf ?_ | refine sk ?_ | refine la rfl ?_ | refine na fun _ _ _ => ?_ | refine sa rfl fun _ _ => ?_ | refine nk ?_ | refine mu ?_ | refine ac ?_ | refine ai ?_)
      refine Must.mk (ltN_t (by omega)) (ldA hs1 (by omega) rfl ?_)
      repeat (first | refine run ?_ | refine ct ?_ | refine cf ?_ | refine sk ?_ | refine la rfl ?_ | refine na fun _ _ _ => ?_ | refine sa rfl fun _ _ => ?_ | refine nk ?_ | refine mu ?_ | refine ac ?_ | refine ai ?_)
      rw [subInt (by omega)]
      refine inR_nat (by omega) ?_
      repeat (first | refine run ?_ | refine ct ?_ | refine cf ?_ | refine sk ?_ | refine la rfl ?_ | refine na fun _ _ _ => ?_ | refine sa rfl fun _ _ => ?_ | refine nk ?_ | refine mu ?_ | refine ac ?_ | refine ai ?_)
      refine Must.mk (ltN_t (by omega)) (ldA hs1 (by omega) rfl ?_)
      repeat (first | refine run ?_ | refine ct ?_ | refine cf ?_ | refine sk ?_ | refine la rfl ?_ | refine na fun _ _ _ => ?_ | refine sa rfl fun _ _ => ?_ | refine nk ?_ | refine mu ?_ | refine ac ?_ | refine ai ?_)
      refine cmpLess_ok hc ?_
      repeat (first | refine run ?_ | refine ct ?_ | refine cf ?_ | refine sk ?_ | refine la rfl ?_ | refine na fun _ _ _ => ?_ | refine sa rfl fun _ _ => ?_ | refine nk ?_ | refine mu ?_ | refine ac ?_ | refine ai ?_)
      rw [notB_not]
      rw [scanSorted_at (x := x), decide_eq_true h, Bool.true_and] at hx
      by_cases hp : (!ltU d[x]! d[x - 1]!) = true
      · rw [if_pos hp] at hx
        refine Cd.t hp ?_
        repeat (first | refine run ?_ | refine ct ?_ | refine cf ?_ | refine sk ?_ | refine la rfl ?_ | refine na fun _ _ _ => ?_ | refine sa rfl fun _ _ => ?_ | refine nk ?_ | refine mu ?_ | refine ac ?_ | refine ai ?_)
        try rw [addInt]
        refine inR_nat (by omega) ?_
        repeat (first | refine run ?_ | refine ct ?_ | refine cf ?_ | refine sk ?_ | refine la rfl ?_ | refine na fun _ _ _ => ?_ | refine sa rfl fun _ _ => ?_ | refine nk ?_ | refine mu ?_ | refine ac ?_ | refine ai ?_)
        show ∃ y, _ ∧ _
        exact ⟨x + 1, by omega, hx, by omega, by omega, ⟨a0, a1, a2, a8⟩, rfl, hs1⟩
      · rw [if_neg hp] at hx
        have hp := Bool.eq_false_iff.2 hp
        refine Cd.f hp ?_
        show _ = _ ∧ _
        exact ⟨rfl, x, hx, hix, hxz, ⟨a0, a1, a2, a8⟩, a7, hs1⟩
    · refine Cd.f (ltZ_f (by omega)) ?_
      show _ = _ ∧ _
      rw [scanSorted_at (x := x), decide_eq_false h, Bool.false_and, if_neg Bool.false_ne_true] at hx
      exact ⟨rfl, x, hx, hix, hxz, ⟨a0, a1, a2, a8⟩, a7, hs1⟩
  · obtain ⟨y, h1, h2, h3, ⟨a0, a1, a2, a8⟩, a7, hs1⟩ := hP
    exact k σ1 H1 y h1 h2 h3 a0 a1 a2 a8 a7 hs1
theorem shiftDown_at {x : Nat} {d : Array Nat} (h : 0 < x) : Sort.shiftDown ltU x d = if !ltU d[x]! d[x - 1]! then d else Sort.shiftDown ltU (x - 1) (Sort.swp d x (x - 1)) := by
  obtain ⟨x, rfl⟩ : ∃ m, x = m + 1 := ⟨x - 1, by omega⟩
  rfl
theorem shiftUp_at {x z : Nat} {d : Array Nat} (h : x < z) : Sort.shiftUp ltU z x d = if !ltU d[x]! d[x - 1]! then d else Sort.shiftUp ltU z (x + 1) (Sort.swp d x (x - 1)) := by
  rw [Sort.shiftUp, if_pos h]
theorem partInsC_ok (hc : Con con lives) {R : List HP} {H : CH} {b e s a z n i c j : Nat} {d : Array Nat} {σ : TF} {Q : KX} (hs : Sat (RowA b e s d :: R) H) (hn : d.size = n) (hn2 : n ≤ 1000000) (hz : z ≤ n) (hj : j < n)
    (e0 : σ 0 = slc b 0 n n) (e1 : σ 1 = iN a) (e2 : σ 2 = iN z) (e8 : σ 8 = iN c) (e7 : σ 7 = iN i) (ej : σ 9 = iN j)
    (k : ∀ σ1 H1 d', Sort.shiftDown ltU j d = d' → d'.size = n → σ1 0 = slc b 0 n n → σ1 1 = iN a → σ1 2 = iN z → σ1 8 = iN c → σ1 7 = iN i → Sat (RowA b e s d' :: R) H1 → Q (.exit 4) σ1 H1) :
    LoopC Tryz.prog con (lpAt Tryz.prog 159 2) σ H Q := by
  refine LoopC.indP (n := 200) (id := 4) (fun σ1 H1 => ∃ d', Sort.shiftDown ltU j d = d' ∧ d'.size = n ∧ KeepP σ1 b n a z c ∧ σ1 7 = iN i ∧ Sat (RowA b e s d' :: R) H1) (by kernel_rfl)
    (fun (x : Nat) σ1 H1 => x < n ∧ KeepP σ1 b n a z c ∧ σ1 7 = iN i ∧ σ1 9 = iN x ∧ ∃ d', d'.size = n ∧ Sort.shiftDown ltU j d = Sort.shiftDown ltU x d' ∧ Sat (RowA b e s d' :: R) H1)
    (fun x => x) (fun x σ1 H1 hI => ?_) (fun σ1 H1 hP => ?_) j _ _ ⟨hj, ⟨e0, e1, e2, e8⟩, e7, ej, d, hn, rfl, hs⟩
  · obtain ⟨hx, ⟨a0, a1, a2, a8⟩, a7, aj, d1, hd1, hq, hs1⟩ := hI
    rw [partInsC_W]
    simp only [aj, a2, a0, a1]
    repeat (first | refine run ?_ | refine ct ?_ | refine cf ?_ | refine sk ?_ | refine la rfl ?_ | refine na fun _ _ _ => ?_ | refine sa rfl fun _ _ => ?_ | refine nk ?_ | refine mu ?_ | refine ac ?_ | refine ai ?_)
    by_cases h : 1 ≤ x
    · refine Cd.t (leZ_t h) ?_
      repeat (first | refine run ?_ | refine ct ?_ | refine cf ?_ | refine sk ?_ | refine la rfl ?_ | refine na fun _ _ _ => ?_ | refine sa rfl fun _ _ => ?_ | refine nk ?_ | refine mu ?_ | refine ac ?_ | refine ai ?_)
      refine Must.mk (ltN_t (by omega)) (ldA hs1 (by omega) rfl ?_)
      repeat (first | refine run ?_ | refine ct ?_ | refine cf ?_ | refine sk ?_ | refine la rfl ?_ | refine na fun _ _ _ => ?_ | refine sa rfl fun _ _ => ?_ | refine nk ?_ | refine mu ?_ | refine ac ?_ | refine ai ?_)
      rw [subInt (by omega)]
      refine inR_nat (by omega) ?_
      repeat (first | refine run ?_ | refine ct ?_ | refine cf ?_ | refine sk ?_ | refine la rfl ?_ | refine na fun _ _ _ => ?_ | refine sa rfl fun _ _ => ?_ | refine nk ?_ | refine mu ?_ | refine ac ?_ | refine ai ?_)
      refine Must.mk (ltN_t (by omega)) (ldA hs1 (by omega) rfl ?_)
      repeat (first | refine run ?_ | refine ct ?_ | refine cf ?_ | refine sk ?_ | refine la rfl ?_ | refine na fun _ _ _ => ?_ | refine sa rfl fun _ _ => ?_ | refine nk ?_ | refine mu ?_ | refine ac ?_ | refine ai ?_)
      refine cmpLess_ok hc ?_
      repeat (first | refine run ?_ | refine ct ?_ | refine cf ?_ | refine sk ?_ | refine la rfl ?_ | refine na fun _ _ _ => ?_ | refine sa rfl fun _ _ => ?_ | refine nk ?_ | refine mu ?_ | refine ac ?_ | refine ai ?_)
      rw [notB_not]
      rw [shiftDown_at h] at hq
      by_cases hp : (!ltU d1[x]! d1[x - 1]!) = true
      · rw [if_pos hp] at hq
        refine Cd.t hp ?_
        show _ = _ ∧ _
        exact ⟨rfl, d1, hq, hd1, ⟨a0, a1, a2, a8⟩, a7, hs1⟩
      · rw [if_neg hp] at hq
        have hp := Bool.eq_false_iff.2 hp
        refine Cd.f hp ?_
        repeat (first | refine run ?_ | refine ct ?_ | refine cf ?_ | refine sk ?_ | refine la rfl ?_ | refine na fun _ _ _ => ?_ | refine sa rfl fun _ _ => ?_ | refine nk ?_ | refine mu ?_ | refine ac ?_ | refine ai ?_)
        rw [subInt (by omega)]
        refine inR_nat (by omega) ?_
        repeat (first | refine run ?_ | refine ct ?_ | refine cf ?_ | refine sk ?_ | refine la rfl ?_ | refine na fun _ _ _ => ?_ | refine sa rfl fun _ _ => ?_ | refine nk ?_ | refine mu ?_ | refine ac ?_ | refine ai ?_)
        rw [subInt (by omega)]
        refine inR_nat (by omega) ?_
        repeat (first | refine run ?_ | refine ct ?_ | refine cf ?_ | refine sk ?_ | refine la rfl ?_ | refine na fun _ _ _ => ?_ | refine sa rfl fun _ _ => ?_ | refine nk ?_ | refine mu ?_ | refine ac ?_ | refine ai ?_)
        refine Must.mk (ltN_t (by omega)) (ldA hs1 (by omega) rfl ?_)
        repeat (first | refine run ?_ | refine ct ?_ | refine cf ?_ | refine sk ?_ | refine la rfl ?_ | refine na fun _ _ _ => ?_ | refine sa rfl fun _ _ => ?_ | refine nk ?_ | refine mu ?_ | refine ac ?_ | refine ai ?_)
        refine Must.mk (ltN_t (by omega)) (ldA hs1 (by omega) rfl ?_)
        repeat (first | refine run ?_ | refine ct ?_ | refine cf ?_ | refine sk ?_ | refine la rfl ?_ | refine na fun _ _ _ => ?_ | refine sa rfl fun _ _ => ?_ | refine nk ?_ | refine mu ?_ | refine ac ?_ | refine ai ?_)
        refine Must.mk (ltN_t (by omega)) ?_
        repeat (first | refine run ?_ | refine ct ?_ | refine cf ?_ | refine sk ?_ | refine la rfl ?_ | refine na fun _ _ _ => ?_ | refine sa rfl fun _ _ => ?_ | refine nk ?_ | refine mu ?_ | refine ac ?_ | refine ai ?_)
        refine st hs1 (by rw [lenA, off1]; omega) rfl fun _ hx => ?_
        repeat (first | refine run ?_ | refine ct ?_ | refine cf ?_ | refine sk ?_ | refine la rfl ?_ | refine na fun _ _ _ => ?_ | refine sa rfl fun _ _ => ?_ | refine nk ?_ | refine mu ?_ | refine ac ?_ | refine ai ?_)
        refine Must.mk (ltN_t (by omega)) ?_
        repeat (first | refine run ?_ | refine ct ?_ | refine cf ?_ | refine sk ?_ | refine la rfl ?_ | refine na fun _ _ _ => ?_ | refine sa rfl fun _ _ => ?_ | refine nk ?_ | refine mu ?_ | refine ac ?_ | refine ai ?_)
        refine st hx (by rw [List.length_set, lenA, off1]; omega) rfl fun _ hy => ?_
        rw [off1, off1, swpA (by omega) (by omega)] at hy
        clear hx
        repeat (first | refine run ?_ | refine ct ?_ | refine cf ?_ | refine sk ?_ | refine la rfl ?_ | refine na fun _ _ _ => ?_ | refine sa rfl fun _ _ => ?_ | refine nk ?_ | refine mu ?_ | refine ac ?_ | refine ai ?_)
        rw [subInt (by omega)]
        refine inR_nat (by omega) ?_
        repeat (first | refine run ?_ | refine ct ?_ | refine cf ?_ | refine sk ?_ | refine la rfl ?_ | refine na fun _ _ _ => ?_ | refine sa rfl fun _ _ => ?_ | refine nk ?_ | refine mu ?_ | refine ac ?_ | refine ai ?_)
        show ∃ y, _ ∧ _
        exact ⟨x - 1, by omega, by omega, ⟨a0, a1, a2, a8⟩, a7, rfl, _, by rw [Sort.size_swp]; exact hd1, hq, hy⟩
    · refine Cd.f (leZ_f (by omega)) ?_
      show _ = _ ∧ _
      refine ⟨rfl, d1, hq.trans ?_, hd1, ⟨a0, a1, a2, a8⟩, a7, hs1⟩
      obtain rfl : x = 0 := by omega
      rfl
  · obtain ⟨d', h1, h2, ⟨a0, a1, a2, a8⟩, a7, hs1⟩ := hP
    exact k σ1 H1 d' h1 h2 a0 a1 a2 a8 a7 hs1
theorem partInsD_ok (hc : Con con lives) {R : List HP} {H : CH} {b e s a z n i c j : Nat} {d : Array Nat} {σ : TF} {Q : KX} (hs : Sat (RowA b e s d :: R) H) (hn : d.size = n) (hn2 : n ≤ 1000000) (hz : z ≤ n) (hj : 0 < j)
    (e0 : σ 0 = slc b 0 n n) (e1 : σ 1 = iN a) (e2 : σ 2 = iN z) (e8 : σ 8 = iN c) (e7 : σ 7 = iN i) (ej : σ 10 = iN j)
    (k : ∀ σ1 H1 d', Sort.shiftUp ltU z j d = d' → d'.size = n → σ1 0 = slc b 0 n n → σ1 1 = iN a → σ1 2 = iN z → σ1 8 = iN c → σ1 7 = iN i → Sat (RowA b e s d' :: R) H1 → Q (.exit 6) σ1 H1) :
    LoopC Tryz.prog con (lpAt Tryz.prog 159 3) σ H Q := by
  refine LoopC.indP (n := 200) (id := 6) (fun σ1 H1 => ∃ d', Sort.shiftUp ltU z j d = d' ∧ d'.size = n ∧ KeepP σ1 b n a z c ∧ σ1 7 = iN i ∧ Sat (RowA b e s d' :: R) H1) (by kernel_rfl)
    (fun (x : Nat) σ1 H1 => 0 < x ∧ KeepP σ1 b n a z c ∧ σ1 7 = iN i ∧ σ1 10 = iN x ∧ ∃ d', d'.size = n ∧ Sort.shiftUp ltU z j d = Sort.shiftUp ltU z x d' ∧ Sat (RowA b e s d' :: R) H1)
    (fun x => z - x) (fun x σ1 H1 hI => ?_) (fun σ1 H1 hP => ?_) j _ _ ⟨hj, ⟨e0, e1, e2, e8⟩, e7, ej, d, hn, rfl, hs⟩
  · obtain ⟨hx, ⟨a0, a1, a2, a8⟩, a7, aj, d1, hd1, hq, hs1⟩ := hI
    rw [partInsD_W]
    simp only [aj, a2, a0, a1]
    repeat (first | refine run ?_ | refine ct ?_ | refine cf ?_ | refine sk ?_ | refine la rfl ?_ | refine na fun _ _ _ => ?_ | refine sa rfl fun _ _ => ?_ | refine nk ?_ | refine mu ?_ | refine ac ?_ | refine ai ?_)
    by_cases h : x < z
    · refine Cd.t (ltZ_t h) ?_
      repeat (first | refine run ?_ | refine ct ?_ | refine cf ?_ | refine sk ?_ | refine la rfl ?_ | refine na fun _ _ _ => ?_ | refine sa rfl fun _ _ => ?_ | refine nk ?_ | refine mu ?_ | refine ac ?_ | refine ai ?_)
      refine Must.mk (ltN_t (by omega)) (ldA hs1 (by omega) rfl ?_)
      repeat (first | refine run ?_ | refine ct ?_ | refine cf ?_ | refine sk ?_ | refine la rfl ?_ | refine na fun _ _ _ => ?_ | refine sa rfl fun _ _ => ?_ | refine nk ?_ | refine mu ?_ | refine ac ?_ | refine ai ?_)
      rw [subInt (by omega)]
      refine inR_nat (by omega) ?_
      repeat (first | refine run ?_ | refine ct ?_ | refine cf ?_ | refine sk ?_ | refine la rfl ?_ | refine na fun _ _ _ => ?_ | refine sa rfl fun _ _ => ?_ | refine nk ?_ | refine mu ?_ | refine ac ?_ | refine ai ?_)
      refine Must.mk (ltN_t (by omega)) (ldA hs1 (by omega) rfl ?_)
      repeat (first | refine run ?_ | refine ct ?_ | refine cf ?_ | refine sk ?_ | refine la rfl ?_ | refine na fun _ _ _ => ?_ | refine sa rfl fun _ _ => ?_ | refine nk ?_ | refine mu ?_ | refine ac ?_ | refine ai ?_)
      refine cmpLess_ok hc ?_
      repeat (first | refine run ?_ | refine ct ?_ | refine cf ?_ | refine sk ?_ | refine la rfl ?_ | refine na fun _ _ _ => ?_ | refine sa rfl fun _ _ => ?_ | refine nk ?_ | refine mu ?_ | refine ac ?_ | refine ai ?_)
      rw [notB_not]
      rw [shiftUp_at h] at hq
      by_cases hp : (!ltU d1[x]! d1[x - 1]!) = true
      · rw [if_pos hp] at hq
        refine Cd.t hp ?_
        show _ = _ ∧ _
        exact ⟨rfl, d1, hq, hd1, ⟨a0, a1, a2, a8⟩, a7, hs1⟩
      · rw [if_neg hp] at hq
        have hp := Bool.eq_false_iff.2 hp
        refine Cd.f hp ?_
        repeat (first | refine run ?_ | refine ct ?_ | refine cf ?_ | refine sk ?_ | refine la rfl ?_ | refine na fun _ _ _ => ?_ | refine sa rfl fun _ _ => ?_ | refine nk ?_ | refine mu ?_ | refine ac ?_ | refine ai ?_)
        rw [subInt (by omega)]
        refine inR_nat (by omega) ?_
        repeat (first | refine run ?_ | refine ct ?_ | refine cf ?_ | refine sk ?_ | refine la rfl ?_ | refine na fun _ _ _ => ?_ | refine sa rfl fun _ _ => ?_ | refine nk ?_ | refine mu ?_ | refine ac ?_ | refine ai ?_)
        rw [subInt (by omega)]
        refine inR_nat (by omega) ?_
        repeat (first | refine run ?_ | refine ct ?_ | refine cf ?_ | refine sk ?_ | refine la rfl ?_ | refine na fun _ _ _ => ?_ | refine sa rfl fun _ _ => ?_ | refine nk ?_ | refine mu ?_ | refine ac ?_ | refine ai ?_)
        refine Must.mk (ltN_t (by omega)) (ldA hs1 (by omega) rfl ?_)
        repeat (first | refine run ?_ | refine ct ?_ | refine cf ?_ | refine sk ?_ | refine la rfl ?_ | refine na fun _ _ _ => ?_ | refine sa rfl fun _ _ => ?_ | refine nk ?_ | refine mu ?_ | refine ac ?_ | refine ai ?_)
        refine Must.mk (ltN_t (by omega)) (ldA hs1 (by omega) rfl ?_)
        repeat (first | refine run ?_ | refine ct ?_ | refine cf ?_ | refine sk ?_ | refine la rfl ?_ | refine na fun _ _ _ => ?_ | refine sa rfl fun _ _ => ?_ | refine nk ?_ | refine mu ?_ | refine ac ?_ | refine ai ?_)
        refine Must.mk (ltN_t (by omega)) ?_
        repeat (first | refine run ?_ | refine ct ?_ | refine cf ?_ | refine sk ?_ | refine la rfl ?_ | refine na fun _ _ _ => ?_ | refine sa rfl fun _ _ => ?_ | refine nk ?_ | refine mu ?_ | refine ac ?_ | refine ai ?_)
        refine st hs1 (by rw [lenA, off1]; omega) rfl fun _ hx => ?_
        repeat (first | refine run ?_ | refine ct ?_ | refine cf ?_ | refine sk ?_ | refine la rfl ?_ | refine na fun _ _ _ => ?_ | refine sa rfl fun _ _ => ?_ | refine nk ?_ | refine mu ?_ | refine ac ?_ | refine ai ?_)
        refine Must.mk (ltN_t (by omega)) ?_
        repeat (first | refine run ?_ | refine ct ?_ | refine cf ?_ | refine sk ?_ | refine la rfl ?_ | refine na fun _ _ _ => ?_ | refine sa rfl fun _ _ => ?_ | refine nk ?_ | refine mu ?_ | refine ac ?_ | refine ai ?_)
        refine st hx (by rw [List.length_set, lenA, off1]; omega) rfl fun _ hy => ?_
        rw [off1, off1, swpA (by omega) (by omega)] at hy
        clear hx
        repeat (first | refine run ?_ | refine ct ?_ | refine cf ?_ | refine sk ?_ | refine la rfl ?_ | refine na fun _ _ _ => ?_ | refine sa rfl fun _ _ => ?_ | refine nk ?_ | refine mu ?_ | refine ac ?_ | refine ai ?_)
        try rw [addInt]
        refine inR_nat (by omega) ?_
        repeat (first | refine run ?_ | refine ct ?_ | refine cf ?_ | refine sk ?_ | refine la rfl ?_ | refine na fun _ _ _ => ?_ | refine sa rfl fun _ _ => ?_ | refine nk ?_ | refine mu ?_ | refine ac ?_ | refine ai ?_)
        show ∃ y, _ ∧ _
        exact ⟨x + 1, by omega, by omega, ⟨a0, a1, a2, a8⟩, a7, rfl, _, by rw [Sort.size_swp]; exact hd1, hq, hy⟩
    · refine Cd.f (ltZ_f (by omega)) ?_
      show _ = _ ∧ _
      refine ⟨rfl, d1, hq.trans ?_, hd1, ⟨a0, a1, a2, a8⟩, a7, hs1⟩
      rw [Sort.shiftUp, if_neg h]
  · obtain ⟨d', h1, h2, ⟨a0, a1, a2, a8⟩, a7, hs1⟩ := hP
    exact k σ1 H1 d' h1 h2 a0 a1 a2 a8 a7 hs1
theorem partIns_ok (hc : Con con lives) {L R : List HP} {H : CH} {b e s a z n : Nat} {d : Array Nat} {K : KP} (hs : Sat L H) (hp : Pull L (RowA b e s d) R) (hn : d.size = n) (hn2 : n ≤ 1000000) (hab : a < z) (hz : z ≤ n)
    (k : ∀ H1, Sat (RowA b e s (Sort.partialInsertionSort ltU d a z).1 :: R) H1 → K (.bool (Sort.partialInsertionSort ltU d a z).2) H1) : Call1 Tryz.prog con 159 [slc b 0 n n, iN a, iN z] H K := by
  refine call_of (hc _ _ _ rfl) ?_
  rw [partIns_W]
  have hs0 := hs.pull hp
  clear hs hp
  try rw [addInt]
  refine inR_nat (by omega) ?_
  repeat (first | refine run ?_ | refine ct ?_ | refine cf ?_ | refine sk ?_ | refine la rfl ?_ | refine na fun _ _ _ => ?_ | refine sa rfl fun _ _ => ?_ | refine nk ?_ | refine mu ?_ | refine ac ?_ | refine ai ?_)
  have hq : Sort.partialInsertionSort ltU d a z = Sort.partialIns ltU a z 5 (a + 1) d := rfl
  generalize Sort.partialInsertionSort ltU d a z = q at *
  refine LoopC.indP (n := 200) (id := 0) (fun σ1 H1 => q.2 = false ∧ Sat (RowA b e s q.1 :: R) H1) (by kernel_rfl)
    (fun (c : Nat) σ1 H1 => c ≤ 5 ∧ σ1 0 = slc b 0 n n ∧ σ1 1 = iN a ∧ σ1 2 = iN z ∧ σ1 8 = iN (5 - c) ∧ ∃ i d1, σ1 7 = iN i ∧ a < i ∧ i ≤ z ∧ d1.size = n ∧ q = Sort.partialIns ltU a z c i d1 ∧ Sat (RowA b e s d1 :: R) H1)
    (fun c => c) (fun c σ1 H1 hI => ?_) (fun σ1 H1 hP => ?_) 5 _ _ ⟨by omega, rfl, rfl, rfl, rfl, a + 1, d, rfl, by omega, by omega, hn, hq, hs0⟩
  · obtain ⟨hc5, a0, a1, a2, a8, i, d1, a7, hai, hiz, hd1, hqc, hs1⟩ := hI
    rw [partInsA_W]
    simp only [a8]
    repeat (first | refine run ?_ | refine ct ?_ | refine cf ?_ | refine sk ?_ | refine la rfl ?_ | refine na fun _ _ _ => ?_ | refine sa rfl fun _ _ => ?_ | refine nk ?_ | refine mu ?_ | refine ac ?_ | refine ai ?_)
    cases c with
    | zero =>
      refine Cd.f (ltZ_f (by omega)) ?_
      show _ = _ ∧ _
      exact ⟨rfl, by rw [hqc]; rfl, by rw [hqc]; exact hs1⟩
    | succ c =>
      refine Cd.t (ltZ_t (by omega)) ?_
      rw [Sort.partialIns_succ] at hqc
      refine partInsB_ok (a := a) hc hs1 hd1 hn2 hz (by omega) hiz a0 a1 a2 a8 a7 fun σ2 H2 y hy1 hy2 hy3 b0 b1 b2 b8 b7 h2 => ?_
      rw [hy1] at hqc
      show Cd _ _ _
      refine Cd.t rfl ?_
      simp only [b7, b2, b0, b1, b8]
      repeat (first | refine run ?_ | refine ct ?_ | refine cf ?_ | refine sk ?_ | refine la rfl ?_ | refine na fun _ _ _ => ?_ | refine sa rfl fun _ _ => ?_ | refine nk ?_ | refine mu ?_ | refine ac ?_ | refine ai ?_)
      by_cases h : y = z
      · rw [if_pos h] at hqc
        refine Cd.t (eqZ_t h) ?_
        show K _ _
        have e : Value.bool true = Value.bool q.2 := by rw [hqc]
        refine e ▸ k _ ?_
        rw [hqc]
        exact h2
      · rw [if_neg h] at hqc
        refine Cd.f (eqZ_f h) ?_
        repeat (first | refine run ?_ | refine ct ?_ | refine cf ?_ | refine sk ?_ | refine la rfl ?_ | refine na fun _ _ _ => ?_ | refine sa rfl fun _ _ => ?_ | refine nk ?_ | refine mu ?_ | refine ac ?_ | refine ai ?_)
        rw [subInt (by omega)]
        refine inR_nat (by omega) ?_
        repeat (first | refine run ?_ | refine ct ?_ | refine cf ?_ | refine sk ?_ | refine la rfl ?_ | refine na fun _ _ _ => ?_ | refine sa rfl fun _ _ => ?_ | refine nk ?_ | refine mu ?_ | refine ac ?_ | refine ai ?_)
        refine Cd.of (fun h50 => ?_) (fun h50 => ?_)
        · rw [if_pos (ltZ_e h50)] at hqc
          show K _ _
          have e : Value.bool false = Value.bool q.2 := by rw [hqc]
          refine e ▸ k _ ?_
          rw [hqc]
          exact h2
        · rw [if_neg (Nat.not_lt.2 (ltZ_n h50))] at hqc
          repeat (first | refine run ?_ | refine ct ?_ | refine cf ?_ | refine sk ?_ | refine la rfl ?_ | refine na fun _ _ _ => ?_ | refine sa rfl fun _ _ => ?_ | refine nk ?_ | refine mu ?_ | refine ac ?_ | refine ai ?_)
          rw [subInt (by omega)]
          refine inR_nat (by omega) ?_
          repeat (first | refine run ?_ | refine ct ?_ | refine cf ?_ | refine sk ?_ | refine la rfl ?_ | refine na fun _ _ _ => ?_ | refine sa rfl fun _ _ => ?_ | refine nk ?_ | refine mu ?_ | refine ac ?_ | refine ai ?_)
          rw [subInt (by omega)]
          refine inR_nat (by omega) ?_
          repeat (first | refine run ?_ | refine ct ?_ | refine cf ?_ | refine sk ?_ | refine la rfl ?_ | refine na fun _ _ _ => ?_ | refine sa rfl fun _ _ => ?_ | refine nk ?_ | refine mu ?_ | refine ac ?_ | refine ai ?_)
          refine Must.mk (ltN_t (by omega)) (ldA h2 (by omega) rfl ?_)
          repeat (first | refine run ?_ | refine ct ?_ | refine cf ?_ | refine sk ?_ | refine la rfl ?_ | refine na fun _ _ _ => ?_ | refine sa rfl fun _ _ => ?_ | refine nk ?_ | refine mu ?_ | refine ac ?_ | refine ai ?_)
          refine Must.mk (ltN_t (by omega)) (ldA h2 (by omega) rfl ?_)
          repeat (first | refine run ?_ | refine ct ?_ | refine cf ?_ | refine sk ?_ | refine la rfl ?_ | refine na fun _ _ _ => ?_ | refine sa rfl fun _ _ => ?_ | refine nk ?_ | refine mu ?_ | refine ac ?_ | refine ai ?_)
          refine Must.mk (ltN_t (by omega)) ?_
          repeat (first | refine run ?_ | refine ct ?_ | refine cf ?_ | refine sk ?_ | refine la rfl ?_ | refine na fun _ _ _ => ?_ | refine sa rfl fun _ _ => ?_ | refine nk ?_ | refine mu ?_ | refine ac ?_ | refine ai ?_)
          refine st h2 (by rw [lenA, off1]; omega) rfl fun _ hx => ?_
          repeat (first | refine run ?_ | refine ct ?_ | refine cf ?_ | refine sk ?_ | refine la rfl ?_ | refine na fun _ _ _ => ?_ | refine sa rfl fun _ _ => ?_ | refine nk ?_ | refine mu ?_ | refine ac ?_ | refine ai ?_)
          refine Must.mk (ltN_t (by omega)) ?_
          repeat (first | refine run ?_ | refine ct ?_ | refine cf ?_ | refine sk ?_ | refine la rfl ?_ | refine na fun _ _ _ => ?_ | refine sa rfl fun _ _ => ?_ | refine nk ?_ | refine mu ?_ | refine ac ?_ | refine ai ?_)
          refine st hx (by rw [List.length_set, lenA, off1]; omega) rfl fun _ hy => ?_
          rw [off1, off1, swpA (by omega) (by omega)] at hy
          clear hx
          repeat (first | refine run ?_ | refine ct ?_ | refine cf ?_ | refine sk ?_ | refine la rfl ?_ | refine na fun _ _ _ => ?_ | refine sa rfl fun _ _ => ?_ | refine nk ?_ | refine mu ?_ | refine ac ?_ | refine ai ?_)
          rw [subInt (by omega)]
          refine inR_nat (by omega) ?_
          repeat (first | refine run ?_ | refine ct ?_ | refine cf ?_ | refine sk ?_ | refine la rfl ?_ | refine na fun _ _ _ => ?_ | refine sa rfl fun _ _ => ?_ | refine nk ?_ | refine mu ?_ | refine ac ?_ | refine ai ?_)
          have hd2 : (Sort.swp d1 y (y - 1)).size = n := by rw [Sort.size_swp]; exact hd1
          clear h2 hs1
          generalize Sort.swp d1 y (y - 1) = d2 at *
          unfold Sort.fixDown at hqc
          refine Cd.of (fun h3 => ?_) (fun h3 => ?_)
          · rw [if_pos (leZ_e h3)] at hqc
            repeat (first | refine run ?_ | refine ct ?_ | refine cf ?_ | refine sk ?_ | refine la rfl ?_ | refine na fun _ _ _ => ?_ | refine sa rfl fun _ _ => ?_ | refine nk ?_ | refine mu ?_ | refine ac ?_ | refine ai ?_)
            rw [subInt (by omega)]
            refine inR_nat (by omega) ?_
            repeat (first | refine run ?_ | refine ct ?_ | refine cf ?_ | refine sk ?_ | refine la rfl ?_ | refine na fun _ _ _ => ?_ | refine sa rfl fun _ _ => ?_ | refine nk ?_ | refine mu ?_ | refine ac ?_ | refine ai ?_)
            refine partInsC_ok (a := a) hc hy hd2 hn2 hz (by omega) b0 b1 b2 b8 b7 rfl fun σ3 H3 d3 hs3 hd3 c0 c1 c2 c8 c7 h3 => ?_
            rw [hs3] at hqc
            show Cd _ _ _
            refine Cd.t rfl ?_
            simp only [c2, c7, c8]
            repeat (first | refine run ?_ | refine ct ?_ | refine cf ?_ | refine sk ?_ | refine la rfl ?_ | refine na fun _ _ _ => ?_ | refine sa rfl fun _ _ => ?_ | refine nk ?_ | refine mu ?_ | refine ac ?_ | refine ai ?_)
            rw [subInt (by omega)]
            refine inR_nat (by omega) ?_
            repeat (first | refine run ?_ | refine ct ?_ | refine cf ?_ | refine sk ?_ | refine la rfl ?_ | refine na fun _ _ _ => ?_ | refine sa rfl fun _ _ => ?_ | refine nk ?_ | refine mu ?_ | refine ac ?_ | refine ai ?_)
            unfold Sort.fixUp at hqc
            refine Cd.of (fun h4 => ?_) (fun h4 => ?_)
            · rw [if_pos (leZ_e h4)] at hqc
              repeat (first | refine run ?_ | refine ct ?_ | refine cf ?_ | refine sk ?_ | refine la rfl ?_ | refine na fun _ _ _ => ?_ | refine sa rfl fun _ _ => ?_ | refine nk ?_ | refine mu ?_ | refine ac ?_ | refine ai ?_)
              try rw [addInt]
              refine inR_nat (by omega) ?_
              repeat (first | refine run ?_ | refine ct ?_ | refine cf ?_ | refine sk ?_ | refine la rfl ?_ | refine na fun _ _ _ => ?_ | refine sa rfl fun _ _ => ?_ | refine nk ?_ | refine mu ?_ | refine ac ?_ | refine ai ?_)
              refine partInsD_ok (a := a) hc h3 hd3 hn2 hz (by omega) c0 c1 c2 c8 c7 rfl fun σ4 H4 d4 hs4 hd4 q0 q1 q2 q8 q7 h4 => ?_
              show Cd _ _ _
              refine Cd.t rfl ?_
              simp only [q8]
              repeat (first | refine run ?_ | refine ct ?_ | refine cf ?_ | refine sk ?_ | refine la rfl ?_ | refine na fun _ _ _ => ?_ | refine sa rfl fun _ _ => ?_ | refine nk ?_ | refine mu ?_ | refine ac ?_ | refine ai ?_)
              try rw [addInt]
              refine inR_nat (by omega) ?_
              repeat (first | refine run ?_ | refine ct ?_ | refine cf ?_ | refine sk ?_ | refine la rfl ?_ | refine na fun _ _ _ => ?_ | refine sa rfl fun _ _ => ?_ | refine nk ?_ | refine mu ?_ | refine ac ?_ | refine ai ?_)
              show ∃ y, _ ∧ _
              exact ⟨c, by omega, by omega, q0, q1, q2, by rw [show 5 - c = 5 - (c + 1) + 1 from by omega]; rfl, y, d4, q7, by omega, hy3, hd4, by rw [hqc, hs4], h4⟩
            · rw [if_neg (Nat.not_le.2 (leZ_n h4))] at hqc
              repeat (first | refine run ?_ | refine ct ?_ | refine cf ?_ | refine sk ?_ | refine la rfl ?_ | refine na fun _ _ _ => ?_ | refine sa rfl fun _ _ => ?_ | refine nk ?_ | refine mu ?_ | refine ac ?_ | refine ai ?_)
              try rw [addInt]
              refine inR_nat (by omega) ?_
              repeat (first | refine run ?_ | refine ct ?_ | refine cf ?_ | refine sk ?_ | refine la rfl ?_ | refine na fun _ _ _ => ?_ | refine sa rfl fun _ _ => ?_ | refine nk ?_ | refine mu ?_ | refine ac ?_ | refine ai ?_)
              show ∃ y, _ ∧ _
              exact ⟨c, by omega, by omega, c0, c1, c2, by rw [show 5 - c = 5 - (c + 1) + 1 from by omega]; rfl, y, _, c7, by omega, hy3, hd3, hqc, h3⟩
          · rw [if_neg (Nat.not_le.2 (leZ_n h3))] at hqc
            repeat (first | refine run ?_ | refine ct ?_ | refine cf ?_ | refine sk ?_ | refine la rfl ?_ | refine na fun _ _ _ => ?_ | refine sa rfl fun _ _ => ?_ | refine nk ?_ | refine mu ?_ | refine ac ?_ | refine ai ?_)
            rw [subInt (by omega)]
            refine inR_nat (by omega) ?_
            repeat (first | refine run ?_ | refine ct ?_ | refine cf ?_ | refine sk ?_ | refine la rfl ?_ | refine na fun _ _ _ => ?_ | refine sa rfl fun _ _ => ?_ | refine nk ?_ | refine mu ?_ | refine ac ?_ | refine ai ?_)
            unfold Sort.fixUp at hqc
            refine Cd.of (fun h4 => ?_) (fun h4 => ?_)
            · rw [if_pos (leZ_e h4)] at hqc
              repeat (first | refine run ?_ | refine ct ?_ | refine cf ?_ | refine sk ?_ | refine la rfl ?_ | refine na fun _ _ _ => ?_ | refine sa rfl fun _ _ => ?_ | refine nk ?_ | refine mu ?_ | refine ac ?_ | refine ai ?_)
              try rw [addInt]
              refine inR_nat (by omega) ?_
              repeat (first | refine run ?_ | refine ct ?_ | refine cf ?_ | refine sk ?_ | refine la rfl ?_ | refine na fun _ _ _ => ?_ | refine sa rfl fun _ _ => ?_ | refine nk ?_ | refine mu ?_ | refine ac ?_ | refine ai ?_)
              refine partInsD_ok (a := a) hc hy hd2 hn2 hz (by omega) b0 b1 b2 b8 b7 rfl fun σ4 H4 d4 hs4 hd4 q0 q1 q2 q8 q7 h4 => ?_
              show Cd _ _ _
              refine Cd.t rfl ?_
              simp only [q8]
              repeat (first | refine run ?_ | refine ct ?_ | refine cf ?_ | refine sk ?_ | refine la rfl ?_ | refine na fun _ _ _ => ?_ | refine sa rfl fun _ _ => ?_ | refine nk ?_ | refine mu ?_ | refine ac ?_ | refine ai ?_)
              try rw [addInt]
              refine inR_nat (by omega) ?_
              repeat (first | refine run ?_ | refine ct ?_ | refine cf ?_ | refine sk ?_ | refine la rfl ?_ | refine na fun _ _ _ => ?_ | refine sa rfl fun _ _ => ?_ | refine nk ?_ | refine mu ?_ | refine ac ?_ | refine ai ?_)
              show ∃ y, _ ∧ _
              exact ⟨c, by omega, by omega, q0, q1, q2, by rw [show 5 - c = 5 - (c + 1) + 1 from by omega]; rfl, y, d4, q7, by omega, hy3, hd4, by rw [hqc, hs4], h4⟩
            · rw [if_neg (Nat.not_le.2 (leZ_n h4))] at hqc
              repeat (first | refine run ?_ | refine ct ?_ | refine cf ?_ | refine sk ?_ | refine la rfl ?_ | refine na fun _ _ _ => ?_ | refine sa rfl fun _ _ => ?_ | refine nk ?_ | refine mu ?_ | refine ac ?_ | refine ai ?_)
              try rw [addInt]
              refine inR_nat (by omega) ?_
              repeat (first | refine run ?_ | refine ct ?_ | refine cf ?_ | refine sk ?_ | refine la rfl ?_ | refine na fun _ _ _ => ?_ | refine sa rfl fun _ _ => ?_ | refine nk ?_ | refine mu ?_ | refine ac ?_ | refine ai ?_)
              show ∃ y, _ ∧ _
              exact ⟨c, by omega, by omega, b0, b1, b2, by rw [show 5 - c = 5 - (c + 1) + 1 from by omega]; rfl, y, _, b7, by omega, hy3, hd2, hqc, hy⟩
  · obtain ⟨h1, hs1⟩ := hP
    show Cd _ _ _
    refine Cd.t rfl ?_
    have e : Value.bool false = Value.bool q.2 := by rw [h1]
    exact e ▸ k _ hs1
end Go.Proofs.YtipbbnoepphdkaaGreat

set_option linter.unusedVariables false
set_option linter.unusedSimpArgs false
namespace Go.Proofs.YtipbbnoepphdkaaGreat
open Go Go.CM
attribute [local irreducible] AsBool AsWant AsNat AsInt AsCnt AsPtr AsSlc AsLen AsStr AsAgg AsTup AsFn AsIfc Nth Sc NotNil IsNil Must Cd codeW funW Sat SatL wrapN subM mkRow ltZ leZ ltN leN
variable {con : CallT}
def PQ (n a z : Nat) (d : Array Nat) (a' z' : Nat) (d1 : Array Nat) : Prop := d1.size = n ∧ Sort.Below ltU a' z' d1 ∧ ∀ R, Sort.PermIn a' z' d1 R → Sort.SortedIn ltU a' z' R → Sort.PermIn a z d R ∧ Sort.SortedIn ltU a z R
theorem PQ.perm {n a z a' z' : Nat} {d d1 d2 : Array Nat} (h : PQ n a z d a' z' d1) (hz : z' ≤ n) (p : Sort.PermIn a' z' d1 d2) : PQ n a z d a' z' d2 :=
  ⟨p.1.trans h.1, h.2.1.perm (by rw [h.1]; exact hz) p, fun R hR hs => h.2.2 R (Sort.permIn_trans _ _ _ _ _ p hR) hs⟩
abbrev PT (σ : TF) (b n a z l : Nat) (wb wp : Bool) : Prop := σ 0 = slc b 0 n n ∧ σ 1 = iN a ∧ σ 2 = iN z ∧ σ 3 = iN l ∧ σ 8 = .bool wb ∧ σ 9 = .bool wp
def PdqAt (con : CallT) (m : Nat) : Prop := ∀ (L R : List HP) (H : CH) (b e s a z n l : Nat) (d : Array Nat) (K : KP), z - a < m → Sat L H → Pull L (RowA b e s d) R → d.size = n → n ≤ 256 → a ≤ z → z ≤ n → l ≤ 1000 → Sort.Below ltU a z d →
  (∀ d' H1, Sort.PermIn a z d d' → Sort.SortedIn ltU a z d' → Sat (RowA b e s d' :: R) H1 → K unit H1) → Call1 Tryz.prog con 148 [slc b 0 n n, iN a, iN z, iN l] H K
theorem pdqCD_ok (hc : Con con lives) {m : Nat} (ih : PdqAt con m) {R : List HP} {H : CH} {b e s n a z a0 z0 l p : Nat} {wb wp : Bool} {d0 d : Array Nat} {σ : TF} {K : KX} (hs : Sat (RowA b e s d :: R) H) (hq : PQ n a0 z0 d0 a z d) (hn2 : n ≤ 256) (hap : a ≤ p) (hpz : p < z) (hz : z ≤ n) (hl : l ≤ 1000) (hm : z - a ≤ m)
    (ht : PT σ b n a z l wb wp) (e10 : σ 10 = iN (z - a)) (e11 : σ 11 = iN p)
    (k : ∀ σ1 H1 a1 z1 l1 wb1 wp1 d1, PT σ1 b n a1 z1 l1 wb1 wp1 → z1 - a1 < z - a → a1 ≤ z1 → z1 ≤ n → l1 ≤ 1000 → PQ n a0 z0 d0 a1 z1 d1 → Sat (RowA b e s d1 :: R) H1 → K .normal σ1 H1)
    (kE : ∀ σ1 H1 a1 z1 l1 wb1 wp1 d1, PT σ1 b n a1 z1 l1 wb1 wp1 → z1 - a1 < z - a → a1 ≤ z1 → z1 ≤ n → l1 ≤ 1000 → PQ n a0 z0 d0 a1 z1 d1 → Sat (RowA b e s d1 :: R) H1 → K (.exit 1) σ1 H1) :
    codeW (dropC 12 (blkC (lpAt Tryz.prog 148 0))) Tryz.prog con σ H K := by
  obtain ⟨e0, e1, e2, e3, e8, e9⟩ := ht
  have hd := hq.1
  have part : ∀ σ1 H1, PT σ1 b n a z l wb wp → σ1 10 = iN (z - a) → σ1 11 = iN p → Sat (RowA b e s d :: R) H1 → codeW (dropC 14 (blkC (lpAt Tryz.prog 148 0))) Tryz.prog con σ1 H1 K := by
    intro σ1 H1 ht c10 c11 hs1
    obtain ⟨c0, c1, c2, c3, c8, c9⟩ := ht
    rw [pdqD_W]
    simp only [c0, c1, c2, c3, c11, c10]
    rcases hx : Sort.partition ltU d a z p with ⟨mid, ap, d4⟩
    obtain ⟨r1, r2, r3, r4, r5, r6, r7⟩ := Sort.round_part swoU (Sort.partition_holds ltU) hap hpz (by rw [hd]; exact hz) hq.2.1 hx
    refine partOrd_ok hc hs1 (by repeat (first | exact pH | apply pT)) hd (by omega) hap hpz hz fun H2 h2 => ?_
    simp only [hx] at h2 ⊢
    repeat (first | refine run ?_ | refine ct ?_ | refine cf ?_ | refine sk ?_ | refine la rfl ?_ | refine na fun _ _ _ => ?_ | refine sa rfl fun _ _ => ?_ | refine nk ?_ | refine mu ?_ | refine ac ?_ | refine ai ?_)
    rw [subInt (by omega)]
    refine inR_nat (by omega) ?_
    repeat (first | refine run ?_ | refine ct ?_ | refine cf ?_ | refine sk ?_ | refine la rfl ?_ | refine na fun _ _ _ => ?_ | refine sa rfl fun _ _ => ?_ | refine nk ?_ | refine mu ?_ | refine ac ?_ | refine ai ?_)
    rw [subInt (by omega)]
    refine inR_nat (by omega) ?_
    repeat (first | refine run ?_ | refine ct ?_ | refine cf ?_ | refine sk ?_ | refine la rfl ?_ | refine na fun _ _ _ => ?_ | refine sa rfl fun _ _ => ?_ | refine nk ?_ | refine mu ?_ | refine ac ?_ | refine ai ?_)
    refine CInt.quoI (m := (z - a) / 8) (by omega) rfl (by omega) ?_
    rw [hd] at r3
    refine Cd.of (fun hlt => ?_) (fun hlt => ?_)
    · have hlt := ltZ_e hlt
      repeat (first | refine run ?_ | refine ct ?_ | refine cf ?_ | refine sk ?_ | refine la rfl ?_ | refine na fun _ _ _ => ?_ | refine sa rfl fun _ _ => ?_ | refine nk ?_ | refine mu ?_ | refine ac ?_ | refine ai ?_)
      refine ih _ R _ b e s a mid n l d4 _ (by omega) h2 (by repeat (first | exact pH | apply pT)) r3 hn2 r1 (by omega) hl r4 fun d5 H5 p5 s5 h5 => ?_
      obtain ⟨q1, q2⟩ := r6 d5 p5 s5
      repeat (first | refine run ?_ | refine ct ?_ | refine cf ?_ | refine sk ?_ | refine la rfl ?_ | refine na fun _ _ _ => ?_ | refine sa rfl fun _ _ => ?_ | refine nk ?_ | refine mu ?_ | refine ac ?_ | refine ai ?_)
      try rw [addInt]
      refine inR_nat (by omega) ?_
      repeat (first | refine run ?_ | refine ct ?_ | refine cf ?_ | refine sk ?_ | refine la rfl ?_ | refine na fun _ _ _ => ?_ | refine sa rfl fun _ _ => ?_ | refine nk ?_ | refine mu ?_ | refine ac ?_ | refine ai ?_)
      exact k _ _ (mid + 1) z l _ _ d5 ⟨c0, rfl, c2, c3, rfl, rfl⟩ (by omega) (by omega) hz hl ⟨p5.1.trans r3, q1, fun R hR hs => (fun x => hq.2.2 R x.1 x.2) (q2 R hR hs)⟩ h5
    · have hlt := ltZ_n hlt
      repeat (first | refine run ?_ | refine ct ?_ | refine cf ?_ | refine sk ?_ | refine la rfl ?_ | refine na fun _ _ _ => ?_ | refine sa rfl fun _ _ => ?_ | refine nk ?_ | refine mu ?_ | refine ac ?_ | refine ai ?_)
      try rw [addInt]
      refine inR_nat (by omega) ?_
      repeat (first | refine run ?_ | refine ct ?_ | refine cf ?_ | refine sk ?_ | refine la rfl ?_ | refine na fun _ _ _ => ?_ | refine sa rfl fun _ _ => ?_ | refine nk ?_ | refine mu ?_ | refine ac ?_ | refine ai ?_)
      refine ih _ R _ b e s (mid + 1) z n l d4 _ (by omega) h2 (by repeat (first | exact pH | apply pT)) r3 hn2 (by omega) hz hl r5 fun d5 H5 p5 s5 h5 => ?_
      obtain ⟨q1, q2⟩ := r7 d5 p5 s5
      repeat (first | refine run ?_ | refine ct ?_ | refine cf ?_ | refine sk ?_ | refine la rfl ?_ | refine na fun _ _ _ => ?_ | refine sa rfl fun _ _ => ?_ | refine nk ?_ | refine mu ?_ | refine ac ?_ | refine ai ?_)
      exact k _ _ a mid l _ _ d5 ⟨c0, c1, rfl, c3, rfl, rfl⟩ (by omega) (by omega) (by omega) hl ⟨p5.1.trans r3, q1, fun R hR hs => (fun x => hq.2.2 R x.1 x.2) (q2 R hR hs)⟩ h5
  rw [codeW_cut2 12 2, pdqC_W]
  simp only [e1]
  repeat (first | refine run ?_ | refine ct ?_ | refine cf ?_ | refine sk ?_ | refine la rfl ?_ | refine na fun _ _ _ => ?_ | refine sa rfl fun _ _ => ?_ | refine nk ?_ | refine mu ?_ | refine ac ?_ | refine ai ?_)
  refine Cd.of (fun h0 => ?_) (fun h0 => part _ _ ⟨e0, e1, e2, e3, e8, e9⟩ e10 e11 hs)
  have h0 := ltZ_e h0
  repeat (first | refine run ?_ | refine ct ?_ | refine cf ?_ | refine sk ?_ | refine la rfl ?_ | refine na fun _ _ _ => ?_ | refine sa rfl fun _ _ => ?_ | refine nk ?_ | refine mu ?_ | refine ac ?_ | refine ai ?_)
  rw [subInt (by omega)]
  refine inR_nat (by omega) ?_
  repeat (first | refine run ?_ | refine ct ?_ | refine cf ?_ | refine sk ?_ | refine la rfl ?_ | refine na fun _ _ _ => ?_ | refine sa rfl fun _ _ => ?_ | refine nk ?_ | refine mu ?_ | refine ac ?_ | refine ai ?_)
  simp only [e0, e11, e2]
  repeat (first | refine run ?_ | refine ct ?_ | refine cf ?_ | refine sk ?_ | refine la rfl ?_ | refine na fun _ _ _ => ?_ | refine sa rfl fun _ _ => ?_ | refine nk ?_ | refine mu ?_ | refine ac ?_ | refine ai ?_)
  refine Must.mk (ltN_t (by omega)) (ldA hs (by omega) rfl ?_)
  repeat (first | refine run ?_ | refine ct ?_ | refine cf ?_ | refine sk ?_ | refine la rfl ?_ | refine na fun _ _ _ => ?_ | refine sa rfl fun _ _ => ?_ | refine nk ?_ | refine mu ?_ | refine ac ?_ | refine ai ?_)
  refine Must.mk (ltN_t (by omega)) (ldA hs (by omega) rfl ?_)
  repeat (first | refine run ?_ | refine ct ?_ | refine cf ?_ | refine sk ?_ | refine la rfl ?_ | refine na fun _ _ _ => ?_ | refine sa rfl fun _ _ => ?_ | refine nk ?_ | refine mu ?_ | refine ac ?_ | refine ai ?_)
  refine cmpLess_ok hc ?_
  repeat (first | refine run ?_ | refine ct ?_ | refine cf ?_ | refine sk ?_ | refine la rfl ?_ | refine na fun _ _ _ => ?_ | refine sa rfl fun _ _ => ?_ | refine nk ?_ | refine mu ?_ | refine ac ?_ | refine ai ?_)
  refine Cd.of (fun hl1 => ?_) (fun hl1 => part _ _ ⟨e0, e1, e2, e3, e8, e9⟩ e10 e11 hs)
  have hl1 : ltU d[a - 1]! d[p]! = false := by
    cases hh : ltU d[a - 1]! d[p]! with
    | false => rfl
    | true => rw [hh] at hl1; cases hl1
  rcases hx : Sort.partitionEqual ltU d a z p with ⟨mid, d4⟩
  obtain ⟨r1, r2, r3, r4, r5⟩ := Sort.round_eq swoU (Sort.partitionEqual_holds ltU) h0 hap hpz (by rw [hd]; exact hz) hq.2.1 hl1 hx
  refine partEq_ok hc hs (by repeat (first | exact pH | apply pT)) hd (by omega) (by omega) hz (by omega) fun H2 h2 => ?_
  simp only [hx] at h2 ⊢
  repeat (first | refine run ?_ | refine ct ?_ | refine cf ?_ | refine sk ?_ | refine la rfl ?_ | refine na fun _ _ _ => ?_ | refine sa rfl fun _ _ => ?_ | refine nk ?_ | refine mu ?_ | refine ac ?_ | refine ai ?_)
  exact kE _ _ mid z l wb wp d4 ⟨e0, rfl, e2, e3, e8, e9⟩ (by omega) r2 hz hl ⟨r3.trans hd, r4, fun R hR hs => (fun x => hq.2.2 R x.1 x.2) (r5 R hR hs)⟩ h2
theorem pdqB_ok (hc : Con con lives) {m : Nat} (ih : PdqAt con m) {R : List HP} {H : CH} {b e s n a z a0 z0 l : Nat} {wb wp : Bool} {d0 d : Array Nat} {σ : TF} {K : KX} (hs : Sat (RowA b e s d :: R) H) (hq : PQ n a0 z0 d0 a z d) (hn2 : n ≤ 256) (haz : a + 12 < z) (hz : z ≤ n) (hl : l ≤ 1000) (hm : z - a ≤ m)
    (ht : PT σ b n a z l wb wp) (e10 : σ 10 = iN (z - a))
    (kR : ∀ σ1 H1 d1, Sort.PermIn a0 z0 d0 d1 → Sort.SortedIn ltU a0 z0 d1 → Sat (RowA b e s d1 :: R) H1 → K .ret σ1 H1)
    (k : ∀ σ1 H1 a1 z1 l1 wb1 wp1 d1, PT σ1 b n a1 z1 l1 wb1 wp1 → z1 - a1 < z - a → a1 ≤ z1 → z1 ≤ n → l1 ≤ 1000 → PQ n a0 z0 d0 a1 z1 d1 → Sat (RowA b e s d1 :: R) H1 → K .normal σ1 H1)
    (kE : ∀ σ1 H1 a1 z1 l1 wb1 wp1 d1, PT σ1 b n a1 z1 l1 wb1 wp1 → z1 - a1 < z - a → a1 ≤ z1 → z1 ≤ n → l1 ≤ 1000 → PQ n a0 z0 d0 a1 z1 d1 → Sat (RowA b e s d1 :: R) H1 → K (.exit 1) σ1 H1) :
    codeW (dropC 7 (blkC (lpAt Tryz.prog 148 0))) Tryz.prog con σ H K := by
  obtain ⟨e0, e1, e2, e3, e8, e9⟩ := ht
  have hd := hq.1
  rw [codeW_cut2 7 5, pdqB_W]
  simp only [e0, e1, e2, e8, e9]
  refine choosePiv_ok hc hs (by repeat (first | exact pH | apply pT)) hd (by omega) (by omega) hz fun p h H2 hap hpz hh h2 => ?_
  repeat (first | refine run ?_ | refine ct ?_ | refine cf ?_ | refine sk ?_ | refine la rfl ?_ | refine na fun _ _ _ => ?_ | refine sa rfl fun _ _ => ?_ | refine nk ?_ | refine mu ?_ | refine ac ?_ | refine ai ?_)
  by_cases h2' : h = 2
  · refine Cd.t (eqZ_t h2') ?_
    refine revRange_ok hc h2 (by repeat (first | exact pH | apply pT)) hd (by omega) (by omega) hz fun H3 h3 => ?_
    have hrp := Sort.reverseRange_holds d a z (by omega) (by rw [hd]; exact hz)
    have hq3 := hq.perm hz hrp
    have hd3 := hq3.1
    generalize Sort.reverseRange d a z = d3 at *
    repeat (first | refine run ?_ | refine ct ?_ | refine cf ?_ | refine sk ?_ | refine la rfl ?_ | refine na fun _ _ _ => ?_ | refine sa rfl fun _ _ => ?_ | refine nk ?_ | refine mu ?_ | refine ac ?_ | refine ai ?_)
    rw [subInt (by omega)]
    refine inR_nat (by omega) ?_
    repeat (first | refine run ?_ | refine ct ?_ | refine cf ?_ | refine sk ?_ | refine la rfl ?_ | refine na fun _ _ _ => ?_ | refine sa rfl fun _ _ => ?_ | refine nk ?_ | refine mu ?_ | refine ac ?_ | refine ai ?_)
    rw [subInt (by omega)]
    refine inR_nat (by omega) ?_
    repeat (first | refine run ?_ | refine ct ?_ | refine cf ?_ | refine sk ?_ | refine la rfl ?_ | refine na fun _ _ _ => ?_ | refine sa rfl fun _ _ => ?_ | refine nk ?_ | refine mu ?_ | refine ac ?_ | refine ai ?_)
    rw [subInt (by omega)]
    refine inR_nat (by omega) ?_
    repeat (first | refine run ?_ | refine ct ?_ | refine cf ?_ | refine sk ?_ | refine la rfl ?_ | refine na fun _ _ _ => ?_ | refine sa rfl fun _ _ => ?_ | refine nk ?_ | refine mu ?_ | refine ac ?_ | refine ai ?_)
    cases wb with
    | false =>
      refine Cd.f rfl ?_
      exact pdqCD_ok hc ih h3 hq3 hn2 (by omega) (by omega) hz hl hm ⟨e0, e1, e2, e3, e8, e9⟩ e10 rfl k kE
    | true =>
      refine Cd.t rfl ?_
      refine AsWant.mk ?_
      cases wp with
      | false =>
        refine Cd.f rfl ?_
        exact pdqCD_ok hc ih h3 hq3 hn2 (by omega) (by omega) hz hl hm ⟨e0, e1, e2, e3, e8, e9⟩ e10 rfl k kE
      | true =>
        refine Cd.t rfl ?_
        cases hpi : (Sort.partialInsertionSort ltU d3 a z).2 with
        | true =>
          refine partIns_ok hc h3 (by repeat (first | exact pH | apply pT)) hd3 (by omega) (by omega) hz fun H5 h5 => ?_
          rw [hpi]
          repeat (first | refine run ?_ | refine ct ?_ | refine cf ?_ | refine sk ?_ | refine la rfl ?_ | refine na fun _ _ _ => ?_ | refine sa rfl fun _ _ => ?_ | refine nk ?_ | refine mu ?_ | refine ac ?_ | refine ai ?_)
          have hpp := Sort.partialInsertionSort_holds swoU d3 a z (by omega) (by rw [hd3]; exact hz) hq3.2.1
          exact kR _ _ _ (hq3.2.2 _ hpp.1 (hpp.2 hpi)).1 (hq3.2.2 _ hpp.1 (hpp.2 hpi)).2 h5
        | false =>
          refine partIns_ok hc h3 (by repeat (first | exact pH | apply pT)) hd3 (by omega) (by omega) hz fun H5 h5 => ?_
          rw [hpi]
          repeat (first | refine run ?_ | refine ct ?_ | refine cf ?_ | refine sk ?_ | refine la rfl ?_ | refine na fun _ _ _ => ?_ | refine sa rfl fun _ _ => ?_ | refine nk ?_ | refine mu ?_ | refine ac ?_ | refine ai ?_)
          have hpp := Sort.partialInsertionSort_holds swoU d3 a z (by omega) (by rw [hd3]; exact hz) hq3.2.1
          exact pdqCD_ok hc ih h5 (hq3.perm hz hpp.1) hn2 (by omega) (by omega) hz hl hm ⟨e0, e1, e2, e3, e8, e9⟩ e10 rfl k kE
  · refine Cd.f (eqZ_f h2') ?_
    refine AsWant.mk ?_
    cases wb with
    | false =>
      refine Cd.f rfl ?_
      exact pdqCD_ok hc ih h2 hq hn2 (by omega) (by omega) hz hl hm ⟨e0, e1, e2, e3, e8, e9⟩ e10 rfl k kE
    | true =>
      refine Cd.t rfl ?_
      refine AsWant.mk ?_
      cases wp with
      | false =>
        refine Cd.f rfl ?_
        exact pdqCD_ok hc ih h2 hq hn2 (by omega) (by omega) hz hl hm ⟨e0, e1, e2, e3, e8, e9⟩ e10 rfl k kE
      | true =>
        refine Cd.t rfl ?_
        repeat (first | refine run ?_ | refine ct ?_ | refine cf ?_ | refine sk ?_ | refine la rfl ?_ | refine na fun _ _ _ => ?_ | refine sa rfl fun _ _ => ?_ | refine nk ?_ | refine mu ?_ | refine ac ?_ | refine ai ?_)
        refine Cd.of (fun _ => ?_) (fun _ => pdqCD_ok hc ih h2 hq hn2 (by omega) (by omega) hz hl hm ⟨e0, e1, e2, e3, e8, e9⟩ e10 rfl k kE)
        cases hpi : (Sort.partialInsertionSort ltU d a z).2 with
        | true =>
          refine partIns_ok hc h2 (by repeat (first | exact pH | apply pT)) hd (by omega) (by omega) hz fun H5 h5 => ?_
          rw [hpi]
          repeat (first | refine run ?_ | refine ct ?_ | refine cf ?_ | refine sk ?_ | refine la rfl ?_ | refine na fun _ _ _ => ?_ | refine sa rfl fun _ _ => ?_ | refine nk ?_ | refine mu ?_ | refine ac ?_ | refine ai ?_)
          have hpp := Sort.partialInsertionSort_holds swoU d a z (by omega) (by rw [hd]; exact hz) hq.2.1
          exact kR _ _ _ (hq.2.2 _ hpp.1 (hpp.2 hpi)).1 (hq.2.2 _ hpp.1 (hpp.2 hpi)).2 h5
        | false =>
          refine partIns_ok hc h2 (by repeat (first | exact pH | apply pT)) hd (by omega) (by omega) hz fun H5 h5 => ?_
          rw [hpi]
          repeat (first | refine run ?_ | refine ct ?_ | refine cf ?_ | refine sk ?_ | refine la rfl ?_ | refine na fun _ _ _ => ?_ | refine sa rfl fun _ _ => ?_ | refine nk ?_ | refine mu ?_ | refine ac ?_ | refine ai ?_)
          have hpp := Sort.partialInsertionSort_holds swoU d a z (by omega) (by rw [hd]; exact hz) hq.2.1
          exact pdqCD_ok hc ih h5 (hq.perm hz hpp.1) hn2 (by omega) (by omega) hz hl hm ⟨e0, e1, e2, e3, e8, e9⟩ e10 rfl k kE
theorem pdqRound_ok (hc : Con con lives) {m : Nat} (ih : PdqAt con m) {R : List HP} {H : CH} {b e s n a z a0 z0 l : Nat} {wb wp : Bool} {d0 d : Array Nat} {σ : TF} {K : KX} (hs : Sat (RowA b e s d :: R) H) (hq : PQ n a0 z0 d0 a z d) (hn2 : n ≤ 256) (haz : a ≤ z) (hz : z ≤ n) (hl : l ≤ 1000) (hm : z - a ≤ m)
    (ht : PT σ b n a z l wb wp)
    (kR : ∀ σ1 H1 d1, Sort.PermIn a0 z0 d0 d1 → Sort.SortedIn ltU a0 z0 d1 → Sat (RowA b e s d1 :: R) H1 → K .ret σ1 H1)
    (k : ∀ σ1 H1 a1 z1 l1 wb1 wp1 d1, PT σ1 b n a1 z1 l1 wb1 wp1 → z1 - a1 < z - a → a1 ≤ z1 → z1 ≤ n → l1 ≤ 1000 → PQ n a0 z0 d0 a1 z1 d1 → Sat (RowA b e s d1 :: R) H1 → K .normal σ1 H1)
    (kE : ∀ σ1 H1 a1 z1 l1 wb1 wp1 d1, PT σ1 b n a1 z1 l1 wb1 wp1 → z1 - a1 < z - a → a1 ≤ z1 → z1 ≤ n → l1 ≤ 1000 → PQ n a0 z0 d0 a1 z1 d1 → Sat (RowA b e s d1 :: R) H1 → K (.exit 1) σ1 H1) :
    codeW (blkC (lpAt Tryz.prog 148 0)) Tryz.prog con σ H K := by
  obtain ⟨e0, e1, e2, e3, e8, e9⟩ := ht
  have hd := hq.1
  rw [codeW_cut 7, pdqA_W]
  simp only [e0, e1, e2, e3, e8]
  repeat (first | refine run ?_ | refine ct ?_ | refine cf ?_ | refine sk ?_ | refine la rfl ?_ | refine na fun _ _ _ => ?_ | refine sa rfl fun _ _ => ?_ | refine nk ?_ | refine mu ?_ | refine ac ?_ | refine ai ?_)
  rw [subInt (by omega)]
  refine inR_nat (by omega) ?_
  repeat (first | refine run ?_ | refine ct ?_ | refine cf ?_ | refine sk ?_ | refine la rfl ?_ | refine na fun _ _ _ => ?_ | refine sa rfl fun _ _ => ?_ | refine nk ?_ | refine mu ?_ | refine ac ?_ | refine ai ?_)
  refine Cd.of (fun h12 => ?_) (fun h12 => ?_)
  · refine insSort_ok hc hs (by repeat (first | exact pH | apply pT)) hd (by omega) haz hz fun H2 h2 => ?_
    have hpp := Sort.insertionSort_holds swoU d a z haz (by rw [hd]; exact hz)
    exact kR _ _ _ (hq.2.2 _ hpp.1 hpp.2).1 (hq.2.2 _ hpp.1 hpp.2).2 h2
  · have h12 := leZ_n h12
    repeat (first | refine run ?_ | refine ct ?_ | refine cf ?_ | refine sk ?_ | refine la rfl ?_ | refine na fun _ _ _ => ?_ | refine sa rfl fun _ _ => ?_ | refine nk ?_ | refine mu ?_ | refine ac ?_ | refine ai ?_)
    by_cases hl0 : l = 0
    · refine Cd.t (eqZ_t hl0) ?_
      refine heapSort_ok hc hs (by repeat (first | exact pH | apply pT)) hd (by omega) (by omega) hz fun H2 h2 => ?_
      have hpp := Sort.heapSort_holds swoU d a z haz (by rw [hd]; exact hz)
      exact kR _ _ _ (hq.2.2 _ hpp.1 hpp.2).1 (hq.2.2 _ hpp.1 hpp.2).2 h2
    · refine Cd.f (eqZ_f hl0) ?_
      repeat (first | refine run ?_ | refine ct ?_ | refine cf ?_ | refine sk ?_ | refine la rfl ?_ | refine na fun _ _ _ => ?_ | refine sa rfl fun _ _ => ?_ | refine nk ?_ | refine mu ?_ | refine ac ?_ | refine ai ?_)
      cases wb with
      | true =>
        refine Cd.f rfl ?_
        exact pdqB_ok hc ih hs hq hn2 (by omega) hz hl hm ⟨e0, e1, e2, e3, e8, e9⟩ rfl kR k kE
      | false =>
        refine Cd.t rfl ?_
        refine breakPat_ok hc hs (by repeat (first | exact pH | apply pT)) hd hn2 haz hz fun d' H2 hp2 h2 => ?_
        repeat (first | refine run ?_ | refine ct ?_ | refine cf ?_ | refine sk ?_ | refine la rfl ?_ | refine na fun _ _ _ => ?_ | refine sa rfl fun _ _ => ?_ | refine nk ?_ | refine mu ?_ | refine ac ?_ | refine ai ?_)
        rw [subInt (by omega)]
        refine inR_nat (by omega) ?_
        repeat (first | refine run ?_ | refine ct ?_ | refine cf ?_ | refine sk ?_ | refine la rfl ?_ | refine na fun _ _ _ => ?_ | refine sa rfl fun _ _ => ?_ | refine nk ?_ | refine mu ?_ | refine ac ?_ | refine ai ?_)
        exact pdqB_ok hc ih h2 (hq.perm hz hp2) hn2 (by omega) hz (by omega) hm ⟨e0, e1, e2, rfl, e8, e9⟩ rfl kR k kE
theorem pdqAll (hc : Con con lives) : ∀ m, PdqAt con m := by
  intro m
  induction m with
  | zero => exact fun L R H b e s a z n l d K hm => absurd hm (Nat.not_lt_zero _)
  | succ m ih =>
    intro L R H b e s a z n l d K hm hs hp hd hn2 haz hz hl hB k
    refine call_of (hc _ _ _ rfl) ?_
    rw [pdqSort_W]
    have hs0 := hs.pull hp
    clear hs hp
    refine LoopC.indP (n := 200) (id := 0) (fun σ1 H1 => False) (by kernel_rfl)
      (fun (x : Nat × Nat) σ1 H1 => x.1 ≤ x.2 ∧ x.2 ≤ n ∧ x.2 - x.1 ≤ z - a ∧ ∃ l1 wb wp d1, l1 ≤ 1000 ∧ PT σ1 b n x.1 x.2 l1 wb wp ∧ PQ n a z d x.1 x.2 d1 ∧ Sat (RowA b e s d1 :: R) H1)
      (fun x => x.2 - x.1) (fun x σ1 H1 hI => ?_) (fun σ1 H1 hP => hP.elim) (a, z) _ _ ⟨haz, hz, Nat.le_refl _, l, true, true, d, hl, ⟨rfl, rfl, rfl, rfl, rfl, rfl⟩, ⟨hd, hB, fun R h1 h2 => ⟨h1, h2⟩⟩, hs0⟩
    obtain ⟨x, y⟩ := x
    obtain ⟨hxy, hyn, hxm, l1, wb, wp, d1, hl1, ht, hq, hs1⟩ := hI
    have hxm : y - x ≤ z - a := hxm
    rw [codeW_blk (id := 1) (by kernel_rfl)]
    refine pdqRound_ok hc ih hs1 hq hn2 hxy hyn hl1 (by omega) ht (fun σ2 H2 d2 p2 s2 h2 => ?_) (fun σ2 H2 a2 z2 l2 wb2 wp2 d2 ht2 hlt h2a h2z hl2 hq2 h2 => ?_) (fun σ2 H2 a2 z2 l2 wb2 wp2 d2 ht2 hlt h2a h2z hl2 hq2 h2 => ?_)
    · exact k _ _ p2 s2 h2
    · exact ⟨(a2, z2), hlt, h2a, h2z, by show z2 - a2 ≤ z - a; omega, l2, wb2, wp2, d2, hl2, ht2, hq2, h2⟩
    · show Cd _ _ _
      refine Cd.t rfl ?_
      exact ⟨(a2, z2), hlt, h2a, h2z, by show z2 - a2 ≤ z - a; omega, l2, wb2, wp2, d2, hl2, ht2, hq2, h2⟩
theorem pdqSort_ok (hc : Con con lives) {L R : List HP} {H : CH} {b e s n l : Nat} {d : Array Nat} {K : KP} (hs : Sat L H) (hp : Pull L (RowA b e s d) R) (hn : d.size = n) (hn2 : n ≤ 256) (hl : l ≤ 1000)
    (k : ∀ d' H1, Sort.PermIn 0 n d d' → Sort.SortedIn ltU 0 n d' → Sat (RowA b e s d' :: R) H1 → K unit H1) : Call1 Tryz.prog con 148 [slc b 0 n n, iN 0, iN n, iN l] H K :=
  pdqAll hc (n + 1) L R H b e s 0 n n l d K (by omega) hs hp hn hn2 (Nat.zero_le _) (Nat.le_refl _) hl (.inl rfl) k
end Go.Proofs.YtipbbnoepphdkaaGreat

set_option linter.unusedVariables false
set_option linter.unusedSimpArgs false
namespace Go.Proofs.YtipbbnoepphdkaaGreat
open Go Go.CM
attribute [local irreducible] AsBool AsWant AsNat AsInt AsCnt AsPtr AsSlc AsLen AsStr AsAgg AsTup AsFn AsIfc Nth Sc NotNil IsNil Must Cd codeW funW Sat SatL wrapN subM mkRow ltZ leZ ltN leN
variable {con : CallT}
theorem sortU_ok (hc : Con con lives) {L R : List HP} {H : CH} {b e s n : Nat} {d : Array Nat} {K : KP} (hs : Sat L H) (hp : Pull L (RowA b e s d) R) (hn : d.size = n) (hn2 : n ≤ 256)
    (k : ∀ d' H1, Sort.PermIn 0 n d d' → Sort.SortedIn ltU 0 n d' → Sat (RowA b e s d' :: R) H1 → K unit H1) : Call1 Tryz.prog con 126 [slc b 0 n n] H K := by
  refine call_of (hc _ _ _ rfl) ?_
  rw [sortU_W]
  repeat (first | refine run ?_ | refine ct ?_ | refine cf ?_ | refine sk ?_ | refine la rfl ?_ | refine na fun _ _ _ => ?_ | refine sa rfl fun _ _ => ?_ | refine nk ?_ | refine mu ?_ | refine ac ?_ | refine ai ?_)
  refine Must.mk (cv_small (by omega)) ?_
  rw [wrapN_small (by omega)]
  refine bitsLen_ok hc hn2 fun c hc1 _ => ?_
  refine pdqSort_ok hc hs hp hn hn2 (by omega) fun d' H1 p1 s1 h1 => ?_
  exact k d' H1 p1 s1 h1
end Go.Proofs.YtipbbnoepphdkaaGreat

set_option linter.unusedVariables false
set_option linter.unusedSimpArgs false
namespace Go.Proofs.YtipbbnoepphdkaaGreat
open Go Go.CM
attribute [local irreducible] AsBool AsWant AsNat AsInt AsCnt AsPtr AsSlc AsLen AsStr AsAgg AsTup AsFn AsIfc Nth Sc NotNil IsNil Must Cd codeW funW Sat SatL wrapN subM mkRow ltZ leZ ltN leN
variable {con : CallT}
theorem ltN_n {a b : Nat} (h : ltN a b = false) : b ≤ a := Nat.le_of_not_lt fun h2 => by rw [ltN_t h2] at h; cases h
theorem atSet (d : Array Nat) (k v i : Nat) (hk : k < d.size) : (d.setIfInBounds k v)[i]! = if i = k then v else d[i]! := by
  by_cases h : i = k
  · subst h
    rw [if_pos rfl, getElem!_pos _ i (by rw [Array.size_setIfInBounds]; exact hk), Array.getElem_setIfInBounds_self]
  · rw [if_neg h]
    by_cases hi : i < d.size
    · rw [getElem!_pos _ i (by rw [Array.size_setIfInBounds]; exact hi), getElem!_pos d i hi, Array.getElem_setIfInBounds_ne _ (Ne.symm h)]
    · rw [getElem!_neg _ i (by rw [Array.size_setIfInBounds]; exact hi), getElem!_neg d i hi]
theorem setA (d : Array Nat) (k v : Nat) : (d.toList.map u64).set k (u64 v) = (d.setIfInBounds k v).toList.map u64 := by
  rw [Array.toList_setIfInBounds, List.map_set]
theorem ovwA : ∀ (m k n : Nat) (d : Array Nat), d.size = n → k + m ≤ n → ∃ d2 : Array Nat, d2.size = n ∧ (∀ i, i < k → d2[i]! = d[i]!) ∧ ovw (List.replicate m (u64 0)) (d.toList.map u64) k = d2.toList.map u64
  | 0, k, n, d, hn, _ => ⟨d, hn, fun _ _ => rfl, rfl⟩
  | m + 1, k, n, d, hn, h => by
    obtain ⟨d2, h1, h2, h3⟩ := ovwA m (k + 1) n (d.setIfInBounds k 0) (by rw [Array.size_setIfInBounds]; exact hn) (by omega)
    refine ⟨d2, h1, fun i hi => ?_, ?_⟩
    · rw [h2 i (by omega), atSet _ _ _ _ (by omega), if_neg (by omega)]
    · rw [← h3, ← setA]
      show ovw (List.replicate m (u64 0)) (setN (d.toList.map u64) (u64 0) k) (k + 1) = _
      rw [setN_eq]
/-- The numbers ahead of i. -/
def upTo (d : Array Nat) (i : Nat) (x : Nat) : Prop := ∃ j, j < i ∧ d[j]! = x
theorem upTo_succ {d : Array Nat} {i x : Nat} : upTo d (i + 1) x ↔ upTo d i x ∨ d[i]! = x := by
  constructor
  · rintro ⟨j, h1, h2⟩
    by_cases h : j = i
    · subst h; exact .inr h2
    · exact .inl ⟨j, by omega, h2⟩
  · rintro (⟨j, h1, h2⟩ | h)
    · exact ⟨j, by omega, h2⟩
    · exact ⟨i, by omega, h⟩
def Up (d : Array Nat) (m : Nat) : Prop := ∀ i, i + 1 < m → d[i]! < d[i + 1]!
structure CpI (d cur : Array Nat) (n k j : Nat) : Prop where
  sz : cur.size = n
  k1 : 1 ≤ k
  kj : k < j
  jn : j ≤ n
  up : Up cur k
  last : cur[k - 1]! = d[j - 1]!
  mem : ∀ x, upTo cur k x ↔ upTo d j x
  rest : ∀ i, j - 1 ≤ i → cur[i]! = d[i]!
theorem CpI.same {d cur : Array Nat} {n k j : Nat} (h : CpI d cur n k j) (hj : j < n) (e : d[j]! = d[j - 1]!) : CpI d cur n k (j + 1) where
  sz := h.sz
  k1 := h.k1
  kj := Nat.lt_succ_of_lt h.kj
  jn := hj
  up := h.up
  last := by rw [h.last, Nat.add_sub_cancel, e]
  mem x := by
    rw [upTo_succ, h.mem]
    refine ⟨.inl, fun hx => hx.elim id fun hx => ⟨j - 1, by have := h.kj; omega, by rw [← e]; exact hx⟩⟩
  rest i hi := h.rest i (by omega)
theorem CpI.diff {d cur : Array Nat} {n k j : Nat} (h : CpI d cur n k j) (hj : j < n) (e : d[j - 1]! < d[j]!) : CpI d (cur.setIfInBounds k d[j]!) n (k + 1) (j + 1) := by
  have hk : k < cur.size := by have := h.kj; have := h.sz; omega
  have k1 := h.k1
  refine ⟨by rw [Array.size_setIfInBounds]; exact h.sz, by omega, by have := h.kj; omega, hj, fun i hi => ?_, ?_, fun x => ?_, fun i hi => ?_⟩
  · rw [atSet _ _ _ _ hk, atSet _ _ _ _ hk, if_neg (by omega)]
    by_cases hi2 : i + 1 = k
    · rw [if_pos hi2]
      have : i = k - 1 := by omega
      rw [this, h.last]; exact e
    · rw [if_neg hi2]; exact h.up i (by omega)
  · rw [atSet _ _ _ _ hk, if_pos (by omega), Nat.add_sub_cancel]
  · rw [upTo_succ, upTo_succ, atSet _ _ _ _ hk, if_pos rfl, ← h.mem]
    refine or_congr ⟨?_, ?_⟩ Iff.rfl
    · rintro ⟨i, h1, h2⟩
      rw [atSet _ _ _ _ hk, if_neg (by omega)] at h2
      exact ⟨i, h1, h2⟩
    · rintro ⟨i, h1, h2⟩
      exact ⟨i, h1, by rw [atSet _ _ _ _ hk, if_neg (by omega)]; exact h2⟩
  · rw [atSet _ _ _ _ hk, if_neg (by have := h.kj; omega)]
    exact h.rest i (by omega)
theorem CpI.start {d : Array Nat} {n k : Nat} (hn : d.size = n) (h1 : 1 ≤ k) (hk : k < n) (hu : Up d k) (e : d[k]! = d[k - 1]!) : CpI d d n k (k + 1) where
  sz := hn
  k1 := h1
  kj := Nat.lt_succ_self _
  jn := hk
  up := hu
  last := by rw [Nat.add_sub_cancel, e]
  mem x := by
    rw [upTo_succ]
    exact ⟨.inl, fun hx => hx.elim id fun hx => ⟨k - 1, by omega, by rw [← e]; exact hx⟩⟩
  rest i hi := rfl
/-- What Compact leaves of d. -/
def Cpct (d : Array Nat) (n : Nat) (d' : Array Nat) (m : Nat) : Prop := d'.size = n ∧ m ≤ n ∧ Up d' m ∧ ∀ x, upTo d' m x ↔ upTo d n x
theorem CpI.fin {d cur d2 : Array Nat} {n k : Nat} (h : CpI d cur n k n) (h1 : d2.size = n) (h2 : ∀ i, i < k → d2[i]! = cur[i]!) : Cpct d n d2 k := by
  refine ⟨h1, by have := h.kj; omega, fun i hi => by rw [h2 i (by omega), h2 (i + 1) hi]; exact h.up i hi, fun x => ?_⟩
  rw [← h.mem]
  exact ⟨fun ⟨i, a, c⟩ => ⟨i, a, by rw [← h2 i a]; exact c⟩, fun ⟨i, a, c⟩ => ⟨i, a, by rw [h2 i a]; exact c⟩⟩
theorem compactM_ok (hc : Con con lives) {R : List HP} {H : CH} {b n k0 : Nat} {d : Array Nat} {σ : TF} {Q : KX} (hs : Sat (RowA b tU 1 d :: R) H) (hn2 : n ≤ 1000000) (hsd : Sort.SortedIn ltU 0 n d) (h0 : CpI d d n k0 (k0 + 1))
    (e0 : σ 0 = slc b 0 n n) (e3 : σ 3 = iN k0) (e4 : σ 4 = slc b k0 (n - k0) (n - k0)) (e5 : σ 5 = iN 1)
    (k : ∀ σ1 H1 cur m, CpI d cur n m n → σ1 0 = slc b 0 n n → σ1 3 = iN m → Sat (RowA b tU 1 cur :: R) H1 → Q (.exit 2) σ1 H1) :
    LoopC Tryz.prog con (lpAt Tryz.prog 127 1) σ H Q := by
  refine LoopC.indP (n := 200) (id := 2) (fun σ1 H1 => ∃ cur m, CpI d cur n m n ∧ σ1 0 = slc b 0 n n ∧ σ1 3 = iN m ∧ Sat (RowA b tU 1 cur :: R) H1) (by kernel_rfl)
    (fun (x : Nat) σ1 H1 => σ1 0 = slc b 0 n n ∧ σ1 4 = slc b k0 (n - k0) (n - k0) ∧ σ1 5 = iN x ∧ 1 ≤ x ∧ ∃ cur m, σ1 3 = iN m ∧ CpI d cur n m (k0 + x) ∧ Sat (RowA b tU 1 cur :: R) H1)
    (fun x => n - x) (fun x σ1 H1 hI => ?_) (fun σ1 H1 hP => ?_) 1 _ _ ⟨e0, e4, e5, Nat.le_refl _, d, k0, e3, h0, hs⟩
  · obtain ⟨a0, a4, a5, hx1, cur, m, a3, hI, hs1⟩ := hI
    have hsz := hI.sz
    have hjn := hI.jn
    have hkj := hI.kj
    have hk1 := h0.k1
    rw [compactM_W]
    simp only [a0, a4, a5, a3]
    repeat (first | refine run ?_ | refine ct ?_ | refine cf ?_ | refine sk ?_ | refine la rfl ?_ | refine na fun _ _ _ => ?_ | refine sa rfl fun _ _ => ?_ | refine nk ?_ | refine mu ?_ | refine ac ?_ | refine ai ?_)
    by_cases h : x < n - k0
    · refine Cd.t (ltZ_t h) ?_
      repeat (first | refine run ?_ | refine ct ?_ | refine cf ?_ | refine sk ?_ | refine la rfl ?_ | refine na fun _ _ _ => ?_ | refine sa rfl fun _ _ => ?_ | refine nk ?_ | refine mu ?_ | refine ac ?_ | refine ai ?_)
      refine Must.mk (ltN_t (by omega)) (ldA (i := k0 + x) hs1 (by omega) (by show k0 + x * 1 = 0 + (k0 + x) * 1; omega) ?_)
      repeat (first | refine run ?_ | refine ct ?_ | refine cf ?_ | refine sk ?_ | refine la rfl ?_ | refine na fun _ _ _ => ?_ | refine sa rfl fun _ _ => ?_ | refine nk ?_ | refine mu ?_ | refine ac ?_ | refine ai ?_)
      rw [subInt (by omega)]
      refine inR_nat (by omega) ?_
      repeat (first | refine run ?_ | refine ct ?_ | refine cf ?_ | refine sk ?_ | refine la rfl ?_ | refine na fun _ _ _ => ?_ | refine sa rfl fun _ _ => ?_ | refine nk ?_ | refine mu ?_ | refine ac ?_ | refine ai ?_)
      refine Must.mk (ltN_t (by omega)) (ldA (i := k0 + x - 1) hs1 (by omega) (by show k0 + (x - 1) * 1 = 0 + (k0 + x - 1) * 1; omega) ?_)
      repeat (first | refine run ?_ | refine ct ?_ | refine cf ?_ | refine sk ?_ | refine la rfl ?_ | refine na fun _ _ _ => ?_ | refine sa rfl fun _ _ => ?_ | refine nk ?_ | refine mu ?_ | refine ac ?_ | refine ai ?_)
      rw [hI.rest (k0 + x) (by omega), hI.rest (k0 + x - 1) (by omega)]
      by_cases he : d[k0 + x]! = d[k0 + x - 1]!
      · rw [he, eqN_self]
        refine Cd.f rfl ?_
        repeat (first | refine run ?_ | refine ct ?_ | refine cf ?_ | refine sk ?_ | refine la rfl ?_ | refine na fun _ _ _ => ?_ | refine sa rfl fun _ _ => ?_ | refine nk ?_ | refine mu ?_ | refine ac ?_ | refine ai ?_)
        try rw [addInt]
        refine inR_nat (by omega) ?_
        repeat (first | refine run ?_ | refine ct ?_ | refine cf ?_ | refine sk ?_ | refine la rfl ?_ | refine na fun _ _ _ => ?_ | refine sa rfl fun _ _ => ?_ | refine nk ?_ | refine mu ?_ | refine ac ?_ | refine ai ?_)
        show ∃ y, _ ∧ _
        exact ⟨x + 1, by omega, a0, a4, rfl, by omega, cur, m, a3, hI.same (by omega) he, hs1⟩
      · rw [eqN_f he]
        refine Cd.t rfl ?_
        repeat (first | refine run ?_ | refine ct ?_ | refine cf ?_ | refine sk ?_ | refine la rfl ?_ | refine na fun _ _ _ => ?_ | refine sa rfl fun _ _ => ?_ | refine nk ?_ | refine mu ?_ | refine ac ?_ | refine ai ?_)
        refine Must.mk (ltN_t (by omega)) (ldA (i := k0 + x) hs1 (by omega) (by show k0 + x * 1 = 0 + (k0 + x) * 1; omega) ?_)
        repeat (first | refine run ?_ | refine ct ?_ | refine cf ?_ | refine sk ?_ | refine la rfl ?_ | refine na fun _ _ _ => ?_ | refine sa rfl fun _ _ => ?_ | refine nk ?_ | refine mu ?_ | refine ac ?_ | refine ai ?_)
        refine Must.mk (ltN_t (by omega)) ?_
        repeat (first | refine run ?_ | refine ct ?_ | refine cf ?_ | refine sk ?_ | refine la rfl ?_ | refine na fun _ _ _ => ?_ | refine sa rfl fun _ _ => ?_ | refine nk ?_ | refine mu ?_ | refine ac ?_ | refine ai ?_)
        refine st hs1 (by rw [lenA, off1]; omega) rfl fun _ hy => ?_
        rw [off1, setA, hI.rest (k0 + x) (by omega)] at hy
        repeat (first | refine run ?_ | refine ct ?_ | refine cf ?_ | refine sk ?_ | refine la rfl ?_ | refine na fun _ _ _ => ?_ | refine sa rfl fun _ _ => ?_ | refine nk ?_ | refine mu ?_ | refine ac ?_ | refine ai ?_)
        try rw [addInt]
        refine inR_nat (by omega) ?_
        repeat (first | refine run ?_ | refine ct ?_ | refine cf ?_ | refine sk ?_ | refine la rfl ?_ | refine na fun _ _ _ => ?_ | refine sa rfl fun _ _ => ?_ | refine nk ?_ | refine mu ?_ | refine ac ?_ | refine ai ?_)
        try rw [addInt]
        refine inR_nat (by omega) ?_
        repeat (first | refine run ?_ | refine ct ?_ | refine cf ?_ | refine sk ?_ | refine la rfl ?_ | refine na fun _ _ _ => ?_ | refine sa rfl fun _ _ => ?_ | refine nk ?_ | refine mu ?_ | refine ac ?_ | refine ai ?_)
        have hlt : d[k0 + x - 1]! < d[k0 + x]! := by
          have := hsd (k0 + x - 1) (k0 + x) (by omega) (by omega) (by omega)
          have := ltN_n this
          omega
        show ∃ y, _ ∧ _
        exact ⟨x + 1, by omega, a0, a4, rfl, by omega, _, m + 1, rfl, hI.diff (by omega) hlt, hy⟩
    · refine Cd.f (ltZ_f (by omega)) ?_
      show _ = _ ∧ _
      have e : k0 + x = n := by omega
      rw [e] at hI
      exact ⟨rfl, cur, m, hI, a0, a3, hs1⟩
  · obtain ⟨cur, m, h1, a0, a3, hs1⟩ := hP
    exact k σ1 H1 cur m h1 a0 a3 hs1
theorem compactU_ok (hc : Con con lives) {L R : List HP} {H : CH} {b n : Nat} {d : Array Nat} {K : KP} (hs : Sat L H) (hp : Pull L (RowA b tU 1 d) R) (hn : d.size = n) (hn2 : n ≤ 1000000) (hsd : Sort.SortedIn ltU 0 n d)
    (k : ∀ m c d' H1, Cpct d n d' m → Sat (RowA b tU 1 d' :: R) H1 → K (slc b 0 m c) H1) : Call1 Tryz.prog con 127 [slc b 0 n n] H K := by
  refine call_of (hc _ _ _ rfl) ?_
  rw [compactU_W]
  have hs0 := hs.pull hp
  clear hs hp
  repeat (first | refine run ?_ | refine ct ?_ | refine cf ?_ | refine sk ?_ | refine la rfl ?_ | refine na fun _ _ _ => ?_ | refine sa rfl fun _ _ => ?_ | refine nk ?_ | refine mu ?_ | refine ac ?_ | refine ai ?_)
  by_cases h2 : n < 2
  · refine Cd.t (ltZ_t h2) ?_
    exact k n n d _ ⟨hn, Nat.le_refl _, fun i hi => by omega, fun x => Iff.rfl⟩ hs0
  · refine Cd.f (ltZ_f (by omega)) ?_
    refine LoopC.indP (n := 200) (id := 0) (fun σ1 H1 => σ1 0 = slc b 0 n n ∧ Up d n ∧ Sat (RowA b tU 1 d :: R) H1) (by kernel_rfl)
      (fun (x : Nat) σ1 H1 => σ1 0 = slc b 0 n n ∧ σ1 3 = iN x ∧ 1 ≤ x ∧ x ≤ n ∧ Up d x ∧ Sat (RowA b tU 1 d :: R) H1)
      (fun x => n - x) (fun x σ1 H1 hI => ?_) (fun σ1 H1 hP => ?_) 1 _ _ ⟨rfl, rfl, Nat.le_refl _, by omega, fun i hi => by omega, hs0⟩
    · obtain ⟨a0, a3, hx1, hxn, hu, hs1⟩ := hI
      rw [compactL_W]
      simp only [a0, a3]
      repeat (first | refine run ?_ | refine ct ?_ | refine cf ?_ | refine sk ?_ | refine la rfl ?_ | refine na fun _ _ _ => ?_ | refine sa rfl fun _ _ => ?_ | refine nk ?_ | refine mu ?_ | refine ac ?_ | refine ai ?_)
      by_cases h : x < n
      · refine Cd.t (ltZ_t h) ?_
        repeat (first | refine run ?_ | refine ct ?_ | refine cf ?_ | refine sk ?_ | refine la rfl ?_ | refine na fun _ _ _ => ?_ | refine sa rfl fun _ _ => ?_ | refine nk ?_ | refine mu ?_ | refine ac ?_ | refine ai ?_)
        refine Must.mk (ltN_t (by omega)) (ldA hs1 (by omega) rfl ?_)
        repeat (first | refine run ?_ | refine ct ?_ | refine cf ?_ | refine sk ?_ | refine la rfl ?_ | refine na fun _ _ _ => ?_ | refine sa rfl fun _ _ => ?_ | refine nk ?_ | refine mu ?_ | refine ac ?_ | refine ai ?_)
        rw [subInt (by omega)]
        refine inR_nat (by omega) ?_
        repeat (first | refine run ?_ | refine ct ?_ | refine cf ?_ | refine sk ?_ | refine la rfl ?_ | refine na fun _ _ _ => ?_ | refine sa rfl fun _ _ => ?_ | refine nk ?_ | refine mu ?_ | refine ac ?_ | refine ai ?_)
        refine Must.mk (ltN_t (by omega)) (ldA hs1 (by omega) rfl ?_)
        repeat (first | refine run ?_ | refine ct ?_ | refine cf ?_ | refine sk ?_ | refine la rfl ?_ | refine na fun _ _ _ => ?_ | refine sa rfl fun _ _ => ?_ | refine nk ?_ | refine mu ?_ | refine ac ?_ | refine ai ?_)
        by_cases he : d[x]! = d[x - 1]!
        · rw [he, eqN_self]
          refine Cd.t rfl ?_
          refine slcLo hs1 el_u64 (n := n) (by rw [lenA]; omega) (by omega) ?_
          repeat (first | refine run ?_ | refine ct ?_ | refine cf ?_ | refine sk ?_ | refine la rfl ?_ | refine na fun _ _ _ => ?_ | refine sa rfl fun _ _ => ?_ | refine nk ?_ | refine mu ?_ | refine ac ?_ | refine ai ?_)
          refine compactM_ok hc hs1 hn2 hsd (CpI.start hn hx1 h hu he) a0 a3 (by show slc b (x * 1) (n - x) (n - x) = _; rw [Nat.mul_one]) rfl fun σ2 H2 cur m hI c0 c3 h2 => ?_
          show Cd _ _ _
          refine Cd.t rfl ?_
          have hsz := hI.sz
          have hmn := hI.kj
          simp only [c0, c3]
          refine slcLo h2 el_u64 (n := n) (by rw [lenA]; omega) (by omega) ?_
          rw [show m * (0 + 1) = m from Nat.mul_one m]
          refine Clr.mk' (e := tU) (by kernel_rfl) (by kernel_rfl) (z := u64 0) ?_
          refine stN h2 (by rw [lenA, List.length_replicate]; omega) (by simp [isCell]) fun H3 h3 => ?_
          obtain ⟨d2, q1, q2, q3⟩ := ovwA (n - m) m n cur hsz (by omega)
          rw [q3] at h3
          refine slcHi h3 el_u64 (n := n) (by rw [List.length_map, Array.length_toList]; omega) (by omega) ?_
          repeat (first | refine run ?_ | refine ct ?_ | refine cf ?_ | refine sk ?_ | refine la rfl ?_ | refine na fun _ _ _ => ?_ | refine sa rfl fun _ _ => ?_ | refine nk ?_ | refine mu ?_ | refine ac ?_ | refine ai ?_)
          exact k m n d2 _ (hI.fin q1 q2) h3
        · rw [eqN_f he]
          refine Cd.f rfl ?_
          repeat (first | refine run ?_ | refine ct ?_ | refine cf ?_ | refine sk ?_ | refine la rfl ?_ | refine na fun _ _ _ => ?_ | refine sa rfl fun _ _ => ?_ | refine nk ?_ | refine mu ?_ | refine ac ?_ | refine ai ?_)
          try rw [addInt]
          refine inR_nat (by omega) ?_
          repeat (first | refine run ?_ | refine ct ?_ | refine cf ?_ | refine sk ?_ | refine la rfl ?_ | refine na fun _ _ _ => ?_ | refine sa rfl fun _ _ => ?_ | refine nk ?_ | refine mu ?_ | refine ac ?_ | refine ai ?_)
          have hlt : d[x - 1]! < d[x]! := by
            have := hsd (x - 1) x (by omega) (by omega) (by omega)
            have := ltN_n this
            omega
          show ∃ y, _ ∧ _
          refine ⟨x + 1, by omega, a0, rfl, by omega, by omega, fun i hi => ?_, hs1⟩
          by_cases hi2 : i + 1 = x
          · have : i = x - 1 := by omega
            rw [hi2, this]; exact hlt
          · exact hu i (by omega)
      · refine Cd.f (ltZ_f (by omega)) ?_
        show _ = _ ∧ _
        have e : x = n := by omega
        rw [e] at hu
        exact ⟨rfl, a0, hu, hs1⟩
    · obtain ⟨a0, hu, hs1⟩ := hP
      show Cd _ _ _
      refine Cd.t rfl ?_
      rw [a0]
      exact k n n d _ ⟨hn, Nat.le_refl _, hu, fun x => Iff.rfl⟩ hs1
end Go.Proofs.YtipbbnoepphdkaaGreat

set_option linter.unusedVariables false
set_option linter.unusedSimpArgs false
namespace Go.Proofs.YtipbbnoepphdkaaGreat
open Go Go.CM
attribute [local irreducible] AsBool AsWant AsNat AsInt AsCnt AsPtr AsSlc AsLen AsStr AsAgg AsTup AsFn AsIfc Nth Sc NotNil IsNil Must Cd codeW funW Sat SatL wrapN subM mkRow ltZ leZ ltN leN
variable {con : CallT}
/-! ### the stamps below the floor, rising -/
def insU (x : Nat) : List Nat → List Nat
  | [] => [x]
  | y :: r => if x < y then x :: y :: r else if x = y then y :: r else y :: insU x r
def rise (l : List Nat) (b : Nat) : List Nat := l.foldr (fun x r => if x < b then insU x r else r) []
abbrev IncL (l : List Nat) : Prop := l.Pairwise (· < ·)
theorem insU_mem {x y : Nat} : ∀ {l : List Nat}, y ∈ insU x l ↔ y = x ∨ y ∈ l
  | [] => by simp [insU]
  | z :: r => by
    unfold insU
    split
    · simp
    · split
      · rename_i h; subst h; simp
      · rw [List.mem_cons, insU_mem, List.mem_cons]; constructor
        · rintro (h | h | h) <;> simp [h]
        · rintro (h | h | h) <;> simp [h]
theorem insU_inc {x : Nat} : ∀ {l : List Nat}, IncL l → IncL (insU x l)
  | [], _ => by simp [insU]
  | z :: r, h => by
    have h' := List.pairwise_cons.1 h
    unfold insU
    split
    · rename_i hx
      refine List.pairwise_cons.2 ⟨fun y hy => ?_, h⟩
      rcases List.mem_cons.1 hy with rfl | hy
      · exact hx
      · have := h'.1 y hy; omega
    · split
      · exact h
      · refine List.pairwise_cons.2 ⟨fun y hy => ?_, insU_inc h'.2⟩
        rcases insU_mem.1 hy with rfl | hy
        · omega
        · exact h'.1 y hy
theorem rise_inc (b : Nat) : ∀ l : List Nat, IncL (rise l b)
  | [] => List.Pairwise.nil
  | x :: l => by
    show IncL (if x < b then insU x (rise l b) else rise l b)
    split
    · exact insU_inc (rise_inc b l)
    · exact rise_inc b l
theorem rise_mem {b y : Nat} : ∀ {l : List Nat}, y ∈ rise l b ↔ y ∈ l ∧ y < b
  | [] => by simp [rise]
  | x :: l => by
    show y ∈ (if x < b then insU x (rise l b) else rise l b) ↔ _
    split
    · rename_i h
      rw [insU_mem, rise_mem, List.mem_cons]
      constructor
      · rintro (rfl | ⟨h1, h2⟩)
        · exact ⟨.inl rfl, h⟩
        · exact ⟨.inr h1, h2⟩
      · rintro ⟨rfl | h1, h2⟩
        · exact .inl rfl
        · exact .inr ⟨h1, h2⟩
    · rename_i h
      rw [rise_mem, List.mem_cons]
      constructor
      · rintro ⟨h1, h2⟩; exact ⟨.inr h1, h2⟩
      · rintro ⟨rfl | h1, h2⟩
        · exact absurd h2 h
        · exact ⟨h1, h2⟩
theorem inc_unique : ∀ {a b : List Nat}, IncL a → IncL b → (∀ x, x ∈ a ↔ x ∈ b) → a = b
  | [], [], _, _, _ => rfl
  | [], y :: b, _, _, h => absurd ((h y).2 (List.mem_cons_self ..)) (by simp)
  | x :: a, [], _, _, h => absurd ((h x).1 (List.mem_cons_self ..)) (by simp)
  | x :: a, y :: b, ha, hb, h => by
    have ha' := List.pairwise_cons.1 ha
    have hb' := List.pairwise_cons.1 hb
    have e : x = y := by
      have h1 := (h x).1 (List.mem_cons_self ..)
      have h2 := (h y).2 (List.mem_cons_self ..)
      rcases List.mem_cons.1 h1 with h1 | h1
      · exact h1
      · rcases List.mem_cons.1 h2 with h2 | h2
        · exact h2.symm
        · have := hb'.1 x h1; have := ha'.1 y h2; omega
    subst e
    refine congrArg _ (inc_unique ha'.2 hb'.2 fun z => ?_)
    constructor
    · intro hz
      have := ha'.1 z hz
      rcases List.mem_cons.1 ((h z).1 (List.mem_cons_of_mem _ hz)) with e | e
      · omega
      · exact e
    · intro hz
      have := hb'.1 z hz
      rcases List.mem_cons.1 ((h z).2 (List.mem_cons_of_mem _ hz)) with e | e
      · omega
      · exact e
abbrev rowsU (l : List Nat) : List (List Value) := l.map fun x => [u64 x]
theorem rowsU_flat : ∀ l : List Nat, (rowsU l).flatten = l.map u64
  | [] => rfl
  | x :: l => by show [u64 x] ++ (rowsU l).flatten = _; rw [rowsU_flat l]; rfl
/-! ### Sort and Compact of nothing -/
theorem sortU_nil (hc : Con con lives) {L : List HP} {H : CH} {K : KP} (hs : Sat L H) (k : ∀ H1, Sat L H1 → K unit H1) : Call1 Tryz.prog con 126 [snil] H K := by
  refine call_of (hc _ _ _ rfl) ?_
  rw [sortU_W]
  repeat (first | refine run ?_ | refine ct ?_ | refine cf ?_ | refine sk ?_ | refine la rfl ?_ | refine na fun _ _ _ => ?_ | refine sa rfl fun _ _ => ?_ | refine nk ?_ | refine mu ?_ | refine ac ?_ | refine ai ?_)
  rw [wrapN_small (by omega)]
  refine bitsLen_ok hc (n := 0) (by omega) fun c hc1 _ => ?_
  refine call_of (hc _ _ _ rfl) ?_
  rw [pdqSort_W]
  refine LoopC.indP (n := 200) (id := 0) (fun σ1 H1 => False) (by kernel_rfl)
    (fun (x : Nat) σ1 H1 => σ1 0 = snil ∧ σ1 1 = iN 0 ∧ σ1 2 = iN 0 ∧ Sat L H1)
    (fun x => x) (fun x σ1 H1 hI => ?_) (fun σ1 H1 hP => hP.elim) 0 _ _ ⟨rfl, rfl, rfl, hs⟩
  obtain ⟨e0, e1, e2, hs1⟩ := hI
  rw [codeW_blk (id := 1) (by kernel_rfl), codeW_cut 7, pdqA_W]
  simp only [e0, e1, e2]
  repeat (first | refine run ?_ | refine ct ?_ | refine cf ?_ | refine sk ?_ | refine la rfl ?_ | refine na fun _ _ _ => ?_ | refine sa rfl fun _ _ => ?_ | refine nk ?_ | refine mu ?_ | refine ac ?_ | refine ai ?_)
  rw [subInt (by omega)]
  refine inR_nat (by omega) ?_
  refine Cd.t (leZ_t (by omega)) ?_
  refine call_of (hc _ _ _ rfl) ?_
  rw [insSort_W]
  try rw [addInt]
  refine inR_nat (by omega) ?_
  repeat (first | refine run ?_ | refine ct ?_ | refine cf ?_ | refine sk ?_ | refine la rfl ?_ | refine na fun _ _ _ => ?_ | refine sa rfl fun _ _ => ?_ | refine nk ?_ | refine mu ?_ | refine ac ?_ | refine ai ?_)
  refine LoopC.indP (n := 200) (id := 0) (fun σ1 H1 => Sat L H1) (by kernel_rfl)
    (fun (x : Nat) σ1 H1 => σ1 2 = iN 0 ∧ σ1 6 = iN 1 ∧ Sat L H1)
    (fun x => x) (fun x σ1 H1 hI => ?_) (fun σ1 H1 hP => ?_) 0 _ _ ⟨rfl, rfl, hs1⟩
  · obtain ⟨c2, c6, hs2⟩ := hI
    rw [insSortA_W]
    simp only [c2, c6]
    repeat (first | refine run ?_ | refine ct ?_ | refine cf ?_ | refine sk ?_ | refine la rfl ?_ | refine na fun _ _ _ => ?_ | refine sa rfl fun _ _ => ?_ | refine nk ?_ | refine mu ?_ | refine ac ?_ | refine ai ?_)
    show _ = _ ∧ _
    exact ⟨rfl, hs2⟩
  · show Cd _ _ _
    refine Cd.t rfl ?_
    exact k _ hP
theorem compactU_nil (hc : Con con lives) {H : CH} {K : KP} (k : K snil H) : Call1 Tryz.prog con 127 [snil] H K := by
  refine call_of (hc _ _ _ rfl) ?_
  rw [compactU_W]
  repeat (first | refine run ?_ | refine ct ?_ | refine cf ?_ | refine sk ?_ | refine la rfl ?_ | refine na fun _ _ _ => ?_ | refine sa rfl fun _ _ => ?_ | refine nk ?_ | refine mu ?_ | refine ac ?_ | refine ai ?_)
  exact k
/-! ### the program's scan -/
structure ScanS where
  sl : SlotsS
  at_ : Nat
  i : Nat
  fl : Nat
  told : List Nat
  need : List Nat
def ScanS.fin (s : ScanS) : ScanS := if s.i < cnt s.sl.count then { s with at_ := 1 } else { s with at_ := 2, need := rise s.told s.fl }
def ScanS.step (s : ScanS) (M : Mem) (th : Int) : ScanS × Mem :=
  match s.at_ with
  | 0 => (ScanS.fin { s with fl := M.peek s.sl.cam }, M.load th s.sl.cam)
  | _ => (ScanS.fin ⟨s.sl, s.at_, s.i + 1, if kindW (M.peek (addM s.sl.first s.i)) = 2 then Nat.min s.fl (stampW (M.peek (addM s.sl.first s.i))) else s.fl, if kindW (M.peek (addM s.sl.first s.i)) = 3 then s.told ++ [stampW (M.peek (addM s.sl.first s.i))] else s.told, s.need⟩, M.load th (addM s.sl.first s.i))
def scanC (s : SlotsS) (st : Bool) (i fl : Nat) (w v : Value) (dn : Bool) : List Value := [u64 s.cam, u64 s.first, i64 s.count, u64 s.most, .bool st, iN i, u64 fl, w, v, .bool dn]
theorem up_lt {d : Array Nat} {m : Nat} (h : Up d m) : ∀ (k i : Nat), i + k + 1 < m → d[i]! < d[i + k + 1]!
  | 0, i, hk => h i hk
  | k + 1, i, hk => Nat.lt_trans (up_lt h k i (by omega)) (h (i + k + 1) (by omega))
theorem mem_take {d : Array Nat} {m x : Nat} (hm : m ≤ d.size) : x ∈ d.toList.take m ↔ upTo d m x := by
  rw [List.mem_iff_getElem]
  constructor
  · rintro ⟨i, hi, e⟩
    rw [List.length_take] at hi
    rw [List.getElem_take, Array.getElem_toList] at e
    exact ⟨i, by omega, by rw [getElem!_pos d i (by omega)]; exact e⟩
  · rintro ⟨i, hi, e⟩
    refine ⟨i, by rw [List.length_take, Array.length_toList]; omega, ?_⟩
    rw [List.getElem_take, Array.getElem_toList, ← e, getElem!_pos d i (by omega)]
theorem filt_inc {d d' : Array Nat} {n m fl : Nat} {told : List Nat} (ht : told.Perm d'.toList) (h : Cpct d' n d m) (hn : d'.size = n) : (d.toList.take m).filter (fun x => ltN x fl) = rise told fl := by
  obtain ⟨h1, h2, h3, h4⟩ := h
  refine inc_unique (List.Pairwise.filter _ ?_) (rise_inc _ _) fun x => ?_
  · rw [List.pairwise_iff_getElem]
    intro i j hi hj hij
    rw [List.length_take] at hi hj
    rw [List.getElem_take, List.getElem_take, Array.getElem_toList, Array.getElem_toList, ← getElem!_pos d i (by omega), ← getElem!_pos d j (by omega)]
    have := up_lt h3 (j - i - 1) i (by omega)
    rwa [show i + (j - i - 1) + 1 = j by omega] at this
  · rw [List.mem_filter, rise_mem, mem_take (by omega), h4, ← mem_take (by omega), ht.mem_iff, show d'.toList.take n = d'.toList from List.take_of_length_le (by rw [Array.length_toList]; omega)]
    refine and_congr Iff.rfl ?_
    by_cases hx : x < fl
    · simp [ltN_t hx, hx]
    · simp [ltN_f (show fl ≤ x by omega), hx]
theorem scanLoop_ok (hc : Con con lives) {R : List HP} {H : CH} {p b m c fl i : Nat} {sl : SlotsS} {v : Value} {d : Array Nat} {σ : TF} {Q : KX} (hs : Sat (Own p (scanC sl true i fl snil v true) :: RowA b tU 1 d :: R) H) (hm : m ≤ d.size) (hd : d.size ≤ 100000)
    (e0 : σ 0 = ptr p 0) (e1 : σ 105 = slc b 0 m c) (e2 : σ 106 = iN m) (e3 : σ 107 = iN 0)
    (k : ∀ σ1 H1 w, Sat (Own p (scanC sl true i fl w v true) :: Vec w tU 1 (rowsU ((d.toList.take m).filter fun x => ltN x fl)) :: RowA b tU 1 d :: R) H1 → Q (.exit 1) σ1 H1) :
    LoopC Tryz.prog con (lpAt Tryz.prog 70 0) σ H Q := by
  refine LoopC.indP (n := 200) (id := 1) (fun σ1 H1 => ∃ w, Sat (Own p (scanC sl true i fl w v true) :: Vec w tU 1 (rowsU ((d.toList.take m).filter fun x => ltN x fl)) :: RowA b tU 1 d :: R) H1) (by kernel_rfl)
    (fun (x : Nat) σ1 H1 => x ≤ m ∧ σ1 0 = ptr p 0 ∧ σ1 105 = slc b 0 m c ∧ σ1 106 = iN m ∧ σ1 107 = iN x ∧ ∃ w, Sat (Own p (scanC sl true i fl w v true) :: Vec w tU 1 (rowsU ((d.toList.take x).filter fun x => ltN x fl)) :: RowA b tU 1 d :: R) H1)
    (fun x => m - x) (fun x σ1 H1 hI => ?_) (fun σ1 H1 hP => ?_) 0 _ _ ⟨Nat.zero_le _, e0, e1, e2, e3, snil, (hs.nilV (e := tU) (s := 1)).ent (by repeat (first | exact eN _ | exact eZ | apply eC (by repeat (first | exact pH | apply pT)) | refine eD ?_))⟩
  · obtain ⟨hxm, a0, a5, a6, a7, w, hs1⟩ := hI
    rw [scanStepL_W]
    simp only [a0, a5, a6, a7]
    repeat (first | refine run ?_ | refine ct ?_ | refine cf ?_ | refine sk ?_ | refine la rfl ?_ | refine na fun _ _ _ => ?_ | refine sa rfl fun _ _ => ?_ | refine nk ?_ | refine mu ?_ | refine ac ?_ | refine ai ?_)
    by_cases h : x < m
    · have ht : d.toList.take (x + 1) = d.toList.take x ++ [d[x]!] := by
        rw [List.take_add_one, Array.getElem?_toList, Array.getElem?_eq_getElem (by omega), getElem!_pos d x (by omega)]; rfl
      refine Cd.t (ltZ_t h) ?_
      repeat (first | refine run ?_ | refine ct ?_ | refine cf ?_ | refine sk ?_ | refine la rfl ?_ | refine na fun _ _ _ => ?_ | refine sa rfl fun _ _ => ?_ | refine nk ?_ | refine mu ?_ | refine ac ?_ | refine ai ?_)
      refine Must.mk (ltN_t h) (ldA hs1 (by omega) rfl ?_)
      repeat (first | refine run ?_ | refine ct ?_ | refine cf ?_ | refine sk ?_ | refine la rfl ?_ | refine na fun _ _ _ => ?_ | refine sa rfl fun _ _ => ?_ | refine nk ?_ | refine mu ?_ | refine ac ?_ | refine ai ?_)
      by_cases hl : d[x]! < fl
      · refine Cd.t (ltN_t hl) ?_
        repeat (first | refine run ?_ | refine ct ?_ | refine cf ?_ | refine sk ?_ | refine la rfl ?_ | refine na fun _ _ _ => ?_ | refine sa rfl fun _ _ => ?_ | refine nk ?_ | refine mu ?_ | refine ac ?_ | refine ai ?_)
        rename_i H2 h2
        refine app_vec (new := [[u64 d[x]!]]) h2 (by repeat (first | exact pH | apply pT)) el_u64 (by omega) sl_u64 (Src.cell (n := 1) (by rfl)) rfl (by simp) ?_ rfl fun w' H3 h3 => ?_
        · have := List.length_filter_le (fun x => ltN x fl) (d.toList.take x)
          simp only [List.length_map]
          rw [List.length_take] at this
          omega
        have e3 : rowsU ((d.toList.take (x + 1)).filter fun x => ltN x fl) = rowsU ((d.toList.take x).filter fun x => ltN x fl) ++ [[u64 d[x]!]] := by
          rw [ht, List.filter_append, show [d[x]!].filter (fun x => ltN x fl) = [d[x]!] from by simp [ltN_t hl]]
          exact List.map_append
        rw [← e3] at h3
        clear h2
        obtain ⟨pw, ew⟩ := (h3.has Has.vec).shape
        subst ew
        repeat (first | refine run ?_ | refine ct ?_ | refine cf ?_ | refine sk ?_ | refine la rfl ?_ | refine na fun _ _ _ => ?_ | refine sa rfl fun _ _ => ?_ | refine nk ?_ | refine mu ?_ | refine ac ?_ | refine ai ?_)
        try rw [addInt]
        refine inR_nat (by omega) ?_
        repeat (first | refine run ?_ | refine ct ?_ | refine cf ?_ | refine sk ?_ | refine la rfl ?_ | refine na fun _ _ _ => ?_ | refine sa rfl fun _ _ => ?_ | refine nk ?_ | refine mu ?_ | refine ac ?_ | refine ai ?_)
        show ∃ y, _ ∧ _
        exact ⟨x + 1, by omega, by omega, a0, a5, a6, rfl, _, Sat.ent (by assumption) (by repeat (first | exact eN _ | exact eZ | apply eC (by repeat (first | exact pH | apply pT)) | refine eD ?_))⟩
      · refine Cd.f (ltN_f (by omega)) ?_
        repeat (first | refine run ?_ | refine ct ?_ | refine cf ?_ | refine sk ?_ | refine la rfl ?_ | refine na fun _ _ _ => ?_ | refine sa rfl fun _ _ => ?_ | refine nk ?_ | refine mu ?_ | refine ac ?_ | refine ai ?_)
        try rw [addInt]
        refine inR_nat (by omega) ?_
        repeat (first | refine run ?_ | refine ct ?_ | refine cf ?_ | refine sk ?_ | refine la rfl ?_ | refine na fun _ _ _ => ?_ | refine sa rfl fun _ _ => ?_ | refine nk ?_ | refine mu ?_ | refine ac ?_ | refine ai ?_)
        show ∃ y, _ ∧ _
        refine ⟨x + 1, by omega, by omega, a0, a5, a6, rfl, w, ?_⟩
        rw [ht, List.filter_append, show [d[x]!].filter (fun x => ltN x fl) = [] from by simp [ltN_f (show fl ≤ d[x]! by omega)], List.append_nil]
        exact hs1
    · refine Cd.f (ltZ_f (by omega)) ?_
      show _ = _ ∧ _
      obtain rfl : x = m := by omega
      exact ⟨rfl, w, hs1⟩
  · obtain ⟨w, hs1⟩ := hP
    exact k σ1 H1 w hs1
end Go.Proofs.YtipbbnoepphdkaaGreat

set_option linter.unusedVariables false
set_option linter.unusedSimpArgs false
namespace Go.Proofs.YtipbbnoepphdkaaGreat
open Go Go.CM
attribute [local irreducible] AsBool AsWant AsNat AsInt AsCnt AsPtr AsSlc AsLen AsStr AsAgg AsTup AsFn AsIfc Nth Sc NotNil IsNil Must Cd codeW funW Sat SatL wrapN subM mkRow ltZ leZ ltN leN
variable {con : CallT}
/-- What was told, till the scan is done. -/
def TV (a : Nat) (told : List Nat) (v : Value) : HP := fun h => a = 2 ∨ Vec v tU 1 (rowsU told) h
theorem scanEnd_ok (hc : Con con lives) {R : List HP} {H : CH} {p i fl : Nat} {sl : SlotsS} {v : Value} {told : List Nat} {F : Value → Value → Value → Value → Nat → TF} {Q : KX} (hs : Sat (Own p (scanC sl true i fl snil v false) :: Vec v tU 1 (rowsU told) :: R) H) (ht : told.length ≤ 256)
    (f0 : ∀ a b c d e, F a b c d e 0 = ptr p 0) (f1 : ∀ a b c d e, F a b c d e 105 = d) (f2 : ∀ a b c d e, F a b c d e 106 = iN e) (f3 : ∀ a b c d e, F a b c d e 107 = iN 0)
    (k : ∀ σ1 H1 w, Sat (Own p (scanC sl true i fl w v true) :: Vec w tU 1 (rowsU (rise told fl)) :: TV 2 told v :: R) H1 → Q (.exit 1) σ1 H1) :
    St H p 9 [.bool true] fun H21 => Ld H21 p 8 fun v22 => Call1 Tryz.prog con 126 [v22] H21 fun v23 H24 => Ld H24 p 8 fun v25 => Call1 Tryz.prog con 127 [v25] H24 fun v26 H27 => AsLen v26 fun l28 => LoopC Tryz.prog con (lpAt Tryz.prog 70 0) (F v22 v23 v25 v26 l28) H27 Q := by
  repeat (first | refine run ?_ | refine ct ?_ | refine cf ?_ | refine sk ?_ | refine la rfl ?_ | refine na fun _ _ _ => ?_ | refine sa rfl fun _ _ => ?_ | refine nk ?_ | refine mu ?_ | refine ac ?_ | refine ai ?_)
  rename_i H21 h21
  replace h21 : Sat (Own p (scanC sl true i fl snil v true) :: Vec v tU 1 (rowsU told) :: R) H21 := h21
  clear hs
  rcases told with _ | ⟨x, told⟩
  · have hv := (h21.has (Has.skip Has.vec)).2
    rcases hv with ⟨rfl, _⟩ | ⟨b, hb, _⟩
    · refine sortU_nil hc h21 fun H24 h24 => ?_
      repeat (first | refine run ?_ | refine ct ?_ | refine cf ?_ | refine sk ?_ | refine la rfl ?_ | refine na fun _ _ _ => ?_ | refine sa rfl fun _ _ => ?_ | refine nk ?_ | refine mu ?_ | refine ac ?_ | refine ai ?_)
      refine compactU_nil hc ?_
      repeat (first | refine run ?_ | refine ct ?_ | refine cf ?_ | refine sk ?_ | refine la rfl ?_ | refine na fun _ _ _ => ?_ | refine sa rfl fun _ _ => ?_ | refine nk ?_ | refine mu ?_ | refine ac ?_ | refine ai ?_)
      refine LoopC.indP (n := 200) (id := 1) (fun σ1 H1 => H1 = H24) (by kernel_rfl)
        (fun (x : Nat) σ1 H1 => σ1 106 = iN 0 ∧ σ1 107 = iN 0 ∧ H1 = H24)
        (fun x => x) (fun x σ1 H1 hI => ?_) (fun σ1 H1 hP => ?_) 0 _ _ ⟨f2 .., f3 .., rfl⟩
      · obtain ⟨c2, c6, rfl⟩ := hI
        rw [scanStepL_W]
        simp only [c2, c6]
        repeat (first | refine run ?_ | refine ct ?_ | refine cf ?_ | refine sk ?_ | refine la rfl ?_ | refine na fun _ _ _ => ?_ | refine sa rfl fun _ _ => ?_ | refine nk ?_ | refine mu ?_ | refine ac ?_ | refine ai ?_)
        show _ = _ ∧ _
        exact ⟨rfl, rfl⟩
      · obtain rfl := hP
        refine k _ _ snil ?_
        have h4 : Sat (Vec snil tU 1 (rowsU []) :: Own p (scanC sl true i fl snil snil true) :: R) H1 := h24.ent (by repeat (first | exact eN _ | exact eZ | apply eC (by repeat (first | exact pH | apply pT)) | refine eD ?_))
        have h5 : Sat (TV 2 [] snil :: Own p (scanC sl true i fl snil snil true) :: R) H1 := h4.imp fun g a => .inl rfl
        exact (h5.nilV (e := tU) (s := 1)).ent (by repeat (first | exact eN _ | exact eZ | apply eC (by repeat (first | exact pH | apply pT)) | refine eD ?_))
    · exact absurd rfl hb
  · have h4 : Sat (Vec v tU 1 (rowsU (x :: told)) :: Own p (scanC sl true i fl snil v true) :: R) H21 := h21.ent (by repeat (first | exact eN _ | exact eZ | apply eC (by repeat (first | exact pH | apply pT)) | refine eD ?_))
    obtain ⟨b, ev, _⟩ := (h4.has Has.vec).slot (i := 0) (row := [u64 x]) rfl
    rw [show (rowsU (x :: told)).length = told.length + 1 from by simp] at ev
    subst ev
    generalize hd : (x :: told).toArray = d
    have hl : d.toList = x :: told := by rw [← hd]
    have hn : d.size = told.length + 1 := by rw [← Array.length_toList, hl]; rfl
    have h5 : Sat (RowA b tU 1 d :: Own p (scanC sl true i fl snil (slc b 0 (told.length + 1) (told.length + 1)) true) :: R) H21 := h4.imp fun g a => by
      rcases a.2 with ⟨h, _⟩ | ⟨b', _, e, h⟩
      · cases h
      · injection e with e1 _ _
        injection e1 with e4
        injection e4 with e5 _ _
        subst e5
        rw [rowsU_flat, ← hl] at h
        exact h
    clear h21 h4
    simp only [List.length_cons] at ht
    refine sortU_ok hc h5 (by repeat (first | exact pH | apply pT)) hn (by omega) fun d' H24 p1 s1 h24 => ?_
    repeat (first | refine run ?_ | refine ct ?_ | refine cf ?_ | refine sk ?_ | refine la rfl ?_ | refine na fun _ _ _ => ?_ | refine sa rfl fun _ _ => ?_ | refine nk ?_ | refine mu ?_ | refine ac ?_ | refine ai ?_)
    have hn' : d'.size = told.length + 1 := by rw [p1.1]; exact hn
    refine compactU_ok hc h24 (by repeat (first | exact pH | apply pT)) hn' (by omega) s1 fun m c d2 H27 hC h27 => ?_
    repeat (first | refine run ?_ | refine ct ?_ | refine cf ?_ | refine sk ?_ | refine la rfl ?_ | refine na fun _ _ _ => ?_ | refine sa rfl fun _ _ => ?_ | refine nk ?_ | refine mu ?_ | refine ac ?_ | refine ai ?_)
    have hp : (x :: told).Perm d'.toList := by
      have := p1.2.2
      rw [show d'.extract 0 (told.length + 1) = d' from by rw [← hn']; simp, show d.extract 0 (told.length + 1) = d from by rw [← hn]; simp, hl] at this
      exact this.symm
    have h8 : Sat (Own p (scanC sl true i fl snil (slc b 0 (told.length + 1) (told.length + 1)) true) :: RowA b tU 1 d2 :: R) H27 := h27.ent (by repeat (first | exact eN _ | exact eZ | apply eC (by repeat (first | exact pH | apply pT)) | refine eD ?_))
    refine scanLoop_ok hc h8 (by have := hC.2.1; have := hC.1; omega) (by have := hC.1; omega) (f0 ..) (f1 ..) (f2 ..) (f3 ..) fun σ1 H1 w h1 => ?_
    rw [filt_inc hp hC hn'] at h1
    refine k σ1 H1 w ?_
    have h9 : Sat (RowA b tU 1 d2 :: Own p (scanC sl true i fl w (slc b 0 (told.length + 1) (told.length + 1)) true) :: Vec w tU 1 (rowsU (rise (x :: told) fl)) :: R) H1 := h1.ent (by repeat (first | exact eN _ | exact eZ | apply eC (by repeat (first | exact pH | apply pT)) | refine eD ?_))
    have h10 : Sat (TV 2 (x :: told) (slc b 0 (told.length + 1) (told.length + 1)) :: Own p (scanC sl true i fl w (slc b 0 (told.length + 1) (told.length + 1)) true) :: Vec w tU 1 (rowsU (rise (x :: told) fl)) :: R) H1 := h9.imp fun g a => .inl rfl
    exact h10.ent (by repeat (first | exact eN _ | exact eZ | apply eC (by repeat (first | exact pH | apply pT)) | refine eD ?_))
end Go.Proofs.YtipbbnoepphdkaaGreat

set_option linter.unusedVariables false
set_option linter.unusedSimpArgs false
namespace Go.Proofs.YtipbbnoepphdkaaGreat
open Go Go.CM
attribute [local irreducible] AsBool AsWant AsNat AsInt AsCnt AsPtr AsSlc AsLen AsStr AsAgg AsTup AsFn AsIfc Nth Sc NotNil IsNil Must Cd codeW funW Sat SatL wrapN subM mkRow ltZ leZ ltN leN
variable {con : CallT}
theorem scanStep_ok (hc : Con con lives) (s : ScanS) {v : Value} {L R1 R2 R3 R4 : List HP} {H : CH} {p q m n : Nat} {th : Int} {M : Mem} {K : KP} (hs : Sat L H) (hm : Pull L (MemP m M) R1) (hv : Pull R1 (ViewAt q m th n) R2) (hp : Pull R2 (Own p (scanC s.sl (decide (s.at_ = 1)) s.i s.fl snil v false)) R3) (hq : Pull R3 (Vec v tU 1 (rowsU s.told)) R4)
    (hn : n < 1000000000) (ht : M.tr.length < 1000000000) (hb : M.Bd) (hat : s.at_ < 2) (hi : s.i ≤ 256) (hi1 : s.at_ = 1 → s.i < 256) (htl : s.told.length ≤ s.i) (hne : s.need = [])
    (k : ∀ w v' n' H1, n' ≤ n + 1 → Sat (Vec w tU 1 (rowsU (s.step M th).1.need) :: TV (s.step M th).1.at_ (s.step M th).1.told v' :: Own p (scanC (s.step M th).1.sl true (s.step M th).1.i (s.step M th).1.fl w v' (decide ((s.step M th).1.at_ = 2))) :: MemP m (s.step M th).2 :: ViewAt q m th n' :: R4) H1 → K (.bool (decide ((s.step M th).1.at_ = 2))) H1) :
    Call1 Tryz.prog con 70 [ptr p 0, ptr q 0] H K := by
  refine call_of (hc _ _ _ rfl) ?_
  rw [scanStep_W]
  have hs0 := hs.takes (.cons hm (.cons hv (.cons hp (.cons hq .nil))))
  simp only [List.cons_append, List.nil_append] at hs0
  clear hs hm hv hp hq
  obtain ⟨sl, at_, i, fl, told, need⟩ := s
  dsimp only at hs0 hat hi hi1 htl hne
  subst hne
  rcases (by omega : at_ = 0 ∨ at_ = 1) with rfl | rfl
  · simp only [ScanS.step, ScanS.fin] at k
    repeat (first | refine run ?_ | refine ct ?_ | refine cf ?_ | refine sk ?_ | refine la rfl ?_ | refine na fun _ _ _ => ?_ | refine sa rfl fun _ _ => ?_ | refine nk ?_ | refine mu ?_ | refine ac ?_ | refine ai ?_)
    rename_i H5 h5
    refine viewLoad_ok hc h5 (by repeat (first | exact pH | apply pT)) (by repeat (first | exact pH | apply pT)) hn ht fun H8 h8 => ?_
    generalize M.peek sl.cam = fl' at *
    repeat (first | refine run ?_ | refine ct ?_ | refine cf ?_ | refine sk ?_ | refine la rfl ?_ | refine na fun _ _ _ => ?_ | refine sa rfl fun _ _ => ?_ | refine nk ?_ | refine mu ?_ | refine ac ?_ | refine ai ?_)
    rename_i H9 h9
    refine annCount_ok hc sl h9 fun H16 h16 => ?_
    repeat (first | refine run ?_ | refine ct ?_ | refine cf ?_ | refine sk ?_ | refine la rfl ?_ | refine na fun _ _ _ => ?_ | refine sa rfl fun _ _ => ?_ | refine nk ?_ | refine mu ?_ | refine ac ?_ | refine ai ?_)
    by_cases hlt : i < cnt sl.count
    · simp only [if_pos hlt] at k
      refine Cd.t (ltZ_t hlt) ?_
      refine k snil v (n + 1) _ (by omega) ?_
      have h17 : Sat (Vec v tU 1 (rowsU told) :: _) H16 := h16.pull (by repeat (first | exact pH | apply pT))
      have h18 : Sat (TV 1 told v :: _) H16 := h17.imp fun g a => .inr a
      exact (h18.nilV (e := tU) (s := 1)).ent (by repeat (first | exact eN _ | exact eZ | apply eC (by repeat (first | exact pH | apply pT)) | refine eD ?_))
    · simp only [if_neg hlt] at k
      refine Cd.f (ltZ_f (by omega)) ?_
      refine scanEnd_ok (p := p) (i := i) (fl := fl') (sl := sl) (v := v) (told := told) (F := fun a b c d e => _) hc (h16.ent (by repeat (first | exact eN _ | exact eZ | apply eC (by repeat (first | exact pH | apply pT)) | refine eD ?_))) (by omega) (fun _ _ _ _ _ => rfl) (fun _ _ _ _ _ => rfl) (fun _ _ _ _ _ => rfl) (fun _ _ _ _ _ => rfl) fun σ1 H1 w h1 => ?_
      show Cd _ _ _
      refine Cd.t rfl ?_
      exact k w v (n + 1) _ (by omega) (h1.ent (by repeat (first | exact eN _ | exact eZ | apply eC (by repeat (first | exact pH | apply pT)) | refine eD ?_)))
  · simp only [ScanS.step, ScanS.fin] at k
    have hi1 := hi1 rfl
    rw [show decide (1 = 1) = true from rfl] at hs0
    repeat (first | refine run ?_ | refine ct ?_ | refine cf ?_ | refine sk ?_ | refine la rfl ?_ | refine na fun _ _ _ => ?_ | refine sa rfl fun _ _ => ?_ | refine nk ?_ | refine mu ?_ | refine ac ?_ | refine ai ?_)
    rename_i H33 h33
    refine annCell_ok hc sl h33 (by omega) fun H40 h40 => ?_
    generalize addM sl.first i = cl at *
    repeat (first | refine run ?_ | refine ct ?_ | refine cf ?_ | refine sk ?_ | refine la rfl ?_ | refine na fun _ _ _ => ?_ | refine sa rfl fun _ _ => ?_ | refine nk ?_ | refine mu ?_ | refine ac ?_ | refine ai ?_)
    have hbp := hb.peek cl
    refine viewLoad_ok hc h40 (by repeat (first | exact pH | apply pT)) (by repeat (first | exact pH | apply pT)) hn ht fun H42 h42 => ?_
    generalize M.peek cl = x at *
    repeat (first | refine run ?_ | refine ct ?_ | refine cf ?_ | refine sk ?_ | refine la rfl ?_ | refine na fun _ _ _ => ?_ | refine sa rfl fun _ _ => ?_ | refine nk ?_ | refine mu ?_ | refine ac ?_ | refine ai ?_)
    refine wordUnpack_ok hc h42 hbp fun H44 h44 => ?_
    repeat (first | refine run ?_ | refine ct ?_ | refine cf ?_ | refine sk ?_ | refine la rfl ?_ | refine na fun _ _ _ => ?_ | refine sa rfl fun _ _ => ?_ | refine nk ?_ | refine mu ?_ | refine ac ?_ | refine ai ?_)
    refine stN (by assumption) (Nat.le_of_ble_eq_true rfl) rfl fun H49 h49 => ?_
    repeat (first | refine run ?_ | refine ct ?_ | refine cf ?_ | refine sk ?_ | refine la rfl ?_ | refine na fun _ _ _ => ?_ | refine sa rfl fun _ _ => ?_ | refine nk ?_ | refine mu ?_ | refine ac ?_ | refine ai ?_)
    by_cases h2 : kindW x = 2
    · simp only [if_pos h2, if_neg (show ¬ kindW x = 3 by omega)] at k
      refine Cd.t (eqN_t h2) ?_
      repeat (first | refine run ?_ | refine ct ?_ | refine cf ?_ | refine sk ?_ | refine la rfl ?_ | refine na fun _ _ _ => ?_ | refine sa rfl fun _ _ => ?_ | refine nk ?_ | refine mu ?_ | refine ac ?_ | refine ai ?_)
      try rw [addInt]
      refine inR_nat (by omega) ?_
      repeat (first | refine run ?_ | refine ct ?_ | refine cf ?_ | refine sk ?_ | refine la rfl ?_ | refine na fun _ _ _ => ?_ | refine sa rfl fun _ _ => ?_ | refine nk ?_ | refine mu ?_ | refine ac ?_ | refine ai ?_)
      rename_i H59 h59
      refine annCount_ok hc sl h59 fun H16 h16 => ?_
      repeat (first | refine run ?_ | refine ct ?_ | refine cf ?_ | refine sk ?_ | refine la rfl ?_ | refine na fun _ _ _ => ?_ | refine sa rfl fun _ _ => ?_ | refine nk ?_ | refine mu ?_ | refine ac ?_ | refine ai ?_)
      by_cases hlt : (i + 1) < cnt sl.count
      · simp only [if_pos hlt] at k
        refine Cd.t (ltZ_t hlt) ?_
        refine k snil v (n + 1) _ (by omega) ?_
        have h17 : Sat (Vec v tU 1 (rowsU told) :: _) H16 := h16.pull (by repeat (first | exact pH | apply pT))
        have h18 : Sat (TV 1 told v :: _) H16 := h17.imp fun g a => .inr a
        exact (h18.nilV (e := tU) (s := 1)).ent (by repeat (first | exact eN _ | exact eZ | apply eC (by repeat (first | exact pH | apply pT)) | refine eD ?_))
      · simp only [if_neg hlt] at k
        refine Cd.f (ltZ_f (by omega)) ?_
        refine scanEnd_ok (p := p) (i := (i + 1)) (fl := (Nat.min fl (stampW x))) (sl := sl) (v := v) (told := told) (F := fun a b c d e => _) hc (h16.ent (by repeat (first | exact eN _ | exact eZ | apply eC (by repeat (first | exact pH | apply pT)) | refine eD ?_))) (by omega) (fun _ _ _ _ _ => rfl) (fun _ _ _ _ _ => rfl) (fun _ _ _ _ _ => rfl) (fun _ _ _ _ _ => rfl) fun σ1 H1 w h1 => ?_
        show Cd _ _ _
        refine Cd.t rfl ?_
        exact k w v (n + 1) _ (by omega) (h1.ent (by repeat (first | exact eN _ | exact eZ | apply eC (by repeat (first | exact pH | apply pT)) | refine eD ?_)))
    · simp only [if_neg h2] at k
      refine Cd.f (eqN_f h2) ?_
      repeat (first | refine run ?_ | refine ct ?_ | refine cf ?_ | refine sk ?_ | refine la rfl ?_ | refine na fun _ _ _ => ?_ | refine sa rfl fun _ _ => ?_ | refine nk ?_ | refine mu ?_ | refine ac ?_ | refine ai ?_)
      by_cases h3 : kindW x = 3
      · simp only [if_pos h3] at k
        refine Cd.t (eqN_t h3) ?_
        repeat (first | refine run ?_ | refine ct ?_ | refine cf ?_ | refine sk ?_ | refine la rfl ?_ | refine na fun _ _ _ => ?_ | refine sa rfl fun _ _ => ?_ | refine nk ?_ | refine mu ?_ | refine ac ?_ | refine ai ?_)
        rename_i H86 h86
        have hvv : Sat (Vec v tU 1 (rowsU told) :: _) H86 := h86.pull (by repeat (first | exact pH | apply pT))
        obtain ⟨pv, ev⟩ := (hvv.has Has.vec).shape
        clear hvv
        subst ev
        refine app_vec (new := [[u64 (stampW x)]]) h86 (by repeat (first | exact pH | apply pT)) el_u64 (by omega) sl_u64 (Src.cell (n := 1) (by rfl)) rfl (by simp) (by simp; omega) rfl fun v' H3 h3' => ?_
        rw [show rowsU told ++ [[u64 (stampW x)]] = rowsU (told ++ [stampW x]) from by simp] at h3'
        obtain ⟨pw, ew⟩ := (h3'.has Has.vec).shape
        subst ew
        repeat (first | refine run ?_ | refine ct ?_ | refine cf ?_ | refine sk ?_ | refine la rfl ?_ | refine na fun _ _ _ => ?_ | refine sa rfl fun _ _ => ?_ | refine nk ?_ | refine mu ?_ | refine ac ?_ | refine ai ?_)
        try rw [addInt]
        refine inR_nat (by omega) ?_
        repeat (first | refine run ?_ | refine ct ?_ | refine cf ?_ | refine sk ?_ | refine la rfl ?_ | refine na fun _ _ _ => ?_ | refine sa rfl fun _ _ => ?_ | refine nk ?_ | refine mu ?_ | refine ac ?_ | refine ai ?_)
        rename_i H94 h94
        generalize hv' : Value.slice pw _ _ = v' at *
        have hle : (told ++ [stampW x]).length ≤ 256 := by rw [List.length_append]; simp only [List.length_cons, List.length_nil]; omega
        refine annCount_ok hc sl h94 fun H16 h16 => ?_
        repeat (first | refine run ?_ | refine ct ?_ | refine cf ?_ | refine sk ?_ | refine la rfl ?_ | refine na fun _ _ _ => ?_ | refine sa rfl fun _ _ => ?_ | refine nk ?_ | refine mu ?_ | refine ac ?_ | refine ai ?_)
        by_cases hlt : (i + 1) < cnt sl.count
        · simp only [if_pos hlt] at k
          refine Cd.t (ltZ_t hlt) ?_
          refine k snil v' (n + 1) _ (by omega) ?_
          have h17 : Sat (Vec v' tU 1 (rowsU (told ++ [stampW x])) :: _) H16 := h16.pull (by repeat (first | exact pH | apply pT))
          have h18 : Sat (TV 1 (told ++ [stampW x]) v' :: _) H16 := h17.imp fun g a => .inr a
          exact (h18.nilV (e := tU) (s := 1)).ent (by repeat (first | exact eN _ | exact eZ | apply eC (by repeat (first | exact pH | apply pT)) | refine eD ?_))
        · simp only [if_neg hlt] at k
          refine Cd.f (ltZ_f (by omega)) ?_
          refine scanEnd_ok (p := p) (i := (i + 1)) (fl := fl) (sl := sl) (v := v') (told := (told ++ [stampW x])) (F := fun a b c d e => _) hc (h16.ent (by repeat (first | exact eN _ | exact eZ | apply eC (by repeat (first | exact pH | apply pT)) | refine eD ?_))) (by exact hle) (fun _ _ _ _ _ => rfl) (fun _ _ _ _ _ => rfl) (fun _ _ _ _ _ => rfl) (fun _ _ _ _ _ => rfl) fun σ1 H1 w h1 => ?_
          show Cd _ _ _
          refine Cd.t rfl ?_
          exact k w v' (n + 1) _ (by omega) (h1.ent (by repeat (first | exact eN _ | exact eZ | apply eC (by repeat (first | exact pH | apply pT)) | refine eD ?_)))
      · simp only [if_neg h3] at k
        refine Cd.f (eqN_f h3) ?_
        repeat (first | refine run ?_ | refine ct ?_ | refine cf ?_ | refine sk ?_ | refine la rfl ?_ | refine na fun _ _ _ => ?_ | refine sa rfl fun _ _ => ?_ | refine nk ?_ | refine mu ?_ | refine ac ?_ | refine ai ?_)
        try rw [addInt]
        refine inR_nat (by omega) ?_
        repeat (first | refine run ?_ | refine ct ?_ | refine cf ?_ | refine sk ?_ | refine la rfl ?_ | refine na fun _ _ _ => ?_ | refine sa rfl fun _ _ => ?_ | refine nk ?_ | refine mu ?_ | refine ac ?_ | refine ai ?_)
        rename_i H94 h94
        refine annCount_ok hc sl h94 fun H16 h16 => ?_
        repeat (first | refine run ?_ | refine ct ?_ | refine cf ?_ | refine sk ?_ | refine la rfl ?_ | refine na fun _ _ _ => ?_ | refine sa rfl fun _ _ => ?_ | refine nk ?_ | refine mu ?_ | refine ac ?_ | refine ai ?_)
        by_cases hlt : (i + 1) < cnt sl.count
        · simp only [if_pos hlt] at k
          refine Cd.t (ltZ_t hlt) ?_
          refine k snil v (n + 1) _ (by omega) ?_
          have h17 : Sat (Vec v tU 1 (rowsU told) :: _) H16 := h16.pull (by repeat (first | exact pH | apply pT))
          have h18 : Sat (TV 1 told v :: _) H16 := h17.imp fun g a => .inr a
          exact (h18.nilV (e := tU) (s := 1)).ent (by repeat (first | exact eN _ | exact eZ | apply eC (by repeat (first | exact pH | apply pT)) | refine eD ?_))
        · simp only [if_neg hlt] at k
          refine Cd.f (ltZ_f (by omega)) ?_
          refine scanEnd_ok (p := p) (i := (i + 1)) (fl := fl) (sl := sl) (v := v) (told := told) (F := fun a b c d e => _) hc (h16.ent (by repeat (first | exact eN _ | exact eZ | apply eC (by repeat (first | exact pH | apply pT)) | refine eD ?_))) (by omega) (fun _ _ _ _ _ => rfl) (fun _ _ _ _ _ => rfl) (fun _ _ _ _ _ => rfl) (fun _ _ _ _ _ => rfl) fun σ1 H1 w h1 => ?_
          show Cd _ _ _
          refine Cd.t rfl ?_
          exact k w v (n + 1) _ (by omega) (h1.ent (by repeat (first | exact eN _ | exact eZ | apply eC (by repeat (first | exact pH | apply pT)) | refine eD ?_)))
end Go.Proofs.YtipbbnoepphdkaaGreat

set_option linter.unusedVariables false
set_option linter.unusedSimpArgs false
namespace Go.Proofs.YtipbbnoepphdkaaGreat
open Go Go.CM
attribute [local irreducible] AsBool AsWant AsNat AsInt AsCnt AsPtr AsSlc AsLen AsStr AsAgg AsTup AsFn AsIfc Nth Sc NotNil IsNil Must Cd codeW funW Sat SatL wrapN subM mkRow ltZ leZ ltN leN
variable {con : CallT}
theorem insAt {x : Nat} : ∀ {l : List Nat} {p : Nat}, p ≤ l.length → (∀ j y, j < p → l[j]? = some y → y < x) → (∀ y, l[p]? = some y → x < y) → l.take p ++ x :: l.drop p = insU x l
  | [], p, h, _, _ => by
    obtain rfl : p = 0 := by simpa using h
    rfl
  | z :: l, 0, _, _, h2 => by
    have := h2 z rfl
    show x :: z :: l = _
    unfold insU
    rw [if_pos this]
  | z :: l, p + 1, h, h1, h2 => by
    have hz := h1 0 z (by omega) rfl
    unfold insU
    rw [if_neg (by omega), if_neg (by omega)]
    show z :: (l.take p ++ x :: l.drop p) = _
    rw [insAt (by simpa using h) (fun j y hj hy => h1 (j + 1) y (by omega) hy) (fun y hy => h2 y hy)]
theorem insU_self {x : Nat} {l : List Nat} (hl : IncL l) (hx : x ∈ l) : insU x l = l :=
  inc_unique (insU_inc hl) hl fun y => by
    rw [insU_mem]
    exact ⟨fun h => h.elim (fun e => e ▸ hx) id, .inr⟩
theorem rowsU_get {l : List Nat} {i x : Nat} (h : l[i]? = some x) : (rowsU l)[i]? = some [u64 x] := by rw [List.getElem?_map, h]; rfl
theorem rowsU_set (l : List Nat) (i x : Nat) (r : List Value) (hr : r.set 0 (u64 x) = [u64 x]) : (rowsU l).set i (r.set 0 (u64 x)) = rowsU (l.set i x) := by
  rw [hr]
  show (l.map fun x => [u64 x]).set i ((fun x => [u64 x]) x) = (l.set i x).map fun x => [u64 x]
  rw [List.map_set]
/-- Where x belongs. -/
theorem rRisingB_ok (hc : Con con lives) {L : List HP} {H : CH} {v w : Value} {told acc : List Nat} {fl i x : Nat} {σ : TF} {Q : KX} (hs : Sat L H) (hv : Has L (Nums v told)) (hw : Has L (Vec w tU 1 (rowsU acc))) (hl : acc.length ≤ 1000) (hx : told[i]? = some x)
    (e0 : σ 0 = v) (e1 : σ 1 = u64 fl) (e5 : σ 5 = w) (e6 : σ 6 = iN i) (e7 : σ 7 = iN 0)
    (k : ∀ σ1 p, p ≤ acc.length → (∀ j y, j < p → acc[j]? = some y → y < x) → (∀ y, acc[p]? = some y → x ≤ y) → σ1 0 = v → σ1 1 = u64 fl → σ1 5 = w → σ1 6 = iN i → σ1 7 = iN p → Q (.exit 2) σ1 H) :
    LoopC Tryz.prog con (lpAt Tryz.prog 135 1) σ H Q := by
  obtain ⟨pw, ew⟩ := (hs.has hw).shape
  rw [List.length_map] at ew
  subst ew
  obtain ⟨pv, cv, rfl⟩ := (hs.has hv).len
  have hi : i < told.length := (List.getElem?_eq_some_iff.1 hx).1
  refine LoopC.indP (n := 200) (id := 2) (fun σ1 H1 => H1 = H ∧ ∃ p, p ≤ acc.length ∧ (∀ j y, j < p → acc[j]? = some y → y < x) ∧ (∀ y, acc[p]? = some y → x ≤ y) ∧ σ1 0 = .slice pv told.length cv ∧ σ1 1 = u64 fl ∧ σ1 5 = .slice pw acc.length acc.length ∧ σ1 6 = iN i ∧ σ1 7 = iN p) (by kernel_rfl)
    (fun (p : Nat) σ1 H1 => H1 = H ∧ p ≤ acc.length ∧ (∀ j y, j < p → acc[j]? = some y → y < x) ∧ σ1 0 = .slice pv told.length cv ∧ σ1 1 = u64 fl ∧ σ1 5 = .slice pw acc.length acc.length ∧ σ1 6 = iN i ∧ σ1 7 = iN p)
    (fun p => acc.length - p) (fun p σ1 H1 hI => ?_) (fun σ1 H1 hP => ?_) 0 _ _ ⟨rfl, Nat.zero_le _, fun j y hj => by omega, e0, e1, e5, e6, e7⟩
  · obtain ⟨rfl, hp, hlt, a0, a1, a5, a6, a7⟩ := hI
    rw [rRisingB_W]
    simp only [a0, a5, a6, a7]
    repeat (first | refine run ?_ | refine ct ?_ | refine cf ?_ | refine sk ?_ | refine la rfl ?_ | refine na fun _ _ _ => ?_ | refine sa rfl fun _ _ => ?_ | refine nk ?_ | refine mu ?_ | refine ac ?_ | refine ai ?_)
    by_cases h : p < acc.length
    · obtain ⟨y, hy⟩ : ∃ y, acc[p]? = some y := ⟨_, List.getElem?_eq_getElem h⟩
      refine Cd.t (ltZ_t h) ?_
      obtain ⟨bw, ew, _⟩ := (hs.has hw).slot (rowsU_get hy)
      injection ew with ew _ _
      subst ew
      repeat (first | refine run ?_ | refine ct ?_ | refine cf ?_ | refine sk ?_ | refine la rfl ?_ | refine na fun _ _ _ => ?_ | refine sa rfl fun _ _ => ?_ | refine nk ?_ | refine mu ?_ | refine ac ?_ | refine ai ?_)
      refine Must.mk (ltN_t h) ?_
      refine ldVec hs hw rfl (rowsU_get hy) (j := 0) (by show 0 + p * 1 = _; omega) (by omega) rfl ?_
      repeat (first | refine run ?_ | refine ct ?_ | refine cf ?_ | refine sk ?_ | refine la rfl ?_ | refine na fun _ _ _ => ?_ | refine sa rfl fun _ _ => ?_ | refine nk ?_ | refine mu ?_ | refine ac ?_ | refine ai ?_)
      rcases (hs.has hv).shape with ⟨_, e⟩ | ⟨bv, ov, cv', ev⟩
      · rw [e] at hi; simp at hi
      injection ev with ev _ _
      subst ev
      repeat (first | refine run ?_ | refine ct ?_ | refine cf ?_ | refine sk ?_ | refine la rfl ?_ | refine na fun _ _ _ => ?_ | refine sa rfl fun _ _ => ?_ | refine nk ?_ | refine mu ?_ | refine ac ?_ | refine ai ?_)
      refine Must.mk (ltN_t hi) ?_
      refine ldSrc hs (hv.src rfl) (by rw [show Nat.mul i 1 = i from Nat.mul_one i]; rfl) (map_get _ hi) ?_
      have ex : told.getD i 0 = x := by rw [List.getD_eq_getElem?_getD, hx]; rfl
      rw [ex]
      repeat (first | refine run ?_ | refine ct ?_ | refine cf ?_ | refine sk ?_ | refine la rfl ?_ | refine na fun _ _ _ => ?_ | refine sa rfl fun _ _ => ?_ | refine nk ?_ | refine mu ?_ | refine ac ?_ | refine ai ?_)
      by_cases hxy : y < x
      · refine Cd.t (ltN_t hxy) ?_
        repeat (first | refine run ?_ | refine ct ?_ | refine cf ?_ | refine sk ?_ | refine la rfl ?_ | refine na fun _ _ _ => ?_ | refine sa rfl fun _ _ => ?_ | refine nk ?_ | refine mu ?_ | refine ac ?_ | refine ai ?_)
        try rw [addInt]
        refine inR_nat (by omega) ?_
        repeat (first | refine run ?_ | refine ct ?_ | refine cf ?_ | refine sk ?_ | refine la rfl ?_ | refine na fun _ _ _ => ?_ | refine sa rfl fun _ _ => ?_ | refine nk ?_ | refine mu ?_ | refine ac ?_ | refine ai ?_)
        show ∃ y, _ ∧ _
        refine ⟨p + 1, by omega, rfl, h, fun j z hj hz => ?_, a0, a1, a5, a6, rfl⟩
        by_cases e : j = p
        · subst e; rw [hy] at hz; cases hz; exact hxy
        · exact hlt j z (by omega) hz
      · refine Cd.f (ltN_f (by omega)) ?_
        show _ = _ ∧ _
        exact ⟨rfl, rfl, p, hp, hlt, fun z hz => by rw [hy] at hz; cases hz; omega, a0, a1, a5, a6, a7⟩
    · refine Cd.f (ltZ_f (by omega)) ?_
      show _ = _ ∧ _
      exact ⟨rfl, rfl, p, hp, hlt, fun z hz => (by rw [List.getElem?_eq_none (by omega)] at hz; cases hz), a0, a1, a5, a6, a7⟩
  · obtain ⟨rfl, p, h1, h2, h3, a0, a1, a5, a6, a7⟩ := hP
    exact k σ1 p h1 h2 h3 a0 a1 a5 a6 a7
/-- Room is made. -/
theorem rRisingC_ok (hc : Con con lives) {R : List HP} {H : CH} {w : Value} {out : List Nat} {p : Nat} {σ : TF} {Q : KX} (hs : Sat (Vec w tU 1 (rowsU (out ++ [0])) :: R) H) (hl : out.length ≤ 1000) (hp : p ≤ out.length)
    (e5 : σ 5 = w) (e7 : σ 7 = iN p) (e8 : σ 8 = iN out.length)
    (k : ∀ σ1 H1 y, (σ1 0 = σ 0 ∧ σ1 1 = σ 1 ∧ σ1 5 = σ 5 ∧ σ1 6 = σ 6 ∧ σ1 7 = σ 7) → Sat (Vec w tU 1 (rowsU (out.take p ++ y :: out.drop p)) :: R) H1 → Q (.exit 4) σ1 H1) :
    LoopC Tryz.prog con (lpAt Tryz.prog 135 2) σ H Q := by
  obtain ⟨bw, ew, _⟩ := (hs.has Has.vec).slot (i := out.length) (row := [u64 0]) (rowsU_get (by simp))
  rw [List.length_map, List.length_append] at ew
  subst ew
  refine LoopC.indP (n := 200) (id := 4) (fun σ1 H1 => ∃ y, (σ1 0 = σ 0 ∧ σ1 1 = σ 1 ∧ σ1 5 = σ 5 ∧ σ1 6 = σ 6 ∧ σ1 7 = σ 7) ∧ Sat (Vec (slc bw 0 (out.length + [0].length) (out.length + [0].length)) tU 1 (rowsU (out.take p ++ y :: out.drop p)) :: R) H1) (by kernel_rfl)
    (fun (x : Nat) σ1 H1 => p ≤ x ∧ x ≤ out.length ∧ σ1 8 = iN x ∧ (σ1 0 = σ 0 ∧ σ1 1 = σ 1 ∧ σ1 5 = σ 5 ∧ σ1 6 = σ 6 ∧ σ1 7 = σ 7) ∧ ∃ y, Sat (Vec (slc bw 0 (out.length + [0].length) (out.length + [0].length)) tU 1 (rowsU (out.take x ++ y :: out.drop x)) :: R) H1)
    (fun x => x) (fun x σ1 H1 hI => ?_) (fun σ1 H1 hP => ?_) out.length _ _ ⟨hp, Nat.le_refl _, e8, ⟨rfl, rfl, rfl, rfl, rfl⟩, 0, by rw [List.take_length, List.drop_length]; exact hs⟩
  · obtain ⟨hpx, hxl, a8, hk, y, hs1⟩ := hI
    obtain ⟨k0, k1, k5, k6, k7⟩ := hk
    have a5 := k5.trans e5
    have a7 := k7.trans e7
    rw [rRisingC_W]
    simp only [a5, a7, a8]
    repeat (first | refine run ?_ | refine ct ?_ | refine cf ?_ | refine sk ?_ | refine la rfl ?_ | refine na fun _ _ _ => ?_ | refine sa rfl fun _ _ => ?_ | refine nk ?_ | refine mu ?_ | refine ac ?_ | refine ai ?_)
    by_cases h : p < x
    · refine Cd.t (ltZ_t h) ?_
      repeat (first | refine run ?_ | refine ct ?_ | refine cf ?_ | refine sk ?_ | refine la rfl ?_ | refine na fun _ _ _ => ?_ | refine sa rfl fun _ _ => ?_ | refine nk ?_ | refine mu ?_ | refine ac ?_ | refine ai ?_)
      rw [subInt (by omega)]
      refine inR_nat (by omega) ?_
      repeat (first | refine run ?_ | refine ct ?_ | refine cf ?_ | refine sk ?_ | refine la rfl ?_ | refine na fun _ _ _ => ?_ | refine sa rfl fun _ _ => ?_ | refine nk ?_ | refine mu ?_ | refine ac ?_ | refine ai ?_)
      obtain ⟨z, hz⟩ : ∃ z, out[x - 1]? = some z := ⟨_, List.getElem?_eq_getElem (by omega)⟩
      have hg : (out.take x ++ y :: out.drop x)[x - 1]? = some z := by
        rw [List.getElem?_append_left (by rw [List.length_take]; omega), List.getElem?_take_of_lt (by omega)]
        exact hz
      have hg2 : (out.take x ++ y :: out.drop x)[x]? = some y := by
        rw [List.getElem?_append_right (by rw [List.length_take]; omega), List.length_take, Nat.min_eq_left hxl, Nat.sub_self]; rfl
      refine Must.mk (ltN_t (by simp; omega)) ?_
      refine ldVec hs1 Has.vec rfl (rowsU_get hg) (j := 0) (by show 0 + (x - 1) * 1 = _; omega) (by omega) rfl ?_
      repeat (first | refine run ?_ | refine ct ?_ | refine cf ?_ | refine sk ?_ | refine la rfl ?_ | refine na fun _ _ _ => ?_ | refine sa rfl fun _ _ => ?_ | refine nk ?_ | refine mu ?_ | refine ac ?_ | refine ai ?_)
      refine Must.mk (ltN_t (by simp; omega)) ?_
      repeat (first | refine run ?_ | refine ct ?_ | refine cf ?_ | refine sk ?_ | refine la rfl ?_ | refine na fun _ _ _ => ?_ | refine sa rfl fun _ _ => ?_ | refine nk ?_ | refine mu ?_ | refine ac ?_ | refine ai ?_)
      refine stVec hs1 (by repeat (first | exact pH | apply pT)) (rowsU_get hg2) (j := 0) (by show 0 + x * 1 = _; omega) (by omega) rfl fun H2 h2 => ?_
      rw [rowsU_set _ _ _ _ rfl] at h2
      have e : (out.take x ++ y :: out.drop x).set x z = out.take (x - 1) ++ z :: out.drop (x - 1) := by
        rw [List.set_append_right _ _ (by rw [List.length_take]; omega), List.length_take, Nat.min_eq_left hxl, Nat.sub_self]
        show out.take x ++ z :: out.drop x = _
        have h1 : out.take x = out.take (x - 1) ++ [z] := by
          have := List.take_add_one (l := out) (i := x - 1)
          rw [show x - 1 + 1 = x by omega, hz] at this
          exact this
        have h2 : out.drop (x - 1) = z :: out.drop x := by
          have := List.drop_eq_getElem_cons (l := out) (i := x - 1) (by omega)
          rw [show x - 1 + 1 = x by omega] at this
          rw [this]
          rw [List.getElem?_eq_getElem (by omega)] at hz
          injection hz with hz
          rw [hz]
        rw [h1, h2]; simp
      rw [e] at h2
      repeat (first | refine run ?_ | refine ct ?_ | refine cf ?_ | refine sk ?_ | refine la rfl ?_ | refine na fun _ _ _ => ?_ | refine sa rfl fun _ _ => ?_ | refine nk ?_ | refine mu ?_ | refine ac ?_ | refine ai ?_)
      rw [subInt (by omega)]
      refine inR_nat (by omega) ?_
      repeat (first | refine run ?_ | refine ct ?_ | refine cf ?_ | refine sk ?_ | refine la rfl ?_ | refine na fun _ _ _ => ?_ | refine sa rfl fun _ _ => ?_ | refine nk ?_ | refine mu ?_ | refine ac ?_ | refine ai ?_)
      show ∃ y, _ ∧ _
      exact ⟨x - 1, by omega, by omega, by omega, rfl, ⟨k0, k1, k5, k6, k7⟩, z, h2⟩
    · refine Cd.f (ltZ_f (by omega)) ?_
      obtain rfl : x = p := by omega
      show _ = _ ∧ _
      exact ⟨rfl, y, ⟨k0, k1, k5, k6, k7⟩, hs1⟩
  · obtain ⟨y, hk, hs1⟩ := hP
    exact k σ1 H1 y hk hs1
theorem insU_len {x : Nat} : ∀ l : List Nat, (insU x l).length ≤ l.length + 1
  | [] => by simp [insU]
  | y :: r => by
    unfold insU
    split
    · simp
    · split
      · simp
      · have := insU_len (x := x) r
        simp only [List.length_cons]; omega
theorem rRising_ok (hc : Con con lives) {L : List HP} {H : CH} {v : Value} {told : List Nat} {fl : Nat} {K : KP} (hs : Sat L H) (hv : Has L (Nums v told)) (hl : told.length ≤ 256)
    (k : ∀ w H1, Sat (Vec w tU 1 (rowsU (rise told fl)) :: L) H1 → K w H1) : Call1 Tryz.prog con 135 [v, u64 fl] H K := by
  refine call_of (hc _ _ _ rfl) ?_
  rw [rRising_W]
  obtain ⟨pv, cv, rfl⟩ := (hs.has hv).len
  refine LoopC.indP (n := 300) (id := 0) (fun σ1 H1 => ∃ w, σ1 5 = w ∧ Sat (Vec w tU 1 (rowsU (rise told fl)) :: L) H1) (by kernel_rfl)
    (fun (i : Nat) σ1 H1 => i ≤ told.length ∧ ∃ w acc, σ1 0 = .slice pv told.length cv ∧ σ1 1 = u64 fl ∧ σ1 5 = w ∧ σ1 6 = iN i ∧ acc.length ≤ i ∧ IncL acc ∧ (∀ y, y ∈ acc ↔ y ∈ told.take i ∧ y < fl) ∧ Sat (Vec w tU 1 (rowsU acc) :: L) H1)
    (fun i => told.length - i) (fun i σ1 H1 hI => ?_) (fun σ1 H1 hP => ?_) 0 _ _ ⟨Nat.zero_le _, snil, [], rfl, rfl, rfl, rfl, Nat.le_refl _, List.Pairwise.nil, fun y => by simp, hs.nilV⟩
  · obtain ⟨hi, w, acc, a0, a1, a5, a6, hal, hinc, hmem, hs1⟩ := hI
    rw [rRisingA_W]
    simp only [a0, a6]
    repeat (first | refine run ?_ | refine ct ?_ | refine cf ?_ | refine sk ?_ | refine la rfl ?_ | refine na fun _ _ _ => ?_ | refine sa rfl fun _ _ => ?_ | refine nk ?_ | refine mu ?_ | refine ac ?_ | refine ai ?_)
    by_cases h : i < told.length
    · obtain ⟨x, hx⟩ : ∃ x, told[i]? = some x := ⟨_, List.getElem?_eq_getElem h⟩
      have htk : told.take (i + 1) = told.take i ++ [x] := by rw [List.take_add_one, hx]; rfl
      refine Cd.t (ltZ_t h) ?_
      refine rRisingB_ok (acc := acc) (told := told) (fl := fl) (i := i) (x := x) hc hs1 (Has.skip hv) Has.vec (by omega) hx a0 a1 a5 a6 rfl fun σ2 p hp hlt hle c0 c1 c5 c6 c7 => ?_
      show Cd _ _ _
      refine Cd.t rfl ?_
      obtain ⟨pw, ew⟩ := (hs1.has Has.vec).shape
      rw [List.length_map] at ew
      subst ew
      simp only [c0, c1, c5, c6, c7]
      rcases (hs1.has (Has.skip hv)).shape with ⟨_, e⟩ | ⟨bv, ov, cv', ev⟩
      · rw [e] at h; simp at h
      injection ev with ev _ _
      subst ev
      repeat (first | refine run ?_ | refine ct ?_ | refine cf ?_ | refine sk ?_ | refine la rfl ?_ | refine na fun _ _ _ => ?_ | refine sa rfl fun _ _ => ?_ | refine nk ?_ | refine mu ?_ | refine ac ?_ | refine ai ?_)
      refine Must.mk (ltN_t h) ?_
      have ex : told.getD i 0 = x := by rw [List.getD_eq_getElem?_getD, hx]; rfl
      refine ldSrc hs1 ((Has.skip hv).src rfl) (by rw [show Nat.mul i 1 = i from Nat.mul_one i]; rfl) (map_get _ h) ?_
      rw [ex]
      repeat (first | refine run ?_ | refine ct ?_ | refine cf ?_ | refine sk ?_ | refine la rfl ?_ | refine na fun _ _ _ => ?_ | refine sa rfl fun _ _ => ?_ | refine nk ?_ | refine mu ?_ | refine ac ?_ | refine ai ?_)
      by_cases hfl : fl ≤ x
      · refine Cd.t (leN_t hfl) ?_
        repeat (first | refine run ?_ | refine ct ?_ | refine cf ?_ | refine sk ?_ | refine la rfl ?_ | refine na fun _ _ _ => ?_ | refine sa rfl fun _ _ => ?_ | refine nk ?_ | refine mu ?_ | refine ac ?_ | refine ai ?_)
        try rw [addInt]
        refine inR_nat (by omega) ?_
        repeat (first | refine run ?_ | refine ct ?_ | refine cf ?_ | refine sk ?_ | refine la rfl ?_ | refine na fun _ _ _ => ?_ | refine sa rfl fun _ _ => ?_ | refine nk ?_ | refine mu ?_ | refine ac ?_ | refine ai ?_)
        show ∃ y, _ ∧ _
        refine ⟨i + 1, by omega, h, _, acc, c0, c1, c5, rfl, by omega, hinc, fun y => ?_, hs1⟩
        rw [hmem, htk, List.mem_append, List.mem_singleton]
        constructor
        · rintro ⟨h1, h2⟩; exact ⟨.inl h1, h2⟩
        · rintro ⟨h1 | rfl, h2⟩
          · exact ⟨h1, h2⟩
          · omega
      · have hfl : x < fl := by omega
        refine Cd.f (leN_f hfl) ?_
        have fin : ∀ y, y ∈ insU x acc ↔ y ∈ told.take (i + 1) ∧ y < fl := fun y => by
          rw [insU_mem, hmem, htk, List.mem_append, List.mem_singleton]
          constructor
          · rintro (rfl | ⟨h1, h2⟩)
            · exact ⟨.inr rfl, hfl⟩
            · exact ⟨.inl h1, h2⟩
          · rintro ⟨h1 | rfl, h2⟩
            · exact .inr ⟨h1, h2⟩
            · exact .inl rfl
        repeat (first | refine run ?_ | refine ct ?_ | refine cf ?_ | refine sk ?_ | refine la rfl ?_ | refine na fun _ _ _ => ?_ | refine sa rfl fun _ _ => ?_ | refine nk ?_ | refine mu ?_ | refine ac ?_ | refine ai ?_)
        by_cases hpl : p < acc.length
        · obtain ⟨y, hy⟩ : ∃ y, acc[p]? = some y := ⟨_, List.getElem?_eq_getElem hpl⟩
          obtain ⟨bw, ew, _⟩ := (hs1.has Has.vec).slot (rowsU_get hy)
          injection ew with ew _ _
          subst ew
          refine Cd.t (ltZ_t hpl) ?_
          repeat (first | refine run ?_ | refine ct ?_ | refine cf ?_ | refine sk ?_ | refine la rfl ?_ | refine na fun _ _ _ => ?_ | refine sa rfl fun _ _ => ?_ | refine nk ?_ | refine mu ?_ | refine ac ?_ | refine ai ?_)
          refine Must.mk (ltN_t hpl) ?_
          refine ldVec hs1 Has.vec rfl (rowsU_get hy) (j := 0) (by show 0 + p * 1 = _; omega) (by omega) rfl ?_
          repeat (first | refine run ?_ | refine ct ?_ | refine cf ?_ | refine sk ?_ | refine la rfl ?_ | refine na fun _ _ _ => ?_ | refine sa rfl fun _ _ => ?_ | refine nk ?_ | refine mu ?_ | refine ac ?_ | refine ai ?_)
          refine Must.mk (ltN_t h) ?_
          refine ldSrc hs1 ((Has.skip hv).src rfl) (by rw [show Nat.mul i 1 = i from Nat.mul_one i]; rfl) (map_get _ h) ?_
          rw [ex]
          repeat (first | refine run ?_ | refine ct ?_ | refine cf ?_ | refine sk ?_ | refine la rfl ?_ | refine na fun _ _ _ => ?_ | refine sa rfl fun _ _ => ?_ | refine nk ?_ | refine mu ?_ | refine ac ?_ | refine ai ?_)
          by_cases hyx : y = x
          · subst hyx
            refine Cd.t (eqN_self _) ?_
            repeat (first | refine run ?_ | refine ct ?_ | refine cf ?_ | refine sk ?_ | refine la rfl ?_ | refine na fun _ _ _ => ?_ | refine sa rfl fun _ _ => ?_ | refine nk ?_ | refine mu ?_ | refine ac ?_ | refine ai ?_)
            try rw [addInt]
            refine inR_nat (by omega) ?_
            repeat (first | refine run ?_ | refine ct ?_ | refine cf ?_ | refine sk ?_ | refine la rfl ?_ | refine na fun _ _ _ => ?_ | refine sa rfl fun _ _ => ?_ | refine nk ?_ | refine mu ?_ | refine ac ?_ | refine ai ?_)
            have hma : y ∈ acc := List.mem_of_getElem? hy
            show ∃ y, _ ∧ _
            refine ⟨i + 1, by omega, h, _, acc, c0, c1, c5, rfl, by omega, hinc, fun z => ?_, hs1⟩
            rw [← fin, insU_self hinc hma]
          · refine Cd.f (eqN_f hyx) ?_
            repeat (first | refine run ?_ | refine ct ?_ | refine cf ?_ | refine sk ?_ | refine la rfl ?_ | refine na fun _ _ _ => ?_ | refine sa rfl fun _ _ => ?_ | refine nk ?_ | refine mu ?_ | refine ac ?_ | refine ai ?_)
            have hnx : acc[p]? ≠ some x := by
              rw [hy]
              exact fun e => hyx (Option.some.inj e)
            rename_i H33 h33
            refine app_vec (new := [[u64 0]]) h33 (by repeat (first | exact pH | apply pT)) el_u64 (by omega) sl_u64 (Src.cell (n := 1) (by rfl)) rfl (by simp) (by simp; omega) rfl fun w' H35 h35 => ?_
            rw [show rowsU acc ++ [[u64 0]] = rowsU (acc ++ [0]) from by simp] at h35
            obtain ⟨pw', ew'⟩ := (h35.has Has.vec).shape
            rw [List.length_map, List.length_append, show [0].length = 1 from rfl] at ew'
            subst ew'
            repeat (first | refine run ?_ | refine ct ?_ | refine cf ?_ | refine sk ?_ | refine la rfl ?_ | refine na fun _ _ _ => ?_ | refine sa rfl fun _ _ => ?_ | refine nk ?_ | refine mu ?_ | refine ac ?_ | refine ai ?_)
            rw [subInt (by omega)]
            refine inR_nat (by omega) ?_
            repeat (first | refine run ?_ | refine ct ?_ | refine cf ?_ | refine sk ?_ | refine la rfl ?_ | refine na fun _ _ _ => ?_ | refine sa rfl fun _ _ => ?_ | refine nk ?_ | refine mu ?_ | refine ac ?_ | refine ai ?_)
            refine rRisingC_ok (out := acc) (p := p) hc h35 (by omega) hp rfl c7 rfl fun σ4 H4 y hk h4 => ?_
            show Cd _ _ _
            refine Cd.t rfl ?_
            obtain ⟨k0, k1, k5, k6, k7⟩ := hk
            have d0 := k0.trans c0
            have d1 := k1.trans c1
            have d5 : σ4 5 = .slice pw' (acc.length + 1) (acc.length + 1) := k5
            have d6 := k6.trans c6
            have d7 := k7.trans c7
            simp only [d0, d1, d6, d7]
            repeat (first | refine run ?_ | refine ct ?_ | refine cf ?_ | refine sk ?_ | refine la rfl ?_ | refine na fun _ _ _ => ?_ | refine sa rfl fun _ _ => ?_ | refine nk ?_ | refine mu ?_ | refine ac ?_ | refine ai ?_)
            refine Must.mk (ltN_t h) ?_
            refine ldSrc h4 ((Has.skip (Has.skip hv)).src rfl) (by rw [show Nat.mul i 1 = i from Nat.mul_one i]; rfl) (map_get _ h) ?_
            rw [ex]
            have hg : (acc.take p ++ y :: acc.drop p)[p]? = some y := by
              rw [List.getElem?_append_right (by rw [List.length_take]; omega), List.length_take, Nat.min_eq_left hp, Nat.sub_self]; rfl
            obtain ⟨b2, e2, _⟩ := (h4.has Has.vec).slot (rowsU_get hg)
            injection e2 with e2 _ _
            subst e2
            simp only [d5]
            repeat (first | refine run ?_ | refine ct ?_ | refine cf ?_ | refine sk ?_ | refine la rfl ?_ | refine na fun _ _ _ => ?_ | refine sa rfl fun _ _ => ?_ | refine nk ?_ | refine mu ?_ | refine ac ?_ | refine ai ?_)
            refine Must.mk (ltN_t (by omega)) ?_
            repeat (first | refine run ?_ | refine ct ?_ | refine cf ?_ | refine sk ?_ | refine la rfl ?_ | refine na fun _ _ _ => ?_ | refine sa rfl fun _ _ => ?_ | refine nk ?_ | refine mu ?_ | refine ac ?_ | refine ai ?_)
            refine stVec h4 (by repeat (first | exact pH | apply pT)) (rowsU_get hg) (j := 0) (by show 0 + p * 1 = _; omega) (by omega) rfl fun H6 h6 => ?_
            rw [rowsU_set _ _ _ _ rfl] at h6
            have e3 : (acc.take p ++ y :: acc.drop p).set p x = insU x acc := by
              rw [List.set_append_right _ _ (by rw [List.length_take]; omega), List.length_take, Nat.min_eq_left hp, Nat.sub_self]
              exact insAt hp hlt (fun z hz => by
                have h1 := hle z hz
                rcases Nat.lt_or_eq_of_le h1 with h2 | h2
                · exact h2
                · subst h2; exact absurd hz hnx)
            rw [e3] at h6
            repeat (first | refine run ?_ | refine ct ?_ | refine cf ?_ | refine sk ?_ | refine la rfl ?_ | refine na fun _ _ _ => ?_ | refine sa rfl fun _ _ => ?_ | refine nk ?_ | refine mu ?_ | refine ac ?_ | refine ai ?_)
            try rw [addInt]
            refine inR_nat (by omega) ?_
            repeat (first | refine run ?_ | refine ct ?_ | refine cf ?_ | refine sk ?_ | refine la rfl ?_ | refine na fun _ _ _ => ?_ | refine sa rfl fun _ _ => ?_ | refine nk ?_ | refine mu ?_ | refine ac ?_ | refine ai ?_)
            show ∃ y, _ ∧ _
            have hil := insU_len (x := x) acc
            exact ⟨i + 1, by omega, h, _, insU x acc, d0, d1, d5, rfl, by omega, insU_inc hinc, fin, h6.ent (by repeat (first | exact eN _ | exact eZ | apply eC (by repeat (first | exact pH | apply pT)) | refine eD ?_))⟩
        · refine Cd.f (ltZ_f (by omega)) ?_
          repeat (first | refine run ?_ | refine ct ?_ | refine cf ?_ | refine sk ?_ | refine la rfl ?_ | refine na fun _ _ _ => ?_ | refine sa rfl fun _ _ => ?_ | refine nk ?_ | refine mu ?_ | refine ac ?_ | refine ai ?_)
          have hnx : acc[p]? ≠ some x := by
            rw [List.getElem?_eq_none (by omega)]
            exact fun e => nomatch e
          rename_i H33 h33
          refine app_vec (new := [[u64 0]]) h33 (by repeat (first | exact pH | apply pT)) el_u64 (by omega) sl_u64 (Src.cell (n := 1) (by rfl)) rfl (by simp) (by simp; omega) rfl fun w' H35 h35 => ?_
          rw [show rowsU acc ++ [[u64 0]] = rowsU (acc ++ [0]) from by simp] at h35
          obtain ⟨pw', ew'⟩ := (h35.has Has.vec).shape
          rw [List.length_map, List.length_append, show [0].length = 1 from rfl] at ew'
          subst ew'
          repeat (first | refine run ?_ | refine ct ?_ | refine cf ?_ | refine sk ?_ | refine la rfl ?_ | refine na fun _ _ _ => ?_ | refine sa rfl fun _ _ => ?_ | refine nk ?_ | refine mu ?_ | refine ac ?_ | refine ai ?_)
          rw [subInt (by omega)]
          refine inR_nat (by omega) ?_
          repeat (first | refine run ?_ | refine ct ?_ | refine cf ?_ | refine sk ?_ | refine la rfl ?_ | refine na fun _ _ _ => ?_ | refine sa rfl fun _ _ => ?_ | refine nk ?_ | refine mu ?_ | refine ac ?_ | refine ai ?_)
          refine rRisingC_ok (out := acc) (p := p) hc h35 (by omega) hp rfl c7 rfl fun σ4 H4 y hk h4 => ?_
          show Cd _ _ _
          refine Cd.t rfl ?_
          obtain ⟨k0, k1, k5, k6, k7⟩ := hk
          have d0 := k0.trans c0
          have d1 := k1.trans c1
          have d5 : σ4 5 = .slice pw' (acc.length + 1) (acc.length + 1) := k5
          have d6 := k6.trans c6
          have d7 := k7.trans c7
          simp only [d0, d1, d6, d7]
          repeat (first | refine run ?_ | refine ct ?_ | refine cf ?_ | refine sk ?_ | refine la rfl ?_ | refine na fun _ _ _ => ?_ | refine sa rfl fun _ _ => ?_ | refine nk ?_ | refine mu ?_ | refine ac ?_ | refine ai ?_)
          refine Must.mk (ltN_t h) ?_
          refine ldSrc h4 ((Has.skip (Has.skip hv)).src rfl) (by rw [show Nat.mul i 1 = i from Nat.mul_one i]; rfl) (map_get _ h) ?_
          rw [ex]
          have hg : (acc.take p ++ y :: acc.drop p)[p]? = some y := by
            rw [List.getElem?_append_right (by rw [List.length_take]; omega), List.length_take, Nat.min_eq_left hp, Nat.sub_self]; rfl
          obtain ⟨b2, e2, _⟩ := (h4.has Has.vec).slot (rowsU_get hg)
          injection e2 with e2 _ _
          subst e2
          simp only [d5]
          repeat (first | refine run ?_ | refine ct ?_ | refine cf ?_ | refine sk ?_ | refine la rfl ?_ | refine na fun _ _ _ => ?_ | refine sa rfl fun _ _ => ?_ | refine nk ?_ | refine mu ?_ | refine ac ?_ | refine ai ?_)
          refine Must.mk (ltN_t (by omega)) ?_
          repeat (first | refine run ?_ | refine ct ?_ | refine cf ?_ | refine sk ?_ | refine la rfl ?_ | refine na fun _ _ _ => ?_ | refine sa rfl fun _ _ => ?_ | refine nk ?_ | refine mu ?_ | refine ac ?_ | refine ai ?_)
          refine stVec h4 (by repeat (first | exact pH | apply pT)) (rowsU_get hg) (j := 0) (by show 0 + p * 1 = _; omega) (by omega) rfl fun H6 h6 => ?_
          rw [rowsU_set _ _ _ _ rfl] at h6
          have e3 : (acc.take p ++ y :: acc.drop p).set p x = insU x acc := by
            rw [List.set_append_right _ _ (by rw [List.length_take]; omega), List.length_take, Nat.min_eq_left hp, Nat.sub_self]
            exact insAt hp hlt (fun z hz => by
              have h1 := hle z hz
              rcases Nat.lt_or_eq_of_le h1 with h2 | h2
              · exact h2
              · subst h2; exact absurd hz hnx)
          rw [e3] at h6
          repeat (first | refine run ?_ | refine ct ?_ | refine cf ?_ | refine sk ?_ | refine la rfl ?_ | refine na fun _ _ _ => ?_ | refine sa rfl fun _ _ => ?_ | refine nk ?_ | refine mu ?_ | refine ac ?_ | refine ai ?_)
          try rw [addInt]
          refine inR_nat (by omega) ?_
          repeat (first | refine run ?_ | refine ct ?_ | refine cf ?_ | refine sk ?_ | refine la rfl ?_ | refine na fun _ _ _ => ?_ | refine sa rfl fun _ _ => ?_ | refine nk ?_ | refine mu ?_ | refine ac ?_ | refine ai ?_)
          show ∃ y, _ ∧ _
          have hil := insU_len (x := x) acc
          exact ⟨i + 1, by omega, h, _, insU x acc, d0, d1, d5, rfl, by omega, insU_inc hinc, fin, h6.ent (by repeat (first | exact eN _ | exact eZ | apply eC (by repeat (first | exact pH | apply pT)) | refine eD ?_))⟩
    · refine Cd.f (ltZ_f (by omega)) ?_
      show _ = _ ∧ _
      obtain rfl : i = told.length := by omega
      have e : acc = rise told fl := inc_unique hinc (rise_inc _ _) fun y => by rw [hmem, rise_mem, List.take_length]
      rw [e] at hs1
      exact ⟨rfl, w, a5, hs1⟩
  · obtain ⟨w, a5, hs1⟩ := hP
    show Cd _ _ _
    refine Cd.t rfl ?_
    rw [a5]
    exact k w H1 hs1
end Go.Proofs.YtipbbnoepphdkaaGreat

set_option linter.unusedVariables false
set_option linter.unusedSimpArgs false
namespace Go.Proofs.YtipbbnoepphdkaaGreat
open Go Go.CM
attribute [local irreducible] AsBool AsWant AsNat AsInt AsCnt AsPtr AsSlc AsLen AsStr AsAgg AsTup AsFn AsIfc Nth Sc NotNil IsNil Must Cd codeW funW Sat SatL wrapN subM mkRow ltZ leZ ltN leN
variable {con : CallT}
/-! ### the document's scan, in its block -/
def dscC (s : ScanS) (w v : Value) : List Value := [iN s.at_, u64 s.sl.cam, u64 s.sl.first, i64 s.sl.count, u64 s.sl.most, iN s.i, u64 s.fl, v, u64 (if s.at_ = 2 then s.fl else 0), w]
abbrev pre23 (c : Nat → Value) (r : List Value) : List Value := pre13 c (c 13 :: c 14 :: c 15 :: c 16 :: c 17 :: c 18 :: c 19 :: c 20 :: c 21 :: c 22 :: r)
set_option maxRecDepth 100000 in
theorem rScanStep_ok (hc : Con con lives) (s : ScanS) {v : Value} {c : Nat → Value} {rest : List Value} {L R1 R2 R3 : List HP} {H : CH} {p m : Nat} {th : Int} {M : Mem} {K : KP} (hs : Sat L H) (hm : Pull L (RefP m M) R1) (hp : Pull R1 (Own p (pre23 c (dscC s snil v ++ rest))) R2) (hq : Pull R2 (Vec v tU 1 (rowsU s.told)) R3)
    (ht : M.tr.length < 1000000000) (hb : M.Bd) (hat : s.at_ < 2) (hi : s.i ≤ 256) (hi1 : s.at_ = 1 → s.i < 256) (htl : s.told.length ≤ s.i) (hne : s.need = [])
    (k : ∀ w v' H1, Sat (Vec w tU 1 (rowsU (s.step M th).1.need) :: Vec v' tU 1 (rowsU (s.step M th).1.told) :: Own p (pre23 c (dscC (s.step M th).1 w v' ++ rest)) :: RefP m (s.step M th).2 :: R3) H1 → K (.bool (eqZ (Int.ofNat (s.step M th).1.at_) (Int.ofNat 2))) H1) :
    Call1 Tryz.prog con 73 [ptr p 23, ptr m 0, i64 th] H K := by
  refine call_of (hc _ _ _ rfl) ?_
  rw [rScanStep_W]
  have hs0 := hs.takes (.cons hm (.cons hp (.cons hq .nil)))
  simp only [List.cons_append, List.nil_append] at hs0
  clear hs hm hp hq
  obtain ⟨sl, at_, i, fl, told, need⟩ := s
  dsimp only at hat hi hi1 htl hne
  subst hne
  rcases (by omega : at_ = 0 ∨ at_ = 1) with rfl | rfl
  · simp only [ScanS.step, ScanS.fin] at k
    simp only [dscC, List.cons_append, List.nil_append] at hs0
    repeat (first | refine run ?_ | refine ct ?_ | refine cf ?_ | refine sk ?_ | refine la rfl ?_ | refine na fun _ _ _ => ?_ | refine sa rfl fun _ _ => ?_ | refine nk ?_ | refine mu ?_ | refine ac ?_ | refine ai ?_)
    refine refLoad_ok hc hs0 (by repeat (first | exact pH | apply pT)) ht fun H5 h5 => ?_
    generalize M.peek sl.cam = fl' at *
    repeat (first | refine run ?_ | refine ct ?_ | refine cf ?_ | refine sk ?_ | refine la rfl ?_ | refine na fun _ _ _ => ?_ | refine sa rfl fun _ _ => ?_ | refine nk ?_ | refine mu ?_ | refine ac ?_ | refine ai ?_)
    rename_i H7 h7
    refine rCount_ok hc sl h7 fun H16 h16 => ?_
    repeat (first | refine run ?_ | refine ct ?_ | refine cf ?_ | refine sk ?_ | refine la rfl ?_ | refine na fun _ _ _ => ?_ | refine sa rfl fun _ _ => ?_ | refine nk ?_ | refine mu ?_ | refine ac ?_ | refine ai ?_)
    by_cases hlt : i < cnt sl.count
    · simp only [if_pos hlt] at k
      refine Cd.f (leZ_f hlt) ?_
      repeat (first | refine run ?_ | refine ct ?_ | refine cf ?_ | refine sk ?_ | refine la rfl ?_ | refine na fun _ _ _ => ?_ | refine sa rfl fun _ _ => ?_ | refine nk ?_ | refine mu ?_ | refine ac ?_ | refine ai ?_)
      exact k snil v _ ((h16.nilV (e := tU) (s := 1)).ent (by repeat (first | exact eN _ | exact eZ | apply eC (by repeat (first | exact pH | apply pT)) | refine eD ?_)))
    · simp only [if_neg hlt, dscC, eq_self, if_true, List.cons_append, List.nil_append] at k
      refine Cd.t (leZ_t (by omega)) ?_
      repeat (first | refine run ?_ | refine ct ?_ | refine cf ?_ | refine sk ?_ | refine la rfl ?_ | refine na fun _ _ _ => ?_ | refine sa rfl fun _ _ => ?_ | refine nk ?_ | refine mu ?_ | refine ac ?_ | refine ai ?_)
      have hvv : Sat (Vec v tU 1 (rowsU told) :: _) H16 := h16.pull (by repeat (first | exact pH | apply pT))
      refine rRising_ok (v := v) (told := told) (fl := fl') hc hvv (fun H g => Vec.nums (Has.vec H g)) (by omega) fun w H17 h17 => ?_
      obtain ⟨pw, ew⟩ := (h17.has Has.vec).shape
      subst ew
      repeat (first | refine run ?_ | refine ct ?_ | refine cf ?_ | refine sk ?_ | refine la rfl ?_ | refine na fun _ _ _ => ?_ | refine sa rfl fun _ _ => ?_ | refine nk ?_ | refine mu ?_ | refine ac ?_ | refine ai ?_)
      refine stN h17 (Nat.le_of_ble_eq_true rfl) rfl fun H18 h18 => ?_
      repeat (first | refine run ?_ | refine ct ?_ | refine cf ?_ | refine sk ?_ | refine la rfl ?_ | refine na fun _ _ _ => ?_ | refine sa rfl fun _ _ => ?_ | refine nk ?_ | refine mu ?_ | refine ac ?_ | refine ai ?_)
      exact k _ v _ (Sat.ent (by assumption) (by repeat (first | exact eN _ | exact eZ | apply eC (by repeat (first | exact pH | apply pT)) | refine eD ?_)))
  · simp only [ScanS.step, ScanS.fin] at k
    have hi1 := hi1 rfl
    simp only [dscC, List.cons_append, List.nil_append] at hs0
    repeat (first | refine run ?_ | refine ct ?_ | refine cf ?_ | refine sk ?_ | refine la rfl ?_ | refine na fun _ _ _ => ?_ | refine sa rfl fun _ _ => ?_ | refine nk ?_ | refine mu ?_ | refine ac ?_ | refine ai ?_)
    refine Must.mk (cv_small (by omega)) ?_
    repeat (first | refine run ?_ | refine ct ?_ | refine cf ?_ | refine sk ?_ | refine la rfl ?_ | refine na fun _ _ _ => ?_ | refine sa rfl fun _ _ => ?_ | refine nk ?_ | refine mu ?_ | refine ac ?_ | refine ai ?_)
    have hbp := hb.peek (addM sl.first i)
    rw [wrapN_small (by omega)]
    rename_i H38 h38
    refine refLoad_ok (a := addM sl.first i) hc h38 (by repeat (first | exact pH | apply pT)) ht fun H44 h44 => ?_
    generalize M.peek (addM sl.first i) = x at *
    repeat (first | refine run ?_ | refine ct ?_ | refine cf ?_ | refine sk ?_ | refine la rfl ?_ | refine na fun _ _ _ => ?_ | refine sa rfl fun _ _ => ?_ | refine nk ?_ | refine mu ?_ | refine ac ?_ | refine ai ?_)
    refine rUnpack_ok hc h44 hbp fun H46 h46 => ?_
    repeat (first | refine run ?_ | refine ct ?_ | refine cf ?_ | refine sk ?_ | refine la rfl ?_ | refine na fun _ _ _ => ?_ | refine sa rfl fun _ _ => ?_ | refine nk ?_ | refine mu ?_ | refine ac ?_ | refine ai ?_)
    refine stN (by assumption) (Nat.le_of_ble_eq_true rfl) rfl fun H51 h51 => ?_
    repeat (first | refine run ?_ | refine ct ?_ | refine cf ?_ | refine sk ?_ | refine la rfl ?_ | refine na fun _ _ _ => ?_ | refine sa rfl fun _ _ => ?_ | refine nk ?_ | refine mu ?_ | refine ac ?_ | refine ai ?_)
    by_cases h2 : kindW x = 2
    · simp only [if_pos h2, if_neg (show ¬ kindW x = 3 by omega)] at k
      refine Cd.t (eqN_t h2) ?_
      repeat (first | refine run ?_ | refine ct ?_ | refine cf ?_ | refine sk ?_ | refine la rfl ?_ | refine na fun _ _ _ => ?_ | refine sa rfl fun _ _ => ?_ | refine nk ?_ | refine mu ?_ | refine ac ?_ | refine ai ?_)
      by_cases hlf : stampW x < fl
      · rw [show Nat.min fl (stampW x) = stampW x from Nat.min_eq_right (by omega)] at k
        refine Cd.t (ltN_t hlf) ?_
        repeat (first | refine run ?_ | refine ct ?_ | refine cf ?_ | refine sk ?_ | refine la rfl ?_ | refine na fun _ _ _ => ?_ | refine sa rfl fun _ _ => ?_ | refine nk ?_ | refine mu ?_ | refine ac ?_ | refine ai ?_)
        refine Cd.f (by rw [h2]; rfl) ?_
        repeat (first | refine run ?_ | refine ct ?_ | refine cf ?_ | refine sk ?_ | refine la rfl ?_ | refine na fun _ _ _ => ?_ | refine sa rfl fun _ _ => ?_ | refine nk ?_ | refine mu ?_ | refine ac ?_ | refine ai ?_)
        try rw [addInt]
        refine inR_nat (by omega) ?_
        repeat (first | refine run ?_ | refine ct ?_ | refine cf ?_ | refine sk ?_ | refine la rfl ?_ | refine na fun _ _ _ => ?_ | refine sa rfl fun _ _ => ?_ | refine nk ?_ | refine mu ?_ | refine ac ?_ | refine ai ?_)
        rename_i H7 h7
        refine rCount_ok hc sl h7 fun H16 h16 => ?_
        repeat (first | refine run ?_ | refine ct ?_ | refine cf ?_ | refine sk ?_ | refine la rfl ?_ | refine na fun _ _ _ => ?_ | refine sa rfl fun _ _ => ?_ | refine nk ?_ | refine mu ?_ | refine ac ?_ | refine ai ?_)
        by_cases hlt : (i + 1) < cnt sl.count
        · simp only [if_pos hlt] at k
          refine Cd.f (leZ_f hlt) ?_
          repeat (first | refine run ?_ | refine ct ?_ | refine cf ?_ | refine sk ?_ | refine la rfl ?_ | refine na fun _ _ _ => ?_ | refine sa rfl fun _ _ => ?_ | refine nk ?_ | refine mu ?_ | refine ac ?_ | refine ai ?_)
          exact k snil v _ ((h16.nilV (e := tU) (s := 1)).ent (by repeat (first | exact eN _ | exact eZ | apply eC (by repeat (first | exact pH | apply pT)) | refine eD ?_)))
        · simp only [if_neg hlt, dscC, eq_self, if_true, List.cons_append, List.nil_append] at k
          refine Cd.t (leZ_t (by omega)) ?_
          repeat (first | refine run ?_ | refine ct ?_ | refine cf ?_ | refine sk ?_ | refine la rfl ?_ | refine na fun _ _ _ => ?_ | refine sa rfl fun _ _ => ?_ | refine nk ?_ | refine mu ?_ | refine ac ?_ | refine ai ?_)
          have hvv : Sat (Vec v tU 1 (rowsU told) :: _) H16 := h16.pull (by repeat (first | exact pH | apply pT))
          refine rRising_ok (v := v) (told := told) (fl := (stampW x)) hc hvv (fun H g => Vec.nums (Has.vec H g)) (by omega) fun w H17 h17 => ?_
          obtain ⟨pw, ew⟩ := (h17.has Has.vec).shape
          subst ew
          repeat (first | refine run ?_ | refine ct ?_ | refine cf ?_ | refine sk ?_ | refine la rfl ?_ | refine na fun _ _ _ => ?_ | refine sa rfl fun _ _ => ?_ | refine nk ?_ | refine mu ?_ | refine ac ?_ | refine ai ?_)
          refine stN h17 (Nat.le_of_ble_eq_true rfl) rfl fun H18 h18 => ?_
          repeat (first | refine run ?_ | refine ct ?_ | refine cf ?_ | refine sk ?_ | refine la rfl ?_ | refine na fun _ _ _ => ?_ | refine sa rfl fun _ _ => ?_ | refine nk ?_ | refine mu ?_ | refine ac ?_ | refine ai ?_)
          exact k _ v _ (Sat.ent (by assumption) (by repeat (first | exact eN _ | exact eZ | apply eC (by repeat (first | exact pH | apply pT)) | refine eD ?_)))
      · rw [show Nat.min fl (stampW x) = fl from Nat.min_eq_left (by omega)] at k
        refine Cd.f (ltN_f (by omega)) ?_
        repeat (first | refine run ?_ | refine ct ?_ | refine cf ?_ | refine sk ?_ | refine la rfl ?_ | refine na fun _ _ _ => ?_ | refine sa rfl fun _ _ => ?_ | refine nk ?_ | refine mu ?_ | refine ac ?_ | refine ai ?_)
        refine Cd.f (by rw [h2]; rfl) ?_
        repeat (first | refine run ?_ | refine ct ?_ | refine cf ?_ | refine sk ?_ | refine la rfl ?_ | refine na fun _ _ _ => ?_ | refine sa rfl fun _ _ => ?_ | refine nk ?_ | refine mu ?_ | refine ac ?_ | refine ai ?_)
        try rw [addInt]
        refine inR_nat (by omega) ?_
        repeat (first | refine run ?_ | refine ct ?_ | refine cf ?_ | refine sk ?_ | refine la rfl ?_ | refine na fun _ _ _ => ?_ | refine sa rfl fun _ _ => ?_ | refine nk ?_ | refine mu ?_ | refine ac ?_ | refine ai ?_)
        rename_i H7 h7
        refine rCount_ok hc sl h7 fun H16 h16 => ?_
        repeat (first | refine run ?_ | refine ct ?_ | refine cf ?_ | refine sk ?_ | refine la rfl ?_ | refine na fun _ _ _ => ?_ | refine sa rfl fun _ _ => ?_ | refine nk ?_ | refine mu ?_ | refine ac ?_ | refine ai ?_)
        by_cases hlt : (i + 1) < cnt sl.count
        · simp only [if_pos hlt] at k
          refine Cd.f (leZ_f hlt) ?_
          repeat (first | refine run ?_ | refine ct ?_ | refine cf ?_ | refine sk ?_ | refine la rfl ?_ | refine na fun _ _ _ => ?_ | refine sa rfl fun _ _ => ?_ | refine nk ?_ | refine mu ?_ | refine ac ?_ | refine ai ?_)
          exact k snil v _ ((h16.nilV (e := tU) (s := 1)).ent (by repeat (first | exact eN _ | exact eZ | apply eC (by repeat (first | exact pH | apply pT)) | refine eD ?_)))
        · simp only [if_neg hlt, dscC, eq_self, if_true, List.cons_append, List.nil_append] at k
          refine Cd.t (leZ_t (by omega)) ?_
          repeat (first | refine run ?_ | refine ct ?_ | refine cf ?_ | refine sk ?_ | refine la rfl ?_ | refine na fun _ _ _ => ?_ | refine sa rfl fun _ _ => ?_ | refine nk ?_ | refine mu ?_ | refine ac ?_ | refine ai ?_)
          have hvv : Sat (Vec v tU 1 (rowsU told) :: _) H16 := h16.pull (by repeat (first | exact pH | apply pT))
          refine rRising_ok (v := v) (told := told) (fl := fl) hc hvv (fun H g => Vec.nums (Has.vec H g)) (by omega) fun w H17 h17 => ?_
          obtain ⟨pw, ew⟩ := (h17.has Has.vec).shape
          subst ew
          repeat (first | refine run ?_ | refine ct ?_ | refine cf ?_ | refine sk ?_ | refine la rfl ?_ | refine na fun _ _ _ => ?_ | refine sa rfl fun _ _ => ?_ | refine nk ?_ | refine mu ?_ | refine ac ?_ | refine ai ?_)
          refine stN h17 (Nat.le_of_ble_eq_true rfl) rfl fun H18 h18 => ?_
          repeat (first | refine run ?_ | refine ct ?_ | refine cf ?_ | refine sk ?_ | refine la rfl ?_ | refine na fun _ _ _ => ?_ | refine sa rfl fun _ _ => ?_ | refine nk ?_ | refine mu ?_ | refine ac ?_ | refine ai ?_)
          exact k _ v _ (Sat.ent (by assumption) (by repeat (first | exact eN _ | exact eZ | apply eC (by repeat (first | exact pH | apply pT)) | refine eD ?_)))
    · simp only [if_neg h2] at k
      refine Cd.f (eqN_f h2) ?_
      repeat (first | refine run ?_ | refine ct ?_ | refine cf ?_ | refine sk ?_ | refine la rfl ?_ | refine na fun _ _ _ => ?_ | refine sa rfl fun _ _ => ?_ | refine nk ?_ | refine mu ?_ | refine ac ?_ | refine ai ?_)
      by_cases h3 : kindW x = 3
      · simp only [if_pos h3] at k
        refine Cd.t (eqN_t h3) ?_
        repeat (first | refine run ?_ | refine ct ?_ | refine cf ?_ | refine sk ?_ | refine la rfl ?_ | refine na fun _ _ _ => ?_ | refine sa rfl fun _ _ => ?_ | refine nk ?_ | refine mu ?_ | refine ac ?_ | refine ai ?_)
        rename_i H86 h86
        have hvv : Sat (Vec v tU 1 (rowsU told) :: _) H86 := h86.pull (by repeat (first | exact pH | apply pT))
        obtain ⟨pv, ev⟩ := (hvv.has Has.vec).shape
        clear hvv
        subst ev
        refine app_vec (new := [[u64 (stampW x)]]) h86 (by repeat (first | exact pH | apply pT)) el_u64 (by omega) sl_u64 (Src.cell (n := 1) (by rfl)) rfl (by simp) (by simp; omega) rfl fun v' H3 h3' => ?_
        rw [show rowsU told ++ [[u64 (stampW x)]] = rowsU (told ++ [stampW x]) from by simp] at h3'
        obtain ⟨pw, ew⟩ := (h3'.has Has.vec).shape
        subst ew
        repeat (first | refine run ?_ | refine ct ?_ | refine cf ?_ | refine sk ?_ | refine la rfl ?_ | refine na fun _ _ _ => ?_ | refine sa rfl fun _ _ => ?_ | refine nk ?_ | refine mu ?_ | refine ac ?_ | refine ai ?_)
        try rw [addInt]
        refine inR_nat (by omega) ?_
        repeat (first | refine run ?_ | refine ct ?_ | refine cf ?_ | refine sk ?_ | refine la rfl ?_ | refine na fun _ _ _ => ?_ | refine sa rfl fun _ _ => ?_ | refine nk ?_ | refine mu ?_ | refine ac ?_ | refine ai ?_)
        rename_i H94 h94
        generalize hv' : Value.slice pw _ _ = v' at *
        have hle : (told ++ [stampW x]).length ≤ 256 := by rw [List.length_append]; simp only [List.length_cons, List.length_nil]; omega
        refine rCount_ok hc sl h94 fun H16 h16 => ?_
        repeat (first | refine run ?_ | refine ct ?_ | refine cf ?_ | refine sk ?_ | refine la rfl ?_ | refine na fun _ _ _ => ?_ | refine sa rfl fun _ _ => ?_ | refine nk ?_ | refine mu ?_ | refine ac ?_ | refine ai ?_)
        by_cases hlt : (i + 1) < cnt sl.count
        · simp only [if_pos hlt] at k
          refine Cd.f (leZ_f hlt) ?_
          repeat (first | refine run ?_ | refine ct ?_ | refine cf ?_ | refine sk ?_ | refine la rfl ?_ | refine na fun _ _ _ => ?_ | refine sa rfl fun _ _ => ?_ | refine nk ?_ | refine mu ?_ | refine ac ?_ | refine ai ?_)
          exact k snil v' _ ((h16.nilV (e := tU) (s := 1)).ent (by repeat (first | exact eN _ | exact eZ | apply eC (by repeat (first | exact pH | apply pT)) | refine eD ?_)))
        · simp only [if_neg hlt, dscC, eq_self, if_true, List.cons_append, List.nil_append] at k
          refine Cd.t (leZ_t (by omega)) ?_
          repeat (first | refine run ?_ | refine ct ?_ | refine cf ?_ | refine sk ?_ | refine la rfl ?_ | refine na fun _ _ _ => ?_ | refine sa rfl fun _ _ => ?_ | refine nk ?_ | refine mu ?_ | refine ac ?_ | refine ai ?_)
          have hvv : Sat (Vec v' tU 1 (rowsU (told ++ [stampW x])) :: _) H16 := h16.pull (by repeat (first | exact pH | apply pT))
          refine rRising_ok (v := v') (told := (told ++ [stampW x])) (fl := fl) hc hvv (fun H g => Vec.nums (Has.vec H g)) (by omega) fun w H17 h17 => ?_
          obtain ⟨pw, ew⟩ := (h17.has Has.vec).shape
          subst ew
          repeat (first | refine run ?_ | refine ct ?_ | refine cf ?_ | refine sk ?_ | refine la rfl ?_ | refine na fun _ _ _ => ?_ | refine sa rfl fun _ _ => ?_ | refine nk ?_ | refine mu ?_ | refine ac ?_ | refine ai ?_)
          refine stN h17 (Nat.le_of_ble_eq_true rfl) rfl fun H18 h18 => ?_
          repeat (first | refine run ?_ | refine ct ?_ | refine cf ?_ | refine sk ?_ | refine la rfl ?_ | refine na fun _ _ _ => ?_ | refine sa rfl fun _ _ => ?_ | refine nk ?_ | refine mu ?_ | refine ac ?_ | refine ai ?_)
          exact k _ v' _ (Sat.ent (by assumption) (by repeat (first | exact eN _ | exact eZ | apply eC (by repeat (first | exact pH | apply pT)) | refine eD ?_)))
      · simp only [if_neg h3] at k
        refine Cd.f (eqN_f h3) ?_
        repeat (first | refine run ?_ | refine ct ?_ | refine cf ?_ | refine sk ?_ | refine la rfl ?_ | refine na fun _ _ _ => ?_ | refine sa rfl fun _ _ => ?_ | refine nk ?_ | refine mu ?_ | refine ac ?_ | refine ai ?_)
        try rw [addInt]
        refine inR_nat (by omega) ?_
        repeat (first | refine run ?_ | refine ct ?_ | refine cf ?_ | refine sk ?_ | refine la rfl ?_ | refine na fun _ _ _ => ?_ | refine sa rfl fun _ _ => ?_ | refine nk ?_ | refine mu ?_ | refine ac ?_ | refine ai ?_)
        rename_i H94 h94
        refine rCount_ok hc sl h94 fun H16 h16 => ?_
        repeat (first | refine run ?_ | refine ct ?_ | refine cf ?_ | refine sk ?_ | refine la rfl ?_ | refine na fun _ _ _ => ?_ | refine sa rfl fun _ _ => ?_ | refine nk ?_ | refine mu ?_ | refine ac ?_ | refine ai ?_)
        by_cases hlt : (i + 1) < cnt sl.count
        · simp only [if_pos hlt] at k
          refine Cd.f (leZ_f hlt) ?_
          repeat (first | refine run ?_ | refine ct ?_ | refine cf ?_ | refine sk ?_ | refine la rfl ?_ | refine na fun _ _ _ => ?_ | refine sa rfl fun _ _ => ?_ | refine nk ?_ | refine mu ?_ | refine ac ?_ | refine ai ?_)
          exact k snil v _ ((h16.nilV (e := tU) (s := 1)).ent (by repeat (first | exact eN _ | exact eZ | apply eC (by repeat (first | exact pH | apply pT)) | refine eD ?_)))
        · simp only [if_neg hlt, dscC, eq_self, if_true, List.cons_append, List.nil_append] at k
          refine Cd.t (leZ_t (by omega)) ?_
          repeat (first | refine run ?_ | refine ct ?_ | refine cf ?_ | refine sk ?_ | refine la rfl ?_ | refine na fun _ _ _ => ?_ | refine sa rfl fun _ _ => ?_ | refine nk ?_ | refine mu ?_ | refine ac ?_ | refine ai ?_)
          have hvv : Sat (Vec v tU 1 (rowsU told) :: _) H16 := h16.pull (by repeat (first | exact pH | apply pT))
          refine rRising_ok (v := v) (told := told) (fl := fl) hc hvv (fun H g => Vec.nums (Has.vec H g)) (by omega) fun w H17 h17 => ?_
          obtain ⟨pw, ew⟩ := (h17.has Has.vec).shape
          subst ew
          repeat (first | refine run ?_ | refine ct ?_ | refine cf ?_ | refine sk ?_ | refine la rfl ?_ | refine na fun _ _ _ => ?_ | refine sa rfl fun _ _ => ?_ | refine nk ?_ | refine mu ?_ | refine ac ?_ | refine ai ?_)
          refine stN h17 (Nat.le_of_ble_eq_true rfl) rfl fun H18 h18 => ?_
          repeat (first | refine run ?_ | refine ct ?_ | refine cf ?_ | refine sk ?_ | refine la rfl ?_ | refine na fun _ _ _ => ?_ | refine sa rfl fun _ _ => ?_ | refine nk ?_ | refine mu ?_ | refine ac ?_ | refine ai ?_)
          exact k _ v _ (Sat.ent (by assumption) (by repeat (first | exact eN _ | exact eZ | apply eC (by repeat (first | exact pH | apply pT)) | refine eD ?_)))
end Go.Proofs.YtipbbnoepphdkaaGreat

set_option linter.unusedVariables false
set_option linter.unusedSimpArgs false
namespace Go.Proofs.YtipbbnoepphdkaaGreat
open Go Go.CM
attribute [local irreducible] AsBool AsWant AsNat AsInt AsCnt AsPtr AsSlc AsLen AsStr AsAgg AsTup AsFn AsIfc Nth Sc NotNil IsNil Must Cd codeW funW Sat SatL wrapN subM mkRow ltZ leZ ltN leN
variable {con : CallT}
theorem el_slot : elemOk Tryz.prog 87 202 3 24 = true := by kernel_rfl
theorem sl_slot : ∃ e, Tryz.prog.underlying 87 = some (.slice e) := ⟨202, by kernel_rfl⟩
/-- What the first n slots hold. -/
def slotRows (sl : SlotsS) (M : Mem) (n : Nat) : List (List Value) := (List.range n).map fun i => unpackL (M.peek (addM sl.first i))
theorem slotRows_succ (sl : SlotsS) (M : Mem) (n : Nat) : slotRows sl M (n + 1) = slotRows sl M n ++ [unpackL (M.peek (addM sl.first n))] := by
  unfold slotRows
  rw [List.range_succ, List.map_append]
  rfl
theorem slotRows_len (sl : SlotsS) (M : Mem) (n : Nat) : (slotRows sl M n).length = n := by simp [slotRows]
theorem annSlots_ok (hc : Con con lives) (sl : SlotsS) {L R : List HP} {H : CH} {m : Nat} {M : Mem} {K : KP} (hs : Sat L H) (hm : Pull L (MemP m M) R) (hb : M.Bd)
    (k : ∀ w H1, Sat (Vec w 202 3 (slotRows sl M (cnt sl.count)) :: L) H1 → K w H1) : Call1 Tryz.prog con 30 [ptr m 0, .agg ⟨[u64 sl.cam, u64 sl.first, i64 sl.count, u64 sl.most]⟩] H K := by
  refine call_of (hc _ _ _ rfl) ?_
  rw [annSlots_W]
  repeat (first | refine run ?_ | refine ct ?_ | refine cf ?_ | refine sk ?_ | refine la rfl ?_ | refine na fun _ _ _ => ?_ | refine sa rfl fun _ _ => ?_ | refine nk ?_ | refine mu ?_ | refine ac ?_ | refine ai ?_)
  rename_i p H2 h2
  refine annCount_ok hc sl h2 fun H8 h8 => ?_
  have hcl := cnt_le sl.count
  refine LoopC.indP (n := 200) (id := 0) (fun σ1 H1 => ∃ w, σ1 5 = w ∧ Sat (Vec w 202 3 (slotRows sl M (cnt sl.count)) :: L) H1) (by kernel_rfl)
    (fun (i : Nat) σ1 H1 => i ≤ cnt sl.count ∧ ∃ w, σ1 0 = ptr m 0 ∧ σ1 3 = ptr p 0 ∧ σ1 5 = w ∧ σ1 10 = iN (cnt sl.count) ∧ σ1 11 = iN i ∧ Sat (Vec w 202 3 (slotRows sl M i) :: Own p [u64 sl.cam, u64 sl.first, i64 sl.count, u64 sl.most] :: L) H1)
    (fun i => cnt sl.count - i) (fun i σ1 H1 hI => ?_) (fun σ1 H1 hP => ?_) 0 _ _ ⟨Nat.zero_le _, snil, rfl, rfl, rfl, rfl, rfl, h8.nilV⟩
  · obtain ⟨hi, w, a0, a3, a5, a10, a11, hs1⟩ := hI
    rw [annSlotsL_W]
    simp only [a0, a3, a5, a10, a11]
    repeat (first | refine run ?_ | refine ct ?_ | refine cf ?_ | refine sk ?_ | refine la rfl ?_ | refine na fun _ _ _ => ?_ | refine sa rfl fun _ _ => ?_ | refine nk ?_ | refine mu ?_ | refine ac ?_ | refine ai ?_)
    by_cases h : i < cnt sl.count
    · refine Cd.t (ltZ_t h) ?_
      repeat (first | refine run ?_ | refine ct ?_ | refine cf ?_ | refine sk ?_ | refine la rfl ?_ | refine na fun _ _ _ => ?_ | refine sa rfl fun _ _ => ?_ | refine nk ?_ | refine mu ?_ | refine ac ?_ | refine ai ?_)
      refine annCell_ok hc sl hs1 (by omega) fun H10 h10 => ?_
      refine memPeek_ok hc h10 (Pull.there (Pull.there hm)) ?_
      refine wordUnpack_ok hc h10 (hb.peek _) fun H14 h14 => ?_
      repeat (first | refine run ?_ | refine ct ?_ | refine cf ?_ | refine sk ?_ | refine la rfl ?_ | refine na fun _ _ _ => ?_ | refine sa rfl fun _ _ => ?_ | refine nk ?_ | refine mu ?_ | refine ac ?_ | refine ai ?_)
      rename_i p2 H20 h20
      refine app_vec (new := [unpackL (M.peek (addM sl.first i))]) h20 (by repeat (first | exact pH | apply pT)) el_slot (by omega) sl_slot (Src.cell (n := 3) (by rfl)) rfl (by simp) (by rw [slotRows_len]; omega) rfl fun w' H3 h3 => ?_
      rw [← slotRows_succ] at h3
      repeat (first | refine run ?_ | refine ct ?_ | refine cf ?_ | refine sk ?_ | refine la rfl ?_ | refine na fun _ _ _ => ?_ | refine sa rfl fun _ _ => ?_ | refine nk ?_ | refine mu ?_ | refine ac ?_ | refine ai ?_)
      try rw [addInt]
      refine inR_nat (by omega) ?_
      repeat (first | refine run ?_ | refine ct ?_ | refine cf ?_ | refine sk ?_ | refine la rfl ?_ | refine na fun _ _ _ => ?_ | refine sa rfl fun _ _ => ?_ | refine nk ?_ | refine mu ?_ | refine ac ?_ | refine ai ?_)
      show ∃ y, _ ∧ _
      exact ⟨i + 1, by omega, h, w', a0, a3, rfl, a10, rfl, h3.ent (by repeat (first | exact eN _ | exact eZ | apply eC (by repeat (first | exact pH | apply pT)) | refine eD ?_))⟩
    · refine Cd.f (ltZ_f (by omega)) ?_
      show _ = _ ∧ _
      obtain rfl : i = cnt sl.count := by omega
      exact ⟨rfl, w, a5, hs1.ent (by repeat (first | exact eN _ | exact eZ | apply eC (by repeat (first | exact pH | apply pT)) | refine eD ?_))⟩
  · obtain ⟨w, a5, hs1⟩ := hP
    show Cd _ _ _
    refine Cd.t rfl ?_
    rw [a5]
    exact k w H1 hs1
theorem rSlots_ok (hc : Con con lives) (sl : SlotsS) {L R : List HP} {H : CH} {m : Nat} {M : Mem} {K : KP} (hs : Sat L H) (hm : Pull L (RefP m M) R) (hb : M.Bd)
    (k : ∀ w H1, Sat (Vec w 202 3 (slotRows sl M (cnt sl.count)) :: L) H1 → K w H1) : Call1 Tryz.prog con 31 [ptr m 0, .agg ⟨[u64 sl.cam, u64 sl.first, i64 sl.count, u64 sl.most]⟩] H K := by
  refine call_of (hc _ _ _ rfl) ?_
  rw [rSlots_W]
  repeat (first | refine run ?_ | refine ct ?_ | refine cf ?_ | refine sk ?_ | refine la rfl ?_ | refine na fun _ _ _ => ?_ | refine sa rfl fun _ _ => ?_ | refine nk ?_ | refine mu ?_ | refine ac ?_ | refine ai ?_)
  rename_i p H2 h2
  have hcl := cnt_le sl.count
  refine LoopC.indP (n := 200) (id := 0) (fun σ1 H1 => ∃ w, σ1 5 = w ∧ Sat (Vec w 202 3 (slotRows sl M (cnt sl.count)) :: L) H1) (by kernel_rfl)
    (fun (i : Nat) σ1 H1 => i ≤ cnt sl.count ∧ ∃ w, σ1 0 = ptr m 0 ∧ σ1 3 = ptr p 0 ∧ σ1 5 = w ∧ σ1 6 = iN i ∧ Sat (Vec w 202 3 (slotRows sl M i) :: Own p [u64 sl.cam, u64 sl.first, i64 sl.count, u64 sl.most] :: L) H1)
    (fun i => cnt sl.count - i) (fun i σ1 H1 hI => ?_) (fun σ1 H1 hP => ?_) 0 _ _ ⟨Nat.zero_le _, snil, rfl, rfl, rfl, rfl, h2.nilV⟩
  · obtain ⟨hi, w, a0, a3, a5, a6, hs1⟩ := hI
    rw [rSlotsL_W]
    simp only [a0, a3, a5, a6]
    repeat (first | refine run ?_ | refine ct ?_ | refine cf ?_ | refine sk ?_ | refine la rfl ?_ | refine na fun _ _ _ => ?_ | refine sa rfl fun _ _ => ?_ | refine nk ?_ | refine mu ?_ | refine ac ?_ | refine ai ?_)
    refine rCount_ok hc sl hs1 fun H9 hs1 => ?_
    repeat (first | refine run ?_ | refine ct ?_ | refine cf ?_ | refine sk ?_ | refine la rfl ?_ | refine na fun _ _ _ => ?_ | refine sa rfl fun _ _ => ?_ | refine nk ?_ | refine mu ?_ | refine ac ?_ | refine ai ?_)
    by_cases h : i < cnt sl.count
    · refine Cd.t (ltZ_t h) ?_
      repeat (first | refine run ?_ | refine ct ?_ | refine cf ?_ | refine sk ?_ | refine la rfl ?_ | refine na fun _ _ _ => ?_ | refine sa rfl fun _ _ => ?_ | refine nk ?_ | refine mu ?_ | refine ac ?_ | refine ai ?_)
      refine Must.mk (cv_small (by omega)) ?_
      repeat (first | refine run ?_ | refine ct ?_ | refine cf ?_ | refine sk ?_ | refine la rfl ?_ | refine na fun _ _ _ => ?_ | refine sa rfl fun _ _ => ?_ | refine nk ?_ | refine mu ?_ | refine ac ?_ | refine ai ?_)
      rw [wrapN_small (by omega)]
      refine refPeek_ok (a := addM sl.first i) hc hs1 (Pull.there (Pull.there hm)) ?_
      refine rUnpack_ok hc hs1 (hb.peek _) fun H14 h14 => ?_
      repeat (first | refine run ?_ | refine ct ?_ | refine cf ?_ | refine sk ?_ | refine la rfl ?_ | refine na fun _ _ _ => ?_ | refine sa rfl fun _ _ => ?_ | refine nk ?_ | refine mu ?_ | refine ac ?_ | refine ai ?_)
      rename_i p2 H20 h20
      refine app_vec (new := [unpackL (M.peek (addM sl.first i))]) h20 (by repeat (first | exact pH | apply pT)) el_slot (by omega) sl_slot (Src.cell (n := 3) (by rfl)) rfl (by simp) (by rw [slotRows_len]; omega) rfl fun w' H3 h3 => ?_
      rw [← slotRows_succ] at h3
      repeat (first | refine run ?_ | refine ct ?_ | refine cf ?_ | refine sk ?_ | refine la rfl ?_ | refine na fun _ _ _ => ?_ | refine sa rfl fun _ _ => ?_ | refine nk ?_ | refine mu ?_ | refine ac ?_ | refine ai ?_)
      try rw [addInt]
      refine inR_nat (by omega) ?_
      repeat (first | refine run ?_ | refine ct ?_ | refine cf ?_ | refine sk ?_ | refine la rfl ?_ | refine na fun _ _ _ => ?_ | refine sa rfl fun _ _ => ?_ | refine nk ?_ | refine mu ?_ | refine ac ?_ | refine ai ?_)
      show ∃ y, _ ∧ _
      exact ⟨i + 1, by omega, h, w', a0, a3, rfl, rfl, h3.ent (by repeat (first | exact eN _ | exact eZ | apply eC (by repeat (first | exact pH | apply pT)) | refine eD ?_))⟩
    · refine Cd.f (ltZ_f (by omega)) ?_
      show _ = _ ∧ _
      obtain rfl : i = cnt sl.count := by omega
      exact ⟨rfl, w, a5, hs1.ent (by repeat (first | exact eN _ | exact eZ | apply eC (by repeat (first | exact pH | apply pT)) | refine eD ?_))⟩
  · obtain ⟨w, a5, hs1⟩ := hP
    show Cd _ _ _
    refine Cd.t rfl ?_
    rw [a5]
    exact k w H1 hs1
end Go.Proofs.YtipbbnoepphdkaaGreat

set_option linter.unusedVariables false
set_option linter.unusedSimpArgs false
namespace Go.Proofs.YtipbbnoepphdkaaGreat
open Go Go.CM
attribute [local irreducible] AsBool AsWant AsNat AsInt AsCnt AsPtr AsSlc AsLen AsStr AsAgg AsTup AsFn AsIfc Nth Sc NotNil IsNil Must Cd codeW funW Sat SatL wrapN subM mkRow ltZ leZ ltN leN
variable {con : CallT}
def sl0 : SlotsS := ⟨0, 0, 0, 0⟩
end Go.Proofs.YtipbbnoepphdkaaGreat

set_option linter.unusedVariables false
set_option linter.unusedSimpArgs false
namespace Go.Proofs.YtipbbnoepphdkaaGreat
open Go Go.CM
attribute [local irreducible] AsBool AsWant AsNat AsInt AsCnt AsPtr AsSlc AsLen AsStr AsAgg AsTup AsFn AsIfc Nth Sc NotNil IsNil Must Cd codeW funW Sat SatL wrapN subM mkRow ltZ leZ ltN leN
variable {con : CallT}
/-- The block of the document's Proc. -/
def d13 (kind : Int) (sn : SnapS) (lt : LetS) (sc : ScanS) (w v : Value) (t : List Value) : List Value := i64 kind :: (dsC sn ++ (dlC lt ++ (dscC sc w v ++ t)))
abbrev t13 (h st er nf nv dn : Value) : List Value := [h, st, er, nf, nv, dn]
set_option maxRecDepth 100000 in
theorem rProc0_ok (hc : Con con lives) (s : SnapS) {lt : LetS} {sc : ScanS} {w v h st er nf nv dn : Value} {L R1 R2 : List HP} {H : CH} {p m : Nat} {th : Int} {M : Mem} {K : KP} (hs : Sat L H) (hm : Pull L (RefP m M) R1) (hp : Pull R1 (Own p (d13 (Int.ofNat 0) s lt sc w v (t13 h st er nf nv dn))) R2)
    (ht : M.tr.length < 1000000000) (hb : M.Bd) (hok : s.Ok)
    (k : ∀ H1 b, b = eqZ (Int.ofNat (s.step M th).1.at_) (Int.ofNat 8) → Sat (Own p (d13 (Int.ofNat 0) (s.step M th).1 lt sc w v (t13 (u64 (s.step M th).1.handle) (u64 (s.step M th).1.stamp) (iN (s.step M th).1.err) nf nv (.bool b))) :: RefP m (s.step M th).2 :: R2) H1 → K (.bool b) H1) :
    Call1 Tryz.prog con 25 [ptr p 0, ptr m 0, i64 th] H K := by
  refine call_of (hc _ _ _ rfl) ?_
  rw [rProcStep13_W]
  have hs0 := hs.takes (.cons hm (.cons hp .nil))
  simp only [List.cons_append, List.nil_append] at hs0
  clear hs hm hp
  repeat (first | refine run ?_ | refine ct ?_ | refine cf ?_ | refine sk ?_ | refine la rfl ?_ | refine na fun _ _ _ => ?_ | refine sa rfl fun _ _ => ?_ | refine nk ?_ | refine mu ?_ | refine ac ?_ | refine ai ?_)
  replace hs0 : Sat (RefP m M :: Own p (i64 (Int.ofNat 0) :: (dsC s ++ (dlC lt ++ (dscC sc w v ++ t13 h st er nf nv dn)))) :: R2) H := hs0
  refine rSnapStep_ok hc s hs0 (by repeat (first | exact pH | apply pT)) (by repeat (first | exact pH | apply pT)) ht hb hok fun H4 h4 => ?_
  replace h4 : Sat (Own p (d13 (Int.ofNat 0) (s.step M th).1 lt sc w v (t13 h st er nf nv dn)) :: RefP m (s.step M th).2 :: R2) H4 := h4
  clear hs0
  generalize eqZ (Int.ofNat (s.step M th).1.at_) (Int.ofNat 8) = b at *
  generalize (s.step M th).1 = s' at *
  repeat (first | refine run ?_ | refine ct ?_ | refine cf ?_ | refine sk ?_ | refine la rfl ?_ | refine na fun _ _ _ => ?_ | refine sa rfl fun _ _ => ?_ | refine nk ?_ | refine mu ?_ | refine ac ?_ | refine ai ?_)
  exact k _ b rfl (Sat.ent (by assumption) (by repeat (first | exact eN _ | exact eZ | apply eC (by repeat (first | exact pH | apply pT)) | refine eD ?_)))
def c13 (kind : Int) (sn : SnapS) (i : Nat) : Value := ((i64 kind :: dsC sn)[i]?).getD snil
set_option maxRecDepth 100000 in
theorem rProc1_ok (hc : Con con lives) (s : LetS) {kind : Int} {sn : SnapS} {sc : ScanS} {w v h st er nf nv dn : Value} {L R1 R2 : List HP} {H : CH} {p m : Nat} {th : Int} {M : Mem} {K : KP} (hs : Sat L H) (hm : Pull L (RefP m M) R1) (hp : Pull R1 (Own p (d13 kind sn s sc w v (t13 h st er nf nv dn))) R2)
    (hk0 : eqZ kind (Int.ofNat 0) = false) (hk2 : eqZ kind (Int.ofNat 2) = false) (ht : M.tr.length < 1000000000) (hb : M.Bd) (hh : s.h < 18446744073709551616) (hat : s.at_ < 2)
    (k : ∀ H1 b, b = eqZ (Int.ofNat (s.step M th).1.at_) (Int.ofNat 2) → Sat (Own p (d13 kind sn (s.step M th).1 sc w v (t13 h st (iN (s.step M th).1.err) nf nv (.bool b))) :: RefP m (s.step M th).2 :: R2) H1 → K (.bool b) H1) :
    Call1 Tryz.prog con 25 [ptr p 0, ptr m 0, i64 th] H K := by
  refine call_of (hc _ _ _ rfl) ?_
  rw [rProcStep13_W]
  have hs0 := hs.takes (.cons hm (.cons hp .nil))
  simp only [List.cons_append, List.nil_append] at hs0
  clear hs hm hp
  repeat (first | refine run ?_ | refine ct ?_ | refine cf ?_ | refine sk ?_ | refine la rfl ?_ | refine na fun _ _ _ => ?_ | refine sa rfl fun _ _ => ?_ | refine nk ?_ | refine mu ?_ | refine ac ?_ | refine ai ?_)
  refine Cd.f hk0 ?_
  repeat (first | refine run ?_ | refine ct ?_ | refine cf ?_ | refine sk ?_ | refine la rfl ?_ | refine na fun _ _ _ => ?_ | refine sa rfl fun _ _ => ?_ | refine nk ?_ | refine mu ?_ | refine ac ?_ | refine ai ?_)
  refine Cd.f hk2 ?_
  repeat (first | refine run ?_ | refine ct ?_ | refine cf ?_ | refine sk ?_ | refine la rfl ?_ | refine na fun _ _ _ => ?_ | refine sa rfl fun _ _ => ?_ | refine nk ?_ | refine mu ?_ | refine ac ?_ | refine ai ?_)
  replace hs0 : Sat (RefP m M :: Own p (pre13 (c13 kind sn) (dlC s ++ (dscC sc w v ++ t13 h st er nf nv dn))) :: R2) H := hs0
  refine rLetStep_ok hc s hs0 (by repeat (first | exact pH | apply pT)) (by repeat (first | exact pH | apply pT)) ht hb hh hat fun H4 h4 => ?_
  replace h4 : Sat (Own p (d13 kind sn (s.step M th).1 sc w v (t13 h st er nf nv dn)) :: RefP m (s.step M th).2 :: R2) H4 := h4
  clear hs0
  generalize eqZ (Int.ofNat (s.step M th).1.at_) (Int.ofNat 2) = b at *
  generalize (s.step M th).1 = s' at *
  repeat (first | refine run ?_ | refine ct ?_ | refine cf ?_ | refine sk ?_ | refine la rfl ?_ | refine na fun _ _ _ => ?_ | refine sa rfl fun _ _ => ?_ | refine nk ?_ | refine mu ?_ | refine ac ?_ | refine ai ?_)
  exact k _ b rfl (Sat.ent (by assumption) (by repeat (first | exact eN _ | exact eZ | apply eC (by repeat (first | exact pH | apply pT)) | refine eD ?_)))
def c23 (kind : Int) (sn : SnapS) (lt : LetS) (i : Nat) : Value := ((i64 kind :: (dsC sn ++ dlC lt))[i]?).getD snil
set_option maxRecDepth 100000 in
theorem rProc2_ok (hc : Con con lives) (s : ScanS) {sn : SnapS} {lt : LetS} {v h st er nf nv dn : Value} {L R1 R2 R3 : List HP} {H : CH} {p m : Nat} {th : Int} {M : Mem} {K : KP} (hs : Sat L H) (hm : Pull L (RefP m M) R1) (hp : Pull R1 (Own p (d13 (Int.ofNat 2) sn lt s snil v (t13 h st er nf nv dn))) R2) (hq : Pull R2 (Vec v tU 1 (rowsU s.told)) R3)
    (ht : M.tr.length < 1000000000) (hb : M.Bd) (hat : s.at_ < 2) (hi : s.i ≤ 256) (hi1 : s.at_ = 1 → s.i < 256) (htl : s.told.length ≤ s.i) (hne : s.need = [])
    (k : ∀ w v' H1 b, b = eqZ (Int.ofNat (s.step M th).1.at_) (Int.ofNat 2) → Sat (Vec w tU 1 (rowsU (s.step M th).1.need) :: Vec v' tU 1 (rowsU (s.step M th).1.told) :: Own p (d13 (Int.ofNat 2) sn lt (s.step M th).1 w v' (t13 h st er (u64 (if (s.step M th).1.at_ = 2 then (s.step M th).1.fl else 0)) w (.bool b))) :: RefP m (s.step M th).2 :: R3) H1 → K (.bool b) H1) :
    Call1 Tryz.prog con 25 [ptr p 0, ptr m 0, i64 th] H K := by
  refine call_of (hc _ _ _ rfl) ?_
  rw [rProcStep13_W]
  have hs0 := hs.takes (.cons hm (.cons hp (.cons hq .nil)))
  simp only [List.cons_append, List.nil_append] at hs0
  clear hs hm hp hq
  repeat (first | refine run ?_ | refine ct ?_ | refine cf ?_ | refine sk ?_ | refine la rfl ?_ | refine na fun _ _ _ => ?_ | refine sa rfl fun _ _ => ?_ | refine nk ?_ | refine mu ?_ | refine ac ?_ | refine ai ?_)
  replace hs0 : Sat (RefP m M :: Own p (pre23 (c23 (Int.ofNat 2) sn lt) (dscC s snil v ++ t13 h st er nf nv dn)) :: Vec v tU 1 (rowsU s.told) :: R3) H := hs0
  refine rScanStep_ok hc s hs0 (by repeat (first | exact pH | apply pT)) (by repeat (first | exact pH | apply pT)) (by repeat (first | exact pH | apply pT)) ht hb hat hi hi1 htl hne fun w v' H4 h4 => ?_
  replace h4 : Sat (Vec w tU 1 (rowsU (s.step M th).1.need) :: Vec v' tU 1 (rowsU (s.step M th).1.told) :: Own p (d13 (Int.ofNat 2) sn lt (s.step M th).1 w v' (t13 h st er nf nv dn)) :: RefP m (s.step M th).2 :: R3) H4 := h4
  clear hs0
  generalize eqZ (Int.ofNat (s.step M th).1.at_) (Int.ofNat 2) = b at *
  generalize (s.step M th).1 = s' at *
  obtain ⟨pw, ew⟩ := (h4.has Has.vec).shape
  subst ew
  repeat (first | refine run ?_ | refine ct ?_ | refine cf ?_ | refine sk ?_ | refine la rfl ?_ | refine na fun _ _ _ => ?_ | refine sa rfl fun _ _ => ?_ | refine nk ?_ | refine mu ?_ | refine ac ?_ | refine ai ?_)
  refine stN (by assumption) (Nat.le_of_ble_eq_true rfl) rfl fun H6 h6 => ?_
  repeat (first | refine run ?_ | refine ct ?_ | refine cf ?_ | refine sk ?_ | refine la rfl ?_ | refine na fun _ _ _ => ?_ | refine sa rfl fun _ _ => ?_ | refine nk ?_ | refine mu ?_ | refine ac ?_ | refine ai ?_)
  exact k _ v' _ b rfl (Sat.ent (by assumption) (by repeat (first | exact eN _ | exact eZ | apply eC (by repeat (first | exact pH | apply pT)) | refine eD ?_)))
end Go.Proofs.YtipbbnoepphdkaaGreat

set_option linter.unusedVariables false
set_option linter.unusedSimpArgs false
namespace Go.Proofs.YtipbbnoepphdkaaGreat
open Go Go.CM
attribute [local irreducible] AsBool AsWant AsNat AsInt AsCnt AsPtr AsSlc AsLen AsStr AsAgg AsTup AsFn AsIfc Nth Sc NotNil IsNil Must Cd codeW funW Sat SatL wrapN subM mkRow ltZ leZ ltN leN
variable {con : CallT}
def scan0 (sl : SlotsS) : ScanS := ⟨sl, 0, 0, 0, [], []⟩
def z13 : List Value := t13 (u64 0) (u64 0) (iN 0) (u64 0) snil (.bool false)
/-- The handle that a call is about. -/
def bh (kind : Int) (h : Nat) (hd : List Nat) : Nat := if ltZ kind (Int.ofNat 0) || ltZ (Int.ofNat 2) kind then hd.getD h 0 else h
set_option maxRecDepth 100000 in
theorem rBegin13_ok (hc : Con con lives) (sl : SlotsS) {kind : Int} {h et : Nat} {v : Value} {rows : List (List Value)} {hd : List Nat} {L : List HP} {H : CH} {K : KP} (hs : Sat L H) (hv : Has L (Vec v et 6 rows)) (hl : rows.length ≤ 1000000000) (hln : hd.length = rows.length)
    (hr : ∀ (i : Nat) row x, rows[i]? = some row → hd[i]? = some x → row[0]? = some (u64 x))
    (k : ∀ p H1, Sat (Own p (d13 kind (snap0 sl) (let0 sl (bh kind h hd)) (scan0 sl) snil snil z13) :: L) H1 → K (ptr p 0) H1) : Call1 Tryz.prog con 23 [.agg ⟨[u64 sl.cam, u64 sl.first, i64 sl.count, u64 sl.most]⟩, .agg ⟨[i64 kind, u64 h]⟩, v] H K := by
  refine call_of (hc _ _ _ rfl) ?_
  rw [rBegin13_W]
  obtain ⟨pv, ev⟩ := (hs.has hv).shape
  subst ev
  repeat (first | refine run ?_ | refine ct ?_ | refine cf ?_ | refine sk ?_ | refine la rfl ?_ | refine na fun _ _ _ => ?_ | refine sa rfl fun _ _ => ?_ | refine nk ?_ | refine mu ?_ | refine ac ?_ | refine ai ?_)
  cases hk : ltZ kind (Int.ofNat 0) with
  | true =>
    refine Cd.t rfl ?_
    have hkk : (ltZ kind (Int.ofNat 0) || ltZ (Int.ofNat 2) kind) = true := by rw [hk]; rfl
    repeat (first | refine run ?_ | refine ct ?_ | refine cf ?_ | refine sk ?_ | refine la rfl ?_ | refine na fun _ _ _ => ?_ | refine sa rfl fun _ _ => ?_ | refine nk ?_ | refine mu ?_ | refine ac ?_ | refine ai ?_)
    refine Must.mk (cv_small (by omega)) ?_
    rw [wrapN_small (by omega)]
    repeat (first | refine run ?_ | refine ct ?_ | refine cf ?_ | refine sk ?_ | refine la rfl ?_ | refine na fun _ _ _ => ?_ | refine sa rfl fun _ _ => ?_ | refine nk ?_ | refine mu ?_ | refine ac ?_ | refine ai ?_)
    by_cases hlt : h < rows.length
    · refine Cd.t (ltN_t hlt) ?_
      obtain ⟨row, hrow⟩ : ∃ row, rows[h]? = some row := ⟨_, List.getElem?_eq_getElem hlt⟩
      obtain ⟨x, hx⟩ : ∃ x, hd[h]? = some x := ⟨_, List.getElem?_eq_getElem (by omega)⟩
      obtain ⟨bv, ev, _⟩ := (hs.has hv).slot hrow
      injection ev with ev _ _
      subst ev
      repeat (first | refine run ?_ | refine ct ?_ | refine cf ?_ | refine sk ?_ | refine la rfl ?_ | refine na fun _ _ _ => ?_ | refine sa rfl fun _ _ => ?_ | refine nk ?_ | refine mu ?_ | refine ac ?_ | refine ai ?_)
      refine Must.mk (ltN_t hlt) ?_
      refine ldVec (by assumption) (Has.skip (Has.skip hv)) rfl hrow (j := 0) (by show 0 + h * 6 + 0 = _; omega) (by omega) (hr h row x hrow hx) ?_
      have e : bh kind h hd = x := by
        unfold bh
        rw [hkk, if_pos rfl, List.getD_eq_getElem?_getD, hx]; rfl
      rw [e] at k
      repeat (first | refine run ?_ | refine ct ?_ | refine cf ?_ | refine sk ?_ | refine la rfl ?_ | refine na fun _ _ _ => ?_ | refine sa rfl fun _ _ => ?_ | refine nk ?_ | refine mu ?_ | refine ac ?_ | refine ai ?_)
      exact k _ _ (Sat.ent (by assumption) (by repeat (first | exact eN _ | exact eZ | apply eC (by repeat (first | exact pH | apply pT)) | refine eD ?_)))
    · refine Cd.f (ltN_f (by omega)) ?_
      have e : bh kind h hd = 0 := by
        unfold bh
        rw [hkk, if_pos rfl, List.getD_eq_getElem?_getD, List.getElem?_eq_none (by omega)]; rfl
      rw [e] at k
      repeat (first | refine run ?_ | refine ct ?_ | refine cf ?_ | refine sk ?_ | refine la rfl ?_ | refine na fun _ _ _ => ?_ | refine sa rfl fun _ _ => ?_ | refine nk ?_ | refine mu ?_ | refine ac ?_ | refine ai ?_)
      exact k _ _ (Sat.ent (by assumption) (by repeat (first | exact eN _ | exact eZ | apply eC (by repeat (first | exact pH | apply pT)) | refine eD ?_)))
  | false =>
    refine Cd.f rfl ?_
    repeat (first | refine run ?_ | refine ct ?_ | refine cf ?_ | refine sk ?_ | refine la rfl ?_ | refine na fun _ _ _ => ?_ | refine sa rfl fun _ _ => ?_ | refine nk ?_ | refine mu ?_ | refine ac ?_ | refine ai ?_)
    cases hk2 : ltZ (Int.ofNat 2) kind with
    | true =>
      have hkk : (ltZ kind (Int.ofNat 0) || ltZ (Int.ofNat 2) kind) = true := by rw [hk2, Bool.or_true]
      refine Cd.t rfl ?_
      repeat (first | refine run ?_ | refine ct ?_ | refine cf ?_ | refine sk ?_ | refine la rfl ?_ | refine na fun _ _ _ => ?_ | refine sa rfl fun _ _ => ?_ | refine nk ?_ | refine mu ?_ | refine ac ?_ | refine ai ?_)
      refine Must.mk (cv_small (by omega)) ?_
      rw [wrapN_small (by omega)]
      repeat (first | refine run ?_ | refine ct ?_ | refine cf ?_ | refine sk ?_ | refine la rfl ?_ | refine na fun _ _ _ => ?_ | refine sa rfl fun _ _ => ?_ | refine nk ?_ | refine mu ?_ | refine ac ?_ | refine ai ?_)
      by_cases hlt : h < rows.length
      · refine Cd.t (ltN_t hlt) ?_
        obtain ⟨row, hrow⟩ : ∃ row, rows[h]? = some row := ⟨_, List.getElem?_eq_getElem hlt⟩
        obtain ⟨x, hx⟩ : ∃ x, hd[h]? = some x := ⟨_, List.getElem?_eq_getElem (by omega)⟩
        obtain ⟨bv, ev, _⟩ := (hs.has hv).slot hrow
        injection ev with ev _ _
        subst ev
        repeat (first | refine run ?_ | refine ct ?_ | refine cf ?_ | refine sk ?_ | refine la rfl ?_ | refine na fun _ _ _ => ?_ | refine sa rfl fun _ _ => ?_ | refine nk ?_ | refine mu ?_ | refine ac ?_ | refine ai ?_)
        refine Must.mk (ltN_t hlt) ?_
        refine ldVec (by assumption) (Has.skip (Has.skip hv)) rfl hrow (j := 0) (by show 0 + h * 6 + 0 = _; omega) (by omega) (hr h row x hrow hx) ?_
        have e : bh kind h hd = x := by
          unfold bh
          rw [hkk, if_pos rfl, List.getD_eq_getElem?_getD, hx]; rfl
        rw [e] at k
        repeat (first | refine run ?_ | refine ct ?_ | refine cf ?_ | refine sk ?_ | refine la rfl ?_ | refine na fun _ _ _ => ?_ | refine sa rfl fun _ _ => ?_ | refine nk ?_ | refine mu ?_ | refine ac ?_ | refine ai ?_)
        exact k _ _ (Sat.ent (by assumption) (by repeat (first | exact eN _ | exact eZ | apply eC (by repeat (first | exact pH | apply pT)) | refine eD ?_)))
      · refine Cd.f (ltN_f (by omega)) ?_
        have e : bh kind h hd = 0 := by
          unfold bh
          rw [hkk, if_pos rfl, List.getD_eq_getElem?_getD, List.getElem?_eq_none (by omega)]; rfl
        rw [e] at k
        repeat (first | refine run ?_ | refine ct ?_ | refine cf ?_ | refine sk ?_ | refine la rfl ?_ | refine na fun _ _ _ => ?_ | refine sa rfl fun _ _ => ?_ | refine nk ?_ | refine mu ?_ | refine ac ?_ | refine ai ?_)
        exact k _ _ (Sat.ent (by assumption) (by repeat (first | exact eN _ | exact eZ | apply eC (by repeat (first | exact pH | apply pT)) | refine eD ?_)))
    | false =>
      refine Cd.f rfl ?_
      repeat (first | refine run ?_ | refine ct ?_ | refine cf ?_ | refine sk ?_ | refine la rfl ?_ | refine na fun _ _ _ => ?_ | refine sa rfl fun _ _ => ?_ | refine nk ?_ | refine mu ?_ | refine ac ?_ | refine ai ?_)
      have e : bh kind h hd = h := by
        unfold bh
        rw [hk, hk2]; rfl
      rw [e] at k
      exact k _ _ (Sat.ent (by assumption) (by repeat (first | exact eN _ | exact eZ | apply eC (by repeat (first | exact pH | apply pT)) | refine eD ?_)))
end Go.Proofs.YtipbbnoepphdkaaGreat

set_option linter.unusedVariables false
set_option linter.unusedSimpArgs false
namespace Go.Proofs.YtipbbnoepphdkaaGreat
open Go Go.CM
attribute [local irreducible] AsBool AsWant AsNat AsInt AsCnt AsPtr AsSlc AsLen AsStr AsAgg AsTup AsFn AsIfc Nth Sc NotNil IsNil Must Cd codeW funW Sat SatL wrapN subM mkRow ltZ leZ ltN leN
variable {con : CallT}
/-- Need of a scan that is done: the floor and a row of its own. -/
theorem scanNeed_ok (hc : Con con lives) (s : ScanS) {st : Bool} {w v : Value} {L : List HP} {H : CH} {p : Nat} {K : KP} (hs : Sat L H) [HasCell L p (scanC s.sl st s.i s.fl w v (decide (s.at_ = 2)))] (hw : Has L (Nums w s.need)) (hl : s.need.length ≤ 1000000)
    (kf : s.at_ ≠ 2 → ∀ H1, Sat L H1 → K (.agg ⟨[u64 0, snil]⟩) H1)
    (kt : s.at_ = 2 → ∀ w' H1, Sat (Nums w' s.need :: L) H1 → K (.agg ⟨[u64 s.fl, w']⟩) H1) : Call1 Tryz.prog con 39 [ptr p 0] H K := by
  refine call_of (hc _ _ _ rfl) ?_
  rw [scanNeed_W]
  repeat (first | refine run ?_ | refine ct ?_ | refine cf ?_ | refine sk ?_ | refine la rfl ?_ | refine na fun _ _ _ => ?_ | refine sa rfl fun _ _ => ?_ | refine nk ?_ | refine mu ?_ | refine ac ?_ | refine ai ?_)
  by_cases h : s.at_ = 2
  · rw [decide_eq_true h]
    repeat (first | refine run ?_ | refine ct ?_ | refine cf ?_ | refine sk ?_ | refine la rfl ?_ | refine na fun _ _ _ => ?_ | refine sa rfl fun _ _ => ?_ | refine nk ?_ | refine mu ?_ | refine ac ?_ | refine ai ?_)
    rename_i p1 H2 h2
    refine cloneN_ok hc h2 (Has.skip hw) (by omega) fun v' H11 hc' h11 => ?_
    refine Sc.mk rfl (Sc.mk hc' ?_)
    refine stN h11 (Nat.le_of_ble_eq_true rfl) (by show (isCell (u64 s.fl) && (isCell v' && true)) = true; rw [hc']; rfl) fun H12 h12 => ?_
    repeat (first | refine run ?_ | refine ct ?_ | refine cf ?_ | refine sk ?_ | refine la rfl ?_ | refine na fun _ _ _ => ?_ | refine sa rfl fun _ _ => ?_ | refine nk ?_ | refine mu ?_ | refine ac ?_ | refine ai ?_)
    exact kt h v' _ (Sat.ent (by assumption) (by repeat (first | exact eN _ | exact eZ | apply eC (by repeat (first | exact pH | apply pT)) | refine eD ?_)))
  · rw [decide_eq_false h]
    repeat (first | refine run ?_ | refine ct ?_ | refine cf ?_ | refine sk ?_ | refine la rfl ?_ | refine na fun _ _ _ => ?_ | refine sa rfl fun _ _ => ?_ | refine nk ?_ | refine mu ?_ | refine ac ?_ | refine ai ?_)
    refine stN (by assumption) (Nat.le_of_ble_eq_true rfl) rfl fun H6 h6 => ?_
    repeat (first | refine run ?_ | refine ct ?_ | refine cf ?_ | refine sk ?_ | refine la rfl ?_ | refine na fun _ _ _ => ?_ | refine sa rfl fun _ _ => ?_ | refine nk ?_ | refine mu ?_ | refine ac ?_ | refine ai ?_)
    exact kf h _ (Sat.ent (by assumption) (by repeat (first | exact eN _ | exact eZ | apply eC (by repeat (first | exact pH | apply pT)) | refine eD ?_)))
end Go.Proofs.YtipbbnoepphdkaaGreat

set_option linter.unusedVariables false
set_option linter.unusedSimpArgs false
namespace Go.Proofs.YtipbbnoepphdkaaGreat
open Go Go.CM
theorem Same.agg4 {k1 k2 k3 k4 : IntKind} {a b c d : Int} {K : Prop} (h : K) : Same (.agg ⟨[.int k1 a, .int k2 b, .int k3 c, .int k4 d]⟩) (.agg ⟨[.int k1 a, .int k2 b, .int k3 c, .int k4 d]⟩) K := ⟨Must.mk (by simp [veq, veqL]) h⟩
instance {k1 k2 k3 k4 : IntKind} {a b c d : Int} {K : Prop} : Stp (Same (.agg ⟨[.int k1 a, .int k2 b, .int k3 c, .int k4 d]⟩) (.agg ⟨[.int k1 a, .int k2 b, .int k3 c, .int k4 d]⟩) K) K := ⟨Same.agg4⟩
attribute [local irreducible] AsBool AsWant AsNat AsInt AsCnt AsPtr AsSlc AsLen AsStr AsAgg AsTup AsFn AsIfc Nth Sc NotNil IsNil Must Cd codeW funW Sat SatL wrapN subM mkRow ltZ leZ ltN leN
variable {con : CallT}
theorem newScan_ok (hc : Con con lives) (s : SlotsS) {L : List HP} {H : CH} {K : KP} (hs : Sat L H) (k : ∀ p H1, Sat (Own p (scanC s false 0 0 snil snil false) :: L) H1 → K (ptr p 0) H1) : Call1 Tryz.prog con 37 [.agg ⟨[u64 s.cam, u64 s.first, i64 s.count, u64 s.most]⟩] H K := by
  refine call_of (hc _ _ _ rfl) ?_
  rw [newScan_W]
  repeat (first | refine run ?_ | refine ct ?_ | refine cf ?_ | refine sk ?_ | refine la rfl ?_ | refine na fun _ _ _ => ?_ | refine sa rfl fun _ _ => ?_ | refine nk ?_ | refine mu ?_ | refine ac ?_ | refine ai ?_)
  exact k _ _ (Sat.ent (by assumption) (by repeat (first | exact eN _ | exact eZ | apply eC (by repeat (first | exact pH | apply pT)) | refine eD ?_)))
set_option maxRecDepth 100000 in
theorem l13begin_ok (hc : Con con lives) (sl : SlotsS) {kind : Int} {h et : Nat} {v : Value} {rows : List (List Value)} {hd : List Nat} {L : List HP} {H : CH} {K : KP} (hs : Sat L H) (hv : Has L (Vec v et 6 rows)) (hl : rows.length ≤ 1000000000) (hln : hd.length = rows.length)
    (hr : ∀ (i : Nat) row x, rows[i]? = some row → hd[i]? = some x → row[0]? = some (u64 x))
    (k : ∀ p p1 p2 p3 H1, Sat (Own p [i64 kind, ptr p1 0, ptr p2 0, ptr p3 0] :: Own p1 (snapC 0 (snap0 sl) 0) :: Own p2 (letC (let0 sl (bh kind h hd)) false) :: Own p3 (scanC sl false 0 0 snil snil false) :: L) H1 → K (ptr p 0) H1) : Call1 Tryz.prog con 22 [.agg ⟨[u64 sl.cam, u64 sl.first, i64 sl.count, u64 sl.most]⟩, .agg ⟨[i64 kind, u64 h]⟩, v] H K := by
  refine call_of (hc _ _ _ rfl) ?_
  rw [l13begin_W]
  obtain ⟨pv, ev⟩ := (hs.has hv).shape
  subst ev
  repeat (first | refine run ?_ | refine ct ?_ | refine cf ?_ | refine sk ?_ | refine la rfl ?_ | refine na fun _ _ _ => ?_ | refine sa rfl fun _ _ => ?_ | refine nk ?_ | refine mu ?_ | refine ac ?_ | refine ai ?_)
  cases hk : ltZ kind (Int.ofNat 0) with
  | true =>
    refine Cd.t rfl ?_
    have hkk : (ltZ kind (Int.ofNat 0) || ltZ (Int.ofNat 2) kind) = true := by rw [hk]; rfl
    repeat (first | refine run ?_ | refine ct ?_ | refine cf ?_ | refine sk ?_ | refine la rfl ?_ | refine na fun _ _ _ => ?_ | refine sa rfl fun _ _ => ?_ | refine nk ?_ | refine mu ?_ | refine ac ?_ | refine ai ?_)
    refine Must.mk (cv_small (by omega)) ?_
    rw [wrapN_small (by omega)]
    repeat (first | refine run ?_ | refine ct ?_ | refine cf ?_ | refine sk ?_ | refine la rfl ?_ | refine na fun _ _ _ => ?_ | refine sa rfl fun _ _ => ?_ | refine nk ?_ | refine mu ?_ | refine ac ?_ | refine ai ?_)
    by_cases hlt : h < rows.length
    · refine Cd.t (ltN_t hlt) ?_
      obtain ⟨row, hrow⟩ : ∃ row, rows[h]? = some row := ⟨_, List.getElem?_eq_getElem hlt⟩
      obtain ⟨x, hx⟩ : ∃ x, hd[h]? = some x := ⟨_, List.getElem?_eq_getElem (by omega)⟩
      obtain ⟨bv, ev, _⟩ := (hs.has hv).slot hrow
      injection ev with ev _ _
      subst ev
      repeat (first | refine run ?_ | refine ct ?_ | refine cf ?_ | refine sk ?_ | refine la rfl ?_ | refine na fun _ _ _ => ?_ | refine sa rfl fun _ _ => ?_ | refine nk ?_ | refine mu ?_ | refine ac ?_ | refine ai ?_)
      refine Must.mk (ltN_t hlt) ?_
      refine ldVec (by assumption) (Has.skip (Has.skip hv)) rfl hrow (j := 0) (by show 0 + h * 6 + 0 = _; omega) (by omega) (hr h row x hrow hx) ?_
      have e : bh kind h hd = x := by
        unfold bh
        rw [hkk, if_pos rfl, List.getD_eq_getElem?_getD, hx]; rfl
      rw [e] at k
      repeat (first | refine run ?_ | refine ct ?_ | refine cf ?_ | refine sk ?_ | refine la rfl ?_ | refine na fun _ _ _ => ?_ | refine sa rfl fun _ _ => ?_ | refine nk ?_ | refine mu ?_ | refine ac ?_ | refine ai ?_)
      refine newSnap_ok hc sl (by assumption) fun p1 H24 h24 => ?_
      repeat (first | refine run ?_ | refine ct ?_ | refine cf ?_ | refine sk ?_ | refine la rfl ?_ | refine na fun _ _ _ => ?_ | refine sa rfl fun _ _ => ?_ | refine nk ?_ | refine mu ?_ | refine ac ?_ | refine ai ?_)
      refine newLet_ok hc sl h24 fun p2 H30 h30 => ?_
      repeat (first | refine run ?_ | refine ct ?_ | refine cf ?_ | refine sk ?_ | refine la rfl ?_ | refine na fun _ _ _ => ?_ | refine sa rfl fun _ _ => ?_ | refine nk ?_ | refine mu ?_ | refine ac ?_ | refine ai ?_)
      refine newScan_ok hc sl h30 fun p3 H36 h36 => ?_
      repeat (first | refine run ?_ | refine ct ?_ | refine cf ?_ | refine sk ?_ | refine la rfl ?_ | refine na fun _ _ _ => ?_ | refine sa rfl fun _ _ => ?_ | refine nk ?_ | refine mu ?_ | refine ac ?_ | refine ai ?_)
      exact k _ p1 p2 p3 _ (Sat.ent (by assumption) (by repeat (first | exact eN _ | exact eZ | apply eC (by repeat (first | exact pH | apply pT)) | refine eD ?_)))
    · refine Cd.f (ltN_f (by omega)) ?_
      have e : bh kind h hd = 0 := by
        unfold bh
        rw [hkk, if_pos rfl, List.getD_eq_getElem?_getD, List.getElem?_eq_none (by omega)]; rfl
      rw [e] at k
      repeat (first | refine run ?_ | refine ct ?_ | refine cf ?_ | refine sk ?_ | refine la rfl ?_ | refine na fun _ _ _ => ?_ | refine sa rfl fun _ _ => ?_ | refine nk ?_ | refine mu ?_ | refine ac ?_ | refine ai ?_)
      refine newSnap_ok hc sl (by assumption) fun p1 H24 h24 => ?_
      repeat (first | refine run ?_ | refine ct ?_ | refine cf ?_ | refine sk ?_ | refine la rfl ?_ | refine na fun _ _ _ => ?_ | refine sa rfl fun _ _ => ?_ | refine nk ?_ | refine mu ?_ | refine ac ?_ | refine ai ?_)
      refine newLet_ok hc sl h24 fun p2 H30 h30 => ?_
      repeat (first | refine run ?_ | refine ct ?_ | refine cf ?_ | refine sk ?_ | refine la rfl ?_ | refine na fun _ _ _ => ?_ | refine sa rfl fun _ _ => ?_ | refine nk ?_ | refine mu ?_ | refine ac ?_ | refine ai ?_)
      refine newScan_ok hc sl h30 fun p3 H36 h36 => ?_
      repeat (first | refine run ?_ | refine ct ?_ | refine cf ?_ | refine sk ?_ | refine la rfl ?_ | refine na fun _ _ _ => ?_ | refine sa rfl fun _ _ => ?_ | refine nk ?_ | refine mu ?_ | refine ac ?_ | refine ai ?_)
      exact k _ p1 p2 p3 _ (Sat.ent (by assumption) (by repeat (first | exact eN _ | exact eZ | apply eC (by repeat (first | exact pH | apply pT)) | refine eD ?_)))
  | false =>
    refine Cd.f rfl ?_
    repeat (first | refine run ?_ | refine ct ?_ | refine cf ?_ | refine sk ?_ | refine la rfl ?_ | refine na fun _ _ _ => ?_ | refine sa rfl fun _ _ => ?_ | refine nk ?_ | refine mu ?_ | refine ac ?_ | refine ai ?_)
    cases hk2 : ltZ (Int.ofNat 2) kind with
    | true =>
      have hkk : (ltZ kind (Int.ofNat 0) || ltZ (Int.ofNat 2) kind) = true := by rw [hk2, Bool.or_true]
      refine Cd.t rfl ?_
      repeat (first | refine run ?_ | refine ct ?_ | refine cf ?_ | refine sk ?_ | refine la rfl ?_ | refine na fun _ _ _ => ?_ | refine sa rfl fun _ _ => ?_ | refine nk ?_ | refine mu ?_ | refine ac ?_ | refine ai ?_)
      refine Must.mk (cv_small (by omega)) ?_
      rw [wrapN_small (by omega)]
      repeat (first | refine run ?_ | refine ct ?_ | refine cf ?_ | refine sk ?_ | refine la rfl ?_ | refine na fun _ _ _ => ?_ | refine sa rfl fun _ _ => ?_ | refine nk ?_ | refine mu ?_ | refine ac ?_ | refine ai ?_)
      by_cases hlt : h < rows.length
      · refine Cd.t (ltN_t hlt) ?_
        obtain ⟨row, hrow⟩ : ∃ row, rows[h]? = some row := ⟨_, List.getElem?_eq_getElem hlt⟩
        obtain ⟨x, hx⟩ : ∃ x, hd[h]? = some x := ⟨_, List.getElem?_eq_getElem (by omega)⟩
        obtain ⟨bv, ev, _⟩ := (hs.has hv).slot hrow
        injection ev with ev _ _
        subst ev
        repeat (first | refine run ?_ | refine ct ?_ | refine cf ?_ | refine sk ?_ | refine la rfl ?_ | refine na fun _ _ _ => ?_ | refine sa rfl fun _ _ => ?_ | refine nk ?_ | refine mu ?_ | refine ac ?_ | refine ai ?_)
        refine Must.mk (ltN_t hlt) ?_
        refine ldVec (by assumption) (Has.skip (Has.skip hv)) rfl hrow (j := 0) (by show 0 + h * 6 + 0 = _; omega) (by omega) (hr h row x hrow hx) ?_
        have e : bh kind h hd = x := by
          unfold bh
          rw [hkk, if_pos rfl, List.getD_eq_getElem?_getD, hx]; rfl
        rw [e] at k
        repeat (first | refine run ?_ | refine ct ?_ | refine cf ?_ | refine sk ?_ | refine la rfl ?_ | refine na fun _ _ _ => ?_ | refine sa rfl fun _ _ => ?_ | refine nk ?_ | refine mu ?_ | refine ac ?_ | refine ai ?_)
        refine newSnap_ok hc sl (by assumption) fun p1 H24 h24 => ?_
        repeat (first | refine run ?_ | refine ct ?_ | refine cf ?_ | refine sk ?_ | refine la rfl ?_ | refine na fun _ _ _ => ?_ | refine sa rfl fun _ _ => ?_ | refine nk ?_ | refine mu ?_ | refine ac ?_ | refine ai ?_)
        refine newLet_ok hc sl h24 fun p2 H30 h30 => ?_
        repeat (first | refine run ?_ | refine ct ?_ | refine cf ?_ | refine sk ?_ | refine la rfl ?_ | refine na fun _ _ _ => ?_ | refine sa rfl fun _ _ => ?_ | refine nk ?_ | refine mu ?_ | refine ac ?_ | refine ai ?_)
        refine newScan_ok hc sl h30 fun p3 H36 h36 => ?_
        repeat (first | refine run ?_ | refine ct ?_ | refine cf ?_ | refine sk ?_ | refine la rfl ?_ | refine na fun _ _ _ => ?_ | refine sa rfl fun _ _ => ?_ | refine nk ?_ | refine mu ?_ | refine ac ?_ | refine ai ?_)
        exact k _ p1 p2 p3 _ (Sat.ent (by assumption) (by repeat (first | exact eN _ | exact eZ | apply eC (by repeat (first | exact pH | apply pT)) | refine eD ?_)))
      · refine Cd.f (ltN_f (by omega)) ?_
        have e : bh kind h hd = 0 := by
          unfold bh
          rw [hkk, if_pos rfl, List.getD_eq_getElem?_getD, List.getElem?_eq_none (by omega)]; rfl
        rw [e] at k
        repeat (first | refine run ?_ | refine ct ?_ | refine cf ?_ | refine sk ?_ | refine la rfl ?_ | refine na fun _ _ _ => ?_ | refine sa rfl fun _ _ => ?_ | refine nk ?_ | refine mu ?_ | refine ac ?_ | refine ai ?_)
        refine newSnap_ok hc sl (by assumption) fun p1 H24 h24 => ?_
        repeat (first | refine run ?_ | refine ct ?_ | refine cf ?_ | refine sk ?_ | refine la rfl ?_ | refine na fun _ _ _ => ?_ | refine sa rfl fun _ _ => ?_ | refine nk ?_ | refine mu ?_ | refine ac ?_ | refine ai ?_)
        refine newLet_ok hc sl h24 fun p2 H30 h30 => ?_
        repeat (first | refine run ?_ | refine ct ?_ | refine cf ?_ | refine sk ?_ | refine la rfl ?_ | refine na fun _ _ _ => ?_ | refine sa rfl fun _ _ => ?_ | refine nk ?_ | refine mu ?_ | refine ac ?_ | refine ai ?_)
        refine newScan_ok hc sl h30 fun p3 H36 h36 => ?_
        repeat (first | refine run ?_ | refine ct ?_ | refine cf ?_ | refine sk ?_ | refine la rfl ?_ | refine na fun _ _ _ => ?_ | refine sa rfl fun _ _ => ?_ | refine nk ?_ | refine mu ?_ | refine ac ?_ | refine ai ?_)
        exact k _ p1 p2 p3 _ (Sat.ent (by assumption) (by repeat (first | exact eN _ | exact eZ | apply eC (by repeat (first | exact pH | apply pT)) | refine eD ?_)))
    | false =>
      refine Cd.f rfl ?_
      repeat (first | refine run ?_ | refine ct ?_ | refine cf ?_ | refine sk ?_ | refine la rfl ?_ | refine na fun _ _ _ => ?_ | refine sa rfl fun _ _ => ?_ | refine nk ?_ | refine mu ?_ | refine ac ?_ | refine ai ?_)
      have e : bh kind h hd = h := by
        unfold bh
        rw [hk, hk2]; rfl
      rw [e] at k
      refine newSnap_ok hc sl (by assumption) fun p1 H24 h24 => ?_
      repeat (first | refine run ?_ | refine ct ?_ | refine cf ?_ | refine sk ?_ | refine la rfl ?_ | refine na fun _ _ _ => ?_ | refine sa rfl fun _ _ => ?_ | refine nk ?_ | refine mu ?_ | refine ac ?_ | refine ai ?_)
      refine newLet_ok hc sl h24 fun p2 H30 h30 => ?_
      repeat (first | refine run ?_ | refine ct ?_ | refine cf ?_ | refine sk ?_ | refine la rfl ?_ | refine na fun _ _ _ => ?_ | refine sa rfl fun _ _ => ?_ | refine nk ?_ | refine mu ?_ | refine ac ?_ | refine ai ?_)
      refine newScan_ok hc sl h30 fun p3 H36 h36 => ?_
      repeat (first | refine run ?_ | refine ct ?_ | refine cf ?_ | refine sk ?_ | refine la rfl ?_ | refine na fun _ _ _ => ?_ | refine sa rfl fun _ _ => ?_ | refine nk ?_ | refine mu ?_ | refine ac ?_ | refine ai ?_)
      exact k _ p1 p2 p3 _ (Sat.ent (by assumption) (by repeat (first | exact eN _ | exact eZ | apply eC (by repeat (first | exact pH | apply pT)) | refine eD ?_)))
end Go.Proofs.YtipbbnoepphdkaaGreat

set_option linter.unusedVariables false
set_option linter.unusedSimpArgs false
namespace Go.Proofs.YtipbbnoepphdkaaGreat
open Go Go.CM
attribute [local irreducible] AsBool AsWant AsNat AsInt AsCnt AsPtr AsSlc AsLen AsStr AsAgg AsTup AsFn AsIfc Nth Sc NotNil IsNil Must Cd codeW funW Sat SatL wrapN subM mkRow ltZ leZ ltN leN
variable {con : CallT}
theorem l13step1_ok (hc : Con con lives) {L : List HP} {H : CH} {p p1 p2 p3 q : Nat} {kind : Int} {K : KP} (hs : Sat L H) [HasCell L p [i64 kind, ptr p1 0, ptr p2 0, ptr p3 0]]
    (h0 : eqZ kind (Int.ofNat 0) = true → Call1 Tryz.prog con 69 [ptr p1 0, ptr q 0] H K)
    (h2 : eqZ kind (Int.ofNat 2) = true → Call1 Tryz.prog con 70 [ptr p3 0, ptr q 0] H K)
    (h1 : eqZ kind (Int.ofNat 0) = false → eqZ kind (Int.ofNat 2) = false → Call1 Tryz.prog con 71 [ptr p2 0, ptr q 0] H K) : Call1 Tryz.prog con 24 [ptr p 0, ptr q 0] H K := by
  refine call_of (hc _ _ _ rfl) ?_
  rw [l13step1_W]
  repeat (first | refine run ?_ | refine ct ?_ | refine cf ?_ | refine sk ?_ | refine la rfl ?_ | refine na fun _ _ _ => ?_ | refine sa rfl fun _ _ => ?_ | refine nk ?_ | refine mu ?_ | refine ac ?_ | refine ai ?_)
  cases hk : eqZ kind (Int.ofNat 0) with
  | true =>
    refine Cd.t rfl ?_
    repeat (first | refine run ?_ | refine ct ?_ | refine cf ?_ | refine sk ?_ | refine la rfl ?_ | refine na fun _ _ _ => ?_ | refine sa rfl fun _ _ => ?_ | refine nk ?_ | refine mu ?_ | refine ac ?_ | refine ai ?_)
    exact h0 hk
  | false =>
    refine Cd.f rfl ?_
    repeat (first | refine run ?_ | refine ct ?_ | refine cf ?_ | refine sk ?_ | refine la rfl ?_ | refine na fun _ _ _ => ?_ | refine sa rfl fun _ _ => ?_ | refine nk ?_ | refine mu ?_ | refine ac ?_ | refine ai ?_)
    cases hk2 : eqZ kind (Int.ofNat 2) with
    | true =>
      refine Cd.t rfl ?_
      repeat (first | refine run ?_ | refine ct ?_ | refine cf ?_ | refine sk ?_ | refine la rfl ?_ | refine na fun _ _ _ => ?_ | refine sa rfl fun _ _ => ?_ | refine nk ?_ | refine mu ?_ | refine ac ?_ | refine ai ?_)
      exact h2 hk2
    | false =>
      refine Cd.f rfl ?_
      repeat (first | refine run ?_ | refine ct ?_ | refine cf ?_ | refine sk ?_ | refine la rfl ?_ | refine na fun _ _ _ => ?_ | refine sa rfl fun _ _ => ?_ | refine nk ?_ | refine mu ?_ | refine ac ?_ | refine ai ?_)
      exact h1 hk hk2
end Go.Proofs.YtipbbnoepphdkaaGreat

set_option linter.unusedVariables false
set_option linter.unusedSimpArgs false
namespace Go.Proofs.YtipbbnoepphdkaaGreat
open Go Go.CM
attribute [local irreducible] AsBool AsWant AsNat AsInt AsCnt AsPtr AsSlc AsLen AsStr AsAgg AsTup AsFn AsIfc Nth Sc NotNil IsNil Must Cd codeW funW Sat SatL wrapN subM mkRow ltZ leZ ltN leN
variable {con : CallT}
set_option maxRecDepth 100000
theorem l13told0_ok (hc : Con con lives) (s : SnapS) {b : Bool} {a g : Nat} {L R1 R2 : List HP} {H : CH} {p p1 p2 p3 : Nat} {K : KP} (hs : Sat L H) (hp : Pull L (Own p [i64 (Int.ofNat 0), ptr p1 0, ptr p2 0, ptr p3 0]) R1) (hq : Pull R1 (Own p1 (snapC a s g)) R2)
    (hg : JG s g) (hi : s.ok = true → s.i < 256 ∧ s.gen < 1048576)
    (k : ∀ H1, Sat (Own p [i64 (Int.ofNat 0), ptr p1 0, ptr p2 0, ptr p3 0] :: Own p1 (snapC a s g) :: R2) H1 → K (.agg ⟨t13 (u64 s.handle) (u64 s.stamp) (iN s.err) (u64 0) snil (.bool b)⟩) H1) : Call1 Tryz.prog con 27 [ptr p 0, .bool b] H K := by
  refine call_of (hc _ _ _ rfl) ?_
  rw [l13told_W]
  have hs0 := hs.takes (.cons hp (.cons hq .nil))
  simp only [List.cons_append, List.nil_append] at hs0
  clear hs hp hq
  repeat (first | refine run ?_ | refine ct ?_ | refine cf ?_ | refine sk ?_ | refine la rfl ?_ | refine na fun _ _ _ => ?_ | refine sa rfl fun _ _ => ?_ | refine nk ?_ | refine mu ?_ | refine ac ?_ | refine ai ?_)
  refine stN (by assumption) (Nat.le_of_ble_eq_true rfl) rfl fun H5 h5 => ?_
  repeat (first | refine run ?_ | refine ct ?_ | refine cf ?_ | refine sk ?_ | refine la rfl ?_ | refine na fun _ _ _ => ?_ | refine sa rfl fun _ _ => ?_ | refine nk ?_ | refine mu ?_ | refine ac ?_ | refine ai ?_)
  refine snapHandle_ok hc s (a := a) (g := g) h5 hg hi ?_
  repeat (first | refine run ?_ | refine ct ?_ | refine cf ?_ | refine sk ?_ | refine la rfl ?_ | refine na fun _ _ _ => ?_ | refine sa rfl fun _ _ => ?_ | refine nk ?_ | refine mu ?_ | refine ac ?_ | refine ai ?_)
  refine snapStamp_ok hc s (a := a) (g := g) h5 ?_
  repeat (first | refine run ?_ | refine ct ?_ | refine cf ?_ | refine sk ?_ | refine la rfl ?_ | refine na fun _ _ _ => ?_ | refine sa rfl fun _ _ => ?_ | refine nk ?_ | refine mu ?_ | refine ac ?_ | refine ai ?_)
  refine snapErrno_ok hc s (a := a) (g := g) h5 ?_
  repeat (first | refine run ?_ | refine ct ?_ | refine cf ?_ | refine sk ?_ | refine la rfl ?_ | refine na fun _ _ _ => ?_ | refine sa rfl fun _ _ => ?_ | refine nk ?_ | refine mu ?_ | refine ac ?_ | refine ai ?_)
  refine stN (by assumption) (Nat.le_of_ble_eq_true rfl) rfl fun H6 h6 => ?_
  repeat (first | refine run ?_ | refine ct ?_ | refine cf ?_ | refine sk ?_ | refine la rfl ?_ | refine na fun _ _ _ => ?_ | refine sa rfl fun _ _ => ?_ | refine nk ?_ | refine mu ?_ | refine ac ?_ | refine ai ?_)
  exact k _ (h6.ent (by repeat (first | exact eN _ | exact eZ | apply eC (by repeat (first | exact pH | apply pT)) | refine eD ?_)))
theorem l13told1_ok (hc : Con con lives) (s : LetS) {b sn : Bool} {kind : Int} {L R1 R2 : List HP} {H : CH} {p p1 p2 p3 : Nat} {K : KP} (hs : Sat L H) (hp : Pull L (Own p [i64 kind, ptr p1 0, ptr p2 0, ptr p3 0]) R1) (hq : Pull R1 (Own p2 (letC s sn)) R2)
    (hk0 : eqZ kind (Int.ofNat 0) = false) (hk2 : eqZ kind (Int.ofNat 2) = false)
    (k : ∀ H1, Sat (Own p [i64 kind, ptr p1 0, ptr p2 0, ptr p3 0] :: Own p2 (letC s sn) :: R2) H1 → K (.agg ⟨t13 (u64 0) (u64 0) (iN s.err) (u64 0) snil (.bool b)⟩) H1) : Call1 Tryz.prog con 27 [ptr p 0, .bool b] H K := by
  refine call_of (hc _ _ _ rfl) ?_
  rw [l13told_W]
  have hs0 := hs.takes (.cons hp (.cons hq .nil))
  simp only [List.cons_append, List.nil_append] at hs0
  clear hs hp hq
  repeat (first | refine run ?_ | refine ct ?_ | refine cf ?_ | refine sk ?_ | refine la rfl ?_ | refine na fun _ _ _ => ?_ | refine sa rfl fun _ _ => ?_ | refine nk ?_ | refine mu ?_ | refine ac ?_ | refine ai ?_)
  refine stN (by assumption) (Nat.le_of_ble_eq_true rfl) rfl fun H5 h5 => ?_
  repeat (first | refine run ?_ | refine ct ?_ | refine cf ?_ | refine sk ?_ | refine la rfl ?_ | refine na fun _ _ _ => ?_ | refine sa rfl fun _ _ => ?_ | refine nk ?_ | refine mu ?_ | refine ac ?_ | refine ai ?_)
  refine Cd.f hk0 ?_
  repeat (first | refine run ?_ | refine ct ?_ | refine cf ?_ | refine sk ?_ | refine la rfl ?_ | refine na fun _ _ _ => ?_ | refine sa rfl fun _ _ => ?_ | refine nk ?_ | refine mu ?_ | refine ac ?_ | refine ai ?_)
  refine Cd.f hk2 ?_
  repeat (first | refine run ?_ | refine ct ?_ | refine cf ?_ | refine sk ?_ | refine la rfl ?_ | refine na fun _ _ _ => ?_ | refine sa rfl fun _ _ => ?_ | refine nk ?_ | refine mu ?_ | refine ac ?_ | refine ai ?_)
  refine letErrno_ok hc s (sn := sn) h5 ?_
  repeat (first | refine run ?_ | refine ct ?_ | refine cf ?_ | refine sk ?_ | refine la rfl ?_ | refine na fun _ _ _ => ?_ | refine sa rfl fun _ _ => ?_ | refine nk ?_ | refine mu ?_ | refine ac ?_ | refine ai ?_)
  refine stN (by assumption) (Nat.le_of_ble_eq_true rfl) rfl fun H6 h6 => ?_
  repeat (first | refine run ?_ | refine ct ?_ | refine cf ?_ | refine sk ?_ | refine la rfl ?_ | refine na fun _ _ _ => ?_ | refine sa rfl fun _ _ => ?_ | refine nk ?_ | refine mu ?_ | refine ac ?_ | refine ai ?_)
  exact k _ (h6.ent (by repeat (first | exact eN _ | exact eZ | apply eC (by repeat (first | exact pH | apply pT)) | refine eD ?_)))
theorem l13told2_ok (hc : Con con lives) (s : ScanS) {b st : Bool} {w v : Value} {L R1 R2 : List HP} {H : CH} {p p1 p2 p3 : Nat} {K : KP} (hs : Sat L H) (hp : Pull L (Own p [i64 (Int.ofNat 2), ptr p1 0, ptr p2 0, ptr p3 0]) R1) (hq : Pull R1 (Own p3 (scanC s.sl st s.i s.fl w v (decide (s.at_ = 2)))) R2) (hw : Has R2 (Nums w s.need)) (hl : s.need.length ≤ 1000000) (hat : s.at_ = 2)
    (k : ∀ w' H1, Sat (Nums w' s.need :: Own p [i64 (Int.ofNat 2), ptr p1 0, ptr p2 0, ptr p3 0] :: Own p3 (scanC s.sl st s.i s.fl w v (decide (s.at_ = 2))) :: R2) H1 → K (.agg ⟨t13 (u64 0) (u64 0) (iN 0) (u64 s.fl) w' (.bool b)⟩) H1) : Call1 Tryz.prog con 27 [ptr p 0, .bool b] H K := by
  refine call_of (hc _ _ _ rfl) ?_
  rw [l13told_W]
  have hs0 := hs.takes (.cons hp (.cons hq .nil))
  simp only [List.cons_append, List.nil_append] at hs0
  clear hs hp hq
  repeat (first | refine run ?_ | refine ct ?_ | refine cf ?_ | refine sk ?_ | refine la rfl ?_ | refine na fun _ _ _ => ?_ | refine sa rfl fun _ _ => ?_ | refine nk ?_ | refine mu ?_ | refine ac ?_ | refine ai ?_)
  refine stN (by assumption) (Nat.le_of_ble_eq_true rfl) rfl fun H5 h5 => ?_
  repeat (first | refine run ?_ | refine ct ?_ | refine cf ?_ | refine sk ?_ | refine la rfl ?_ | refine na fun _ _ _ => ?_ | refine sa rfl fun _ _ => ?_ | refine nk ?_ | refine mu ?_ | refine ac ?_ | refine ai ?_)
  refine scanNeed_ok hc s (st := st) (w := w) (v := v) h5 (Has.skip (Has.skip (Has.skip (Has.skip hw)))) hl (fun h => absurd hat h) fun _ w' H6 h6 => ?_
  rcases (h6.has Has.nums).shape with ⟨rfl, _⟩ | ⟨bw, ow, cw, rfl⟩
  · repeat (first | refine run ?_ | refine ct ?_ | refine cf ?_ | refine sk ?_ | refine la rfl ?_ | refine na fun _ _ _ => ?_ | refine sa rfl fun _ _ => ?_ | refine nk ?_ | refine mu ?_ | refine ac ?_ | refine ai ?_)
    refine stN (by assumption) (Nat.le_of_ble_eq_true rfl) rfl fun H7 h7 => ?_
    repeat (first | refine run ?_ | refine ct ?_ | refine cf ?_ | refine sk ?_ | refine la rfl ?_ | refine na fun _ _ _ => ?_ | refine sa rfl fun _ _ => ?_ | refine nk ?_ | refine mu ?_ | refine ac ?_ | refine ai ?_)
    refine stN (by assumption) (Nat.le_of_ble_eq_true rfl) rfl fun H8 h8 => ?_
    repeat (first | refine run ?_ | refine ct ?_ | refine cf ?_ | refine sk ?_ | refine la rfl ?_ | refine na fun _ _ _ => ?_ | refine sa rfl fun _ _ => ?_ | refine nk ?_ | refine mu ?_ | refine ac ?_ | refine ai ?_)
    exact k _ _ (h8.ent (by repeat (first | exact eN _ | exact eZ | apply eC (by repeat (first | exact pH | apply pT)) | refine eD ?_)))
  · repeat (first | refine run ?_ | refine ct ?_ | refine cf ?_ | refine sk ?_ | refine la rfl ?_ | refine na fun _ _ _ => ?_ | refine sa rfl fun _ _ => ?_ | refine nk ?_ | refine mu ?_ | refine ac ?_ | refine ai ?_)
    refine stN (by assumption) (Nat.le_of_ble_eq_true rfl) rfl fun H7 h7 => ?_
    repeat (first | refine run ?_ | refine ct ?_ | refine cf ?_ | refine sk ?_ | refine la rfl ?_ | refine na fun _ _ _ => ?_ | refine sa rfl fun _ _ => ?_ | refine nk ?_ | refine mu ?_ | refine ac ?_ | refine ai ?_)
    refine stN (by assumption) (Nat.le_of_ble_eq_true rfl) rfl fun H8 h8 => ?_
    repeat (first | refine run ?_ | refine ct ?_ | refine cf ?_ | refine sk ?_ | refine la rfl ?_ | refine na fun _ _ _ => ?_ | refine sa rfl fun _ _ => ?_ | refine nk ?_ | refine mu ?_ | refine ac ?_ | refine ai ?_)
    exact k _ _ (h8.ent (by repeat (first | exact eN _ | exact eZ | apply eC (by repeat (first | exact pH | apply pT)) | refine eD ?_)))
end Go.Proofs.YtipbbnoepphdkaaGreat

set_option linter.unusedVariables false
set_option linter.unusedSimpArgs false
namespace Go.Proofs.YtipbbnoepphdkaaGreat
open Go Go.CM
attribute [local irreducible] AsBool AsWant AsNat AsInt AsCnt AsPtr AsSlc AsLen AsStr AsAgg AsTup AsFn AsIfc Nth Sc NotNil IsNil Must Cd codeW funW Sat SatL wrapN subM mkRow ltZ leZ ltN leN
variable {con : CallT}
theorem rSameNeed_ok (hc : Con con lives) {fl : Nat} {v w : Value} {l : List Nat} {L : List HP} {H : CH} {K : KP} (hs : Sat L H) (hv : Has L (Nums v l)) (hw : Has L (Nums w l)) (hl : l.length ≤ 1000000) (k : ∀ H1, Sat L H1 → K (.bool true) H1) : Call1 Tryz.prog con 75 [.agg ⟨[u64 fl, v]⟩, .agg ⟨[u64 fl, w]⟩] H K := by
  refine call_of (hc _ _ _ rfl) ?_
  rw [rSameNeed_W]
  obtain ⟨pv, cv, rfl⟩ := (hs.has hv).len
  obtain ⟨pw, cw, rfl⟩ := (hs.has hw).len
  repeat (first | refine run ?_ | refine ct ?_ | refine cf ?_ | refine sk ?_ | refine la rfl ?_ | refine na fun _ _ _ => ?_ | refine sa rfl fun _ _ => ?_ | refine nk ?_ | refine mu ?_ | refine ac ?_ | refine ai ?_)
  rename_i p1 H2 h2 p3 H4 h4
  rw [eqN_self]
  repeat (first | refine run ?_ | refine ct ?_ | refine cf ?_ | refine sk ?_ | refine la rfl ?_ | refine na fun _ _ _ => ?_ | refine sa rfl fun _ _ => ?_ | refine nk ?_ | refine mu ?_ | refine ac ?_ | refine ai ?_)
  rw [eqZ_self]
  repeat (first | refine run ?_ | refine ct ?_ | refine cf ?_ | refine sk ?_ | refine la rfl ?_ | refine na fun _ _ _ => ?_ | refine sa rfl fun _ _ => ?_ | refine nk ?_ | refine mu ?_ | refine ac ?_ | refine ai ?_)
  refine LoopC.indP (n := 200) (id := 0) (fun σ1 H1 => H1 = H4) (by kernel_rfl)
    (fun (i : Nat) σ1 H1 => i ≤ l.length ∧ σ1 2 = ptr p1 0 ∧ σ1 3 = ptr p3 0 ∧ σ1 5 = iN i ∧ H1 = H4)
    (fun i => l.length - i) (fun i σ1 H1 hI => ?_) (fun σ1 H1 hP => ?_) 0 _ _ ⟨Nat.zero_le _, rfl, rfl, rfl, rfl⟩
  · obtain ⟨hi, a2, a3, a5, rfl⟩ := hI
    rw [rSameNeedL_W]
    simp only [a2, a3, a5]
    repeat (first | refine run ?_ | refine ct ?_ | refine cf ?_ | refine sk ?_ | refine la rfl ?_ | refine na fun _ _ _ => ?_ | refine sa rfl fun _ _ => ?_ | refine nk ?_ | refine mu ?_ | refine ac ?_ | refine ai ?_)
    by_cases h : i < l.length
    · refine Cd.t (ltZ_t h) ?_
      rcases (hs.has hv).shape with ⟨_, e⟩ | ⟨bv, ov, cv', ev⟩
      · rw [e] at h; simp at h
      rcases (hs.has hw).shape with ⟨_, e⟩ | ⟨bw, ow, cw', ew⟩
      · rw [e] at h; simp at h
      injection ev with ev _ _
      injection ew with ew _ _
      subst ev
      subst ew
      repeat (first | refine run ?_ | refine ct ?_ | refine cf ?_ | refine sk ?_ | refine la rfl ?_ | refine na fun _ _ _ => ?_ | refine sa rfl fun _ _ => ?_ | refine nk ?_ | refine mu ?_ | refine ac ?_ | refine ai ?_)
      refine Must.mk (ltN_t h) ?_
      refine ldSrc h4 ((Has.skip (Has.skip hv)).src rfl) (by rw [show Nat.mul i 1 = i from Nat.mul_one i]; rfl) (map_get _ h) ?_
      repeat (first | refine run ?_ | refine ct ?_ | refine cf ?_ | refine sk ?_ | refine la rfl ?_ | refine na fun _ _ _ => ?_ | refine sa rfl fun _ _ => ?_ | refine nk ?_ | refine mu ?_ | refine ac ?_ | refine ai ?_)
      refine Must.mk (ltN_t h) ?_
      refine ldSrc h4 ((Has.skip (Has.skip hw)).src rfl) (by rw [show Nat.mul i 1 = i from Nat.mul_one i]; rfl) (map_get _ h) ?_
      repeat (first | refine run ?_ | refine ct ?_ | refine cf ?_ | refine sk ?_ | refine la rfl ?_ | refine na fun _ _ _ => ?_ | refine sa rfl fun _ _ => ?_ | refine nk ?_ | refine mu ?_ | refine ac ?_ | refine ai ?_)
      rw [eqN_self]
      repeat (first | refine run ?_ | refine ct ?_ | refine cf ?_ | refine sk ?_ | refine la rfl ?_ | refine na fun _ _ _ => ?_ | refine sa rfl fun _ _ => ?_ | refine nk ?_ | refine mu ?_ | refine ac ?_ | refine ai ?_)
      try rw [addInt]
      refine inR_nat (by omega) ?_
      repeat (first | refine run ?_ | refine ct ?_ | refine cf ?_ | refine sk ?_ | refine la rfl ?_ | refine na fun _ _ _ => ?_ | refine sa rfl fun _ _ => ?_ | refine nk ?_ | refine mu ?_ | refine ac ?_ | refine ai ?_)
      show ∃ y, _ ∧ _
      exact ⟨i + 1, by omega, h, a2, a3, rfl, rfl⟩
    · refine Cd.f (ltZ_f (by omega)) ?_
      show _ = _ ∧ _
      exact ⟨rfl, rfl⟩
  · subst hP
    show Cd _ _ _
    refine Cd.t rfl ?_
    exact k _ (h4.ent (by repeat (first | exact eN _ | exact eZ | apply eC (by repeat (first | exact pH | apply pT)) | refine eD ?_)))
end Go.Proofs.YtipbbnoepphdkaaGreat

set_option linter.unusedVariables false
set_option linter.unusedSimpArgs false
namespace Go.Proofs.YtipbbnoepphdkaaGreat
open Go Go.CM
attribute [local irreducible] AsBool AsWant AsNat AsInt AsCnt AsPtr AsSlc AsLen AsStr AsAgg AsTup AsFn AsIfc Nth Sc NotNil IsNil Must Cd codeW funW Sat SatL wrapN subM mkRow ltZ leZ ltN leN
variable {con : CallT}
theorem sameSlots_ok (hc : Con con lives) (sl : SlotsS) {v w : Value} {e : Nat} {M : Mem} {n : Nat} {L : List HP} {H : CH} {K : KP} (hs : Sat L H) (hv : Has L (Vec v e 3 (slotRows sl M n))) (hw : Has L (Vec w e 3 (slotRows sl M n))) (hl : n ≤ 1000000) (k : ∀ H1, Sat L H1 → K (.bool true) H1) : Call1 Tryz.prog con 29 [v, w] H K := by
  refine call_of (hc _ _ _ rfl) ?_
  rw [l13sameSlots_W]
  obtain ⟨pv, ev⟩ := (hs.has hv).shape
  obtain ⟨pw, ew⟩ := (hs.has hw).shape
  rw [slotRows_len] at ev ew
  subst ev
  subst ew
  repeat (first | refine run ?_ | refine ct ?_ | refine cf ?_ | refine sk ?_ | refine la rfl ?_ | refine na fun _ _ _ => ?_ | refine sa rfl fun _ _ => ?_ | refine nk ?_ | refine mu ?_ | refine ac ?_ | refine ai ?_)
  rw [eqZ_self]
  repeat (first | refine run ?_ | refine ct ?_ | refine cf ?_ | refine sk ?_ | refine la rfl ?_ | refine na fun _ _ _ => ?_ | refine sa rfl fun _ _ => ?_ | refine nk ?_ | refine mu ?_ | refine ac ?_ | refine ai ?_)
  refine LoopC.indP (n := 200) (id := 0) (fun σ1 H1 => H1 = H) (by kernel_rfl)
    (fun (i : Nat) σ1 H1 => i ≤ n ∧ σ1 0 = .slice pv n n ∧ σ1 1 = .slice pw n n ∧ σ1 5 = iN i ∧ H1 = H)
    (fun i => n - i) (fun i σ1 H1 hI => ?_) (fun σ1 H1 hP => ?_) 0 _ _ ⟨Nat.zero_le _, rfl, rfl, rfl, rfl⟩
  · obtain ⟨hi, a0, a1, a5, rfl⟩ := hI
    rw [l13sameSlotsL_W]
    simp only [a0, a1, a5]
    repeat (first | refine run ?_ | refine ct ?_ | refine cf ?_ | refine sk ?_ | refine la rfl ?_ | refine na fun _ _ _ => ?_ | refine sa rfl fun _ _ => ?_ | refine nk ?_ | refine mu ?_ | refine ac ?_ | refine ai ?_)
    by_cases h : i < n
    · refine Cd.t (ltZ_t h) ?_
      have hr : (slotRows sl M n)[i]? = some (unpackL (M.peek (addM sl.first i))) := by
        unfold slotRows
        rw [List.getElem?_map, List.getElem?_range h]; rfl
      obtain ⟨bv, ev, _⟩ := (hs.has hv).slot hr
      obtain ⟨bw, ew, _⟩ := (hs.has hw).slot hr
      injection ev with ev _ _
      injection ew with ew _ _
      subst ev
      subst ew
      generalize M.peek (addM sl.first i) = x at *
      repeat (first | refine run ?_ | refine ct ?_ | refine cf ?_ | refine sk ?_ | refine la rfl ?_ | refine na fun _ _ _ => ?_ | refine sa rfl fun _ _ => ?_ | refine nk ?_ | refine mu ?_ | refine ac ?_ | refine ai ?_)
      refine Must.mk (ltN_t h) ?_
      refine ldVec hs hv rfl hr (j := 0) (by show 0 + i * 3 + 0 = _; omega) (by omega) rfl ?_
      refine ldVec hs hv rfl hr (j := 1) (by show 0 + i * 3 + 1 = _; omega) (by omega) rfl ?_
      refine ldVec hs hv rfl hr (j := 2) (by show 0 + i * 3 + 2 = _; omega) (by omega) rfl ?_
      repeat (first | refine run ?_ | refine ct ?_ | refine cf ?_ | refine sk ?_ | refine la rfl ?_ | refine na fun _ _ _ => ?_ | refine sa rfl fun _ _ => ?_ | refine nk ?_ | refine mu ?_ | refine ac ?_ | refine ai ?_)
      refine Must.mk (ltN_t h) ?_
      refine ldVec hs hw rfl hr (j := 0) (by show 0 + i * 3 + 0 = _; omega) (by omega) rfl ?_
      refine ldVec hs hw rfl hr (j := 1) (by show 0 + i * 3 + 1 = _; omega) (by omega) rfl ?_
      refine ldVec hs hw rfl hr (j := 2) (by show 0 + i * 3 + 2 = _; omega) (by omega) rfl ?_
      refine OpN.neAgg (a := ⟨[u8 (kindW x), u64 (genW x), u64 (stampW x)]⟩) (c := ⟨[u8 (kindW x), u64 (genW x), u64 (stampW x)]⟩) rfl rfl slot_guard (slot_eq _ _ _ _ _ _ _) ?_
      rw [eqN_self, eqN_self, eqN_self]
      repeat (first | refine run ?_ | refine ct ?_ | refine cf ?_ | refine sk ?_ | refine la rfl ?_ | refine na fun _ _ _ => ?_ | refine sa rfl fun _ _ => ?_ | refine nk ?_ | refine mu ?_ | refine ac ?_ | refine ai ?_)
      try rw [addInt]
      refine inR_nat (by omega) ?_
      repeat (first | refine run ?_ | refine ct ?_ | refine cf ?_ | refine sk ?_ | refine la rfl ?_ | refine na fun _ _ _ => ?_ | refine sa rfl fun _ _ => ?_ | refine nk ?_ | refine mu ?_ | refine ac ?_ | refine ai ?_)
      show ∃ y, _ ∧ _
      exact ⟨i + 1, by omega, h, a0, a1, rfl, rfl⟩
    · refine Cd.f (ltZ_f (by omega)) ?_
      show _ = _ ∧ _
      exact ⟨rfl, rfl⟩
  · subst hP
    show Cd _ _ _
    refine Cd.t rfl ?_
    exact k _ hs
end Go.Proofs.YtipbbnoepphdkaaGreat

set_option linter.unusedVariables false
set_option linter.unusedSimpArgs false
namespace Go.Proofs.YtipbbnoepphdkaaGreat
open Go Go.CM
attribute [local irreducible] AsBool AsWant AsNat AsInt AsCnt AsPtr AsSlc AsLen AsStr AsAgg AsTup AsFn AsIfc Nth Sc NotNil IsNil Must Cd codeW funW Sat SatL wrapN subM mkRow ltZ leZ ltN leN
variable {con : CallT}
theorem l13same_ok (hc : Con con lives) {h st er fl : Nat} {b : Bool} {v w : Value} {l : List Nat} {L : List HP} {H : CH} {K : KP} (hs : Sat L H) (hv : Has L (Nums v l)) (hw : Has L (Nums w l)) (hl : l.length ≤ 1000000) (k : ∀ H1, Sat L H1 → K (.bool true) H1) :
    Call1 Tryz.prog con 26 [.agg ⟨t13 (u64 h) (u64 st) (iN er) (u64 fl) v (.bool b)⟩, .agg ⟨t13 (u64 h) (u64 st) (iN er) (u64 fl) w (.bool b)⟩] H K := by
  refine call_of (hc _ _ _ rfl) ?_
  rw [l13same_W]
  repeat (first | refine run ?_ | refine ct ?_ | refine cf ?_ | refine sk ?_ | refine la rfl ?_ | refine na fun _ _ _ => ?_ | refine sa rfl fun _ _ => ?_ | refine nk ?_ | refine mu ?_ | refine ac ?_ | refine ai ?_)
  rename_i p1 H2 h2 p3 H4 h4
  rw [eqN_self]
  repeat (first | refine run ?_ | refine ct ?_ | refine cf ?_ | refine sk ?_ | refine la rfl ?_ | refine na fun _ _ _ => ?_ | refine sa rfl fun _ _ => ?_ | refine nk ?_ | refine mu ?_ | refine ac ?_ | refine ai ?_)
  rw [eqN_self]
  repeat (first | refine run ?_ | refine ct ?_ | refine cf ?_ | refine sk ?_ | refine la rfl ?_ | refine na fun _ _ _ => ?_ | refine sa rfl fun _ _ => ?_ | refine nk ?_ | refine mu ?_ | refine ac ?_ | refine ai ?_)
  rw [eqZ_self]
  repeat (first | refine run ?_ | refine ct ?_ | refine cf ?_ | refine sk ?_ | refine la rfl ?_ | refine na fun _ _ _ => ?_ | refine sa rfl fun _ _ => ?_ | refine nk ?_ | refine mu ?_ | refine ac ?_ | refine ai ?_)
  refine Cd.t (by cases b <;> rfl) ?_
  repeat (first | refine run ?_ | refine ct ?_ | refine cf ?_ | refine sk ?_ | refine la rfl ?_ | refine na fun _ _ _ => ?_ | refine sa rfl fun _ _ => ?_ | refine nk ?_ | refine mu ?_ | refine ac ?_ | refine ai ?_)
  refine rSameNeed_ok hc h4 (Has.skip (Has.skip hv)) (Has.skip (Has.skip hw)) hl fun H1 h1 => ?_
  exact k _ (h1.ent (by repeat (first | exact eN _ | exact eZ | apply eC (by repeat (first | exact pH | apply pT)) | refine eD ?_)))
end Go.Proofs.YtipbbnoepphdkaaGreat

