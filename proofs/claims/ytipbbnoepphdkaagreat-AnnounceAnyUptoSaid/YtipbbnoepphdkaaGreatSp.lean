/- What the functions do to the memories and procs that they are given: their contracts. The conditions stand in each. -/
import Derived.Test.YtipbbnoepphdkaaGreatSpB
import Derived.Sort.AssemblyPlain
set_option linter.unusedVariables false
set_option linter.unusedSimpArgs false

set_option linter.unusedVariables false
set_option linter.unusedSimpArgs false
namespace Go.Proofs.YtipbbnoepphdkaaGreat
open Go Go.CM
attribute [local irreducible] AsBool AsWant AsNat AsInt AsCnt AsPtr AsSlc AsLen AsStr AsAgg AsTup AsFn AsIfc Nth Sc NotNil IsNil Must Cd codeW funW Sat SatL wrapN subM mkRow ltZ leZ ltN leN
variable {con : CallT}
/-! ### what steps keep of a memory -/
theorem qld (M : Mem) (th : Int) (a : Nat) : (M.load th a).tr.length = M.tr.length + 1 := by simp [Mem.load, Mem.note]
theorem qst (M : Mem) (th : Int) (a x : Nat) : (M.store th a x).tr.length = M.tr.length + 1 := by simp [Mem.store, Mem.note, Mem.put]
theorem qcs (M : Mem) (th : Int) (a x y : Nat) : (M.cas th a x y).tr.length = M.tr.length + 1 := by
  simp only [Mem.cas, Mem.note]
  split <;> simp [Mem.put]
/-- Numbers of 64 bits, and nothing long was allotted. -/
structure Fine (M : Mem) : Prop where
  bd : M.Bd
  vals : ∀ a ∈ M.tr, a.vals.length ≤ 1000000000
theorem fine_note {M : Mem} {c : Acs} (h : ∀ a ∈ M.tr, a.vals.length ≤ 1000000000) (hc : c.vals.length ≤ 1000000000) : ∀ a ∈ (M.note c).tr, a.vals.length ≤ 1000000000 := fun a ha => by
  simp only [Mem.note, List.mem_append, List.mem_singleton] at ha
  rcases ha with ha | rfl
  · exact h a ha
  · exact hc
/-- One access at most was made. -/
structure Nxt (M M' : Mem) : Prop where
  fine : Fine M → Fine M'
  tr : M'.tr.length ≤ M.tr.length + 1
  lo : M.tr.length ≤ M'.tr.length
theorem Nxt.refl (M : Mem) : Nxt M M := ⟨id, Nat.le_succ _, Nat.le_refl _⟩
theorem Nxt.load (M : Mem) (th : Int) (a : Nat) : Nxt M (M.load th a) := ⟨fun h => ⟨h.bd.load th a, fine_note h.vals (by simp [accLd])⟩, by rw [qld]; omega, by rw [qld]; omega⟩
theorem Nxt.store (M : Mem) (th : Int) (a : Nat) {x : Nat} (hx : x < 18446744073709551616) : Nxt M (M.store th a x) := ⟨fun h => ⟨h.bd.store th a hx, fine_note (M := M.put a x) h.vals (by simp [accSt])⟩, by rw [qst]; omega, by rw [qst]; omega⟩
theorem Nxt.cas (M : Mem) (th : Int) (a x : Nat) {y : Nat} (hy : y < 18446744073709551616) : Nxt M (M.cas th a x y) := ⟨fun h => ⟨h.bd.cas th a x hy, by
  unfold Mem.cas
  split
  · exact fine_note (M := M.put a y) h.vals (by simp [accCas])
  · exact fine_note h.vals (by simp [accCas])⟩, by rw [qcs]; omega, by rw [qcs]; omega⟩
theorem addM_lt (a b : Nat) : addM a b < 18446744073709551616 := Nat.mod_lt _ (by omega)
theorem snap_nxt (s : SnapS) (M : Mem) (th : Int) : Nxt M (s.step M th).2 := by
  unfold SnapS.step
  split
  · split
    · exact .refl M
    · exact .load M th _
  · exact .cas M th _ _ (slotW_lt ..)
  · exact .load M th _
  · exact .store M th _ (slotW_lt ..)
  · exact .load M th _
  · exact .cas M th _ _ (addM_lt ..)
  · exact .store M th _ (slotW_lt ..)
  · exact .store M th _ (slotW_lt ..)
theorem let_nxt (s : LetS) (M : Mem) (th : Int) : Nxt M (s.step M th).2 := by
  unfold LetS.step
  split
  · split
    · exact .load M th _
    · exact .refl M
  · exact .cas M th _ _ (slotW_lt ..)
theorem scan_nxt (s : ScanS) (M : Mem) (th : Int) : Nxt M (s.step M th).2 := by
  unfold ScanS.step
  split
  · exact .load M th _
  · exact .load M th _
/-! ### how many steps are left -/
def SnapS.rem (s : SnapS) : Nat := match s.at_ with | 0 => 2 * (cnt s.sl.count - s.i) + 8 | 1 => 2 * (cnt s.sl.count - s.i) + 7 | a => 8 - a
theorem genW_lt (w : Nat) : genW w < 1048576 := by unfold genW; omega
theorem snap_step (s : SnapS) (M : Mem) (th : Int) (h : s.Ok) : ((s.step M th).1.at_ ≠ 8 → (s.step M th).1.Ok) ∧ (s.step M th).1.at_ ≤ 8 ∧ (s.step M th).1.rem < s.rem ∧ ((s.step M th).1.ok = true → (s.step M th).1.i < 256 ∧ (s.step M th).1.gen < 1048576) ∧ (s.step M th).1.sl = s.sl := by
  obtain ⟨sl, at_, i, w, gen, t, ok, err⟩ := s
  obtain ⟨h1, h2, h3, h4, h5⟩ := h
  simp only at h1 h2 h3 h4 h5
  subst h2 h3
  have hc := cnt_le sl.count
  have hg := genW_lt (M.peek (addM sl.first i))
  rcases (by omega : at_ = 0 ∨ at_ = 1 ∨ at_ = 2 ∨ at_ = 3 ∨ at_ = 4 ∨ at_ = 5 ∨ at_ = 6 ∨ at_ = 7) with rfl | rfl | rfl | rfl | rfl | rfl | rfl | rfl
  · simp only [SnapS.step, SnapS.on, SnapS.cell]
    by_cases hz : cnt sl.count = 0
    · simp only [if_pos hz]; simp [SnapS.Ok, SnapS.rem] <;> omega
    · simp only [if_neg hz]
      by_cases hk : kindW (M.peek (addM sl.first i)) = 0
      · by_cases hgg : 1048575 ≤ genW (M.peek (addM sl.first i))
        · simp only [hgg, or_true, if_true]
          by_cases hi : i + 1 < cnt sl.count
          · simp only [if_pos hi]; simp [SnapS.Ok, SnapS.rem] <;> omega
          · simp only [if_neg hi]; simp [SnapS.Ok, SnapS.rem] <;> omega
        · simp only [hk, hgg, ne_eq, not_true_eq_false, or_false, if_false]; simp [SnapS.Ok, SnapS.rem] <;> omega
      · simp only [hk, ne_eq, not_false_eq_true, true_or, if_true]
        by_cases hi : i + 1 < cnt sl.count
        · simp only [if_pos hi]; simp [SnapS.Ok, SnapS.rem] <;> omega
        · simp only [if_neg hi]; simp [SnapS.Ok, SnapS.rem] <;> omega
  · simp only [SnapS.step, SnapS.on, SnapS.cell]
    cases M.swaps (addM sl.first i) w with
    | true => simp [SnapS.Ok, SnapS.rem] <;> omega
    | false =>
      simp only [Bool.false_eq_true, if_false]
      by_cases hi : i + 1 < cnt sl.count
      · simp only [if_pos hi]; simp [SnapS.Ok, SnapS.rem] <;> omega
      · simp only [if_neg hi]; simp [SnapS.Ok, SnapS.rem] <;> omega
  · simp only [SnapS.step]; simp [SnapS.Ok, SnapS.rem] <;> omega
  · simp only [SnapS.step]; simp [SnapS.Ok, SnapS.rem] <;> omega
  · simp only [SnapS.step]
    by_cases hm : sl.most ≤ M.peek sl.cam
    · simp only [if_pos hm]; simp [SnapS.Ok, SnapS.rem] <;> omega
    · simp only [if_neg hm]; simp [SnapS.Ok, SnapS.rem] <;> omega
  · simp only [SnapS.step]; simp [SnapS.Ok, SnapS.rem] <;> omega
  · simp only [SnapS.step]; simp [SnapS.Ok, SnapS.rem] <;> omega
  · simp only [SnapS.step]; simp [SnapS.Ok, SnapS.rem] <;> omega
def LetS.rem (s : LetS) : Nat := 2 - s.at_
theorem let_step (s : LetS) (M : Mem) (th : Int) (h : s.at_ < 2) : (s.step M th).1.at_ ≤ 2 ∧ (s.step M th).1.rem < s.rem ∧ (s.step M th).1.h = s.h ∧ (s.step M th).1.sl = s.sl := by
  obtain ⟨sl, h', at_, slot, w, gen, err⟩ := s
  simp only at h
  rcases (by omega : at_ = 0 ∨ at_ = 1) with rfl | rfl <;> simp only [LetS.step] <;> (repeat' split) <;> simp [LetS.rem]
theorem insU_le (x : Nat) : ∀ l : List Nat, (insU x l).length ≤ l.length + 1
  | [] => Nat.le_refl _
  | y :: r => by
    unfold insU
    split
    · simp
    · split
      · simp
      · have := insU_le x r; simp only [List.length_cons]; omega
theorem rise_le (b : Nat) : ∀ l : List Nat, (rise l b).length ≤ l.length
  | [] => Nat.le_refl _
  | x :: l => by
    show (if x < b then insU x (rise l b) else rise l b).length ≤ _
    have h1 := rise_le b l
    have h2 := insU_le x (rise l b)
    simp only [List.length_cons]
    split <;> omega
def ScanS.Ok (s : ScanS) : Prop := s.at_ < 2 ∧ s.i ≤ 256 ∧ (s.at_ = 1 → s.i < cnt s.sl.count) ∧ s.told.length ≤ s.i ∧ s.need = []
def ScanS.rem (s : ScanS) : Nat := match s.at_ with | 0 => cnt s.sl.count - s.i + 1 | 1 => cnt s.sl.count - s.i | _ => 0
theorem scan_step (s : ScanS) (M : Mem) (th : Int) (h : s.Ok) : ((s.step M th).1.at_ ≠ 2 → (s.step M th).1.Ok) ∧ (s.step M th).1.at_ ≤ 2 ∧ (s.step M th).1.at_ ≠ 0 ∧ (s.step M th).1.rem < s.rem ∧ (s.step M th).1.need.length ≤ 256 ∧ (s.step M th).1.sl = s.sl := by
  obtain ⟨sl, at_, i, fl, told, need⟩ := s
  obtain ⟨h1, h2, h3, h4, h5⟩ := h
  simp only at h1 h2 h3 h4 h5
  subst h5
  have hc := cnt_le sl.count
  rcases (by omega : at_ = 0 ∨ at_ = 1) with rfl | rfl
  · simp only [ScanS.step, ScanS.fin]
    have := rise_le (M.peek sl.cam) told
    split <;> simp [ScanS.Ok, ScanS.rem] <;> omega
  · have h6 := h3 rfl
    simp only [ScanS.step, ScanS.fin]
    by_cases h3 : kindW (M.peek (addM sl.first i)) = 3
    · simp only [if_pos h3]
      rw [if_neg (show ¬ kindW (M.peek (addM sl.first i)) = 2 by omega)]
      have := rise_le fl (told ++ [stampW (M.peek (addM sl.first i))])
      rw [List.length_append] at this
      simp only [List.length_cons, List.length_nil] at this
      split <;> simp [ScanS.Ok, ScanS.rem] <;> omega
    · simp only [if_neg h3]
      by_cases h2 : kindW (M.peek (addM sl.first i)) = 2
      · simp only [if_pos h2]
        have := rise_le (Nat.min fl (stampW (M.peek (addM sl.first i)))) told
        split <;> simp [ScanS.Ok, ScanS.rem] <;> omega
      · simp only [if_neg h2]
        have := rise_le fl told
        split <;> simp [ScanS.Ok, ScanS.rem] <;> omega
/-! ### a call, of whatever kind -/
structure P13 where
  kind : Int
  sn : SnapS
  lt : LetS
  sc : ScanS
def P13.isS (s : P13) : Bool := eqZ s.kind (Int.ofNat 0)
def P13.isN (s : P13) : Bool := eqZ s.kind (Int.ofNat 2)
noncomputable def P13.step (s : P13) (M : Mem) (th : Int) : P13 × Mem :=
  bif s.isS then ({ s with sn := (s.sn.step M th).1 }, (s.sn.step M th).2)
  else bif s.isN then ({ s with sc := (s.sc.step M th).1 }, (s.sc.step M th).2)
  else ({ s with lt := (s.lt.step M th).1 }, (s.lt.step M th).2)
def P13.fin (s : P13) : Bool :=
  bif s.isS then eqZ (Int.ofNat s.sn.at_) (Int.ofNat 8) else bif s.isN then eqZ (Int.ofNat s.sc.at_) (Int.ofNat 2) else eqZ (Int.ofNat s.lt.at_) (Int.ofNat 2)
def P13.rem (s : P13) : Nat := bif s.isS then s.sn.rem else bif s.isN then s.sc.rem else s.lt.rem
structure T13 where
  h : Nat
  st : Nat
  er : Nat
  fl : Nat
  need : List Nat
def P13.told (s : P13) : T13 :=
  bif s.isS then ⟨s.sn.handle, s.sn.stamp, s.sn.err, 0, []⟩ else bif s.isN then ⟨0, 0, 0, if s.sc.at_ = 2 then s.sc.fl else 0, s.sc.need⟩ else ⟨0, 0, s.lt.err, 0, []⟩
structure P13.Ok (s : P13) : Prop where
  sn : s.isS = true → s.sn.Ok
  sc : s.isS = false → s.isN = true → s.sc.Ok
  lt : s.isS = false → s.isN = false → s.lt.at_ < 2 ∧ s.lt.h < 18446744073709551616
/-- What may be asked what it told. -/
structure P13.Tl (s : P13) : Prop where
  sn : s.isS = true → s.sn.ok = true → s.sn.i < 256 ∧ s.sn.gen < 1048576
  sc : s.isN = true → s.sc.need.length ≤ 256 ∧ (s.sc.at_ ≠ 2 → s.sc.need = [])
  no : s.isN = false → s.sc.need = []
def P13.fresh (sl : SlotsS) (kind : Int) (h : Nat) : P13 := ⟨kind, snap0 sl, let0 sl h, scan0 sl⟩
theorem p13_isS {s : P13} (h : s.isS = true) : s.kind = Int.ofNat 0 := of_decide_eq_true h
theorem p13_isN {s : P13} (h : s.isN = true) : s.kind = Int.ofNat 2 := of_decide_eq_true h
theorem p13_not {s : P13} (h : s.isS = true) : s.isN = false := by
  unfold P13.isN
  rw [p13_isS h]; rfl
theorem p13_stepS {s : P13} (h : s.isS = true) (M : Mem) (th : Int) : s.step M th = ({ s with sn := (s.sn.step M th).1 }, (s.sn.step M th).2) := by unfold P13.step; rw [h]; rfl
theorem p13_stepN {s : P13} (h0 : s.isS = false) (h : s.isN = true) (M : Mem) (th : Int) : s.step M th = ({ s with sc := (s.sc.step M th).1 }, (s.sc.step M th).2) := by unfold P13.step; rw [h0, h]; rfl
theorem p13_stepL {s : P13} (h0 : s.isS = false) (h : s.isN = false) (M : Mem) (th : Int) : s.step M th = ({ s with lt := (s.lt.step M th).1 }, (s.lt.step M th).2) := by unfold P13.step; rw [h0, h]; rfl
theorem p13_finS {s : P13} (h : s.isS = true) : s.fin = eqZ (Int.ofNat s.sn.at_) (Int.ofNat 8) := by unfold P13.fin; rw [h]; rfl
theorem p13_finN {s : P13} (h0 : s.isS = false) (h : s.isN = true) : s.fin = eqZ (Int.ofNat s.sc.at_) (Int.ofNat 2) := by unfold P13.fin; rw [h0, h]; rfl
theorem p13_finL {s : P13} (h0 : s.isS = false) (h : s.isN = false) : s.fin = eqZ (Int.ofNat s.lt.at_) (Int.ofNat 2) := by unfold P13.fin; rw [h0, h]; rfl
theorem p13_toldS {s : P13} (h : s.isS = true) : s.told = ⟨s.sn.handle, s.sn.stamp, s.sn.err, 0, []⟩ := by unfold P13.told; rw [h]; rfl
theorem p13_toldN {s : P13} (h0 : s.isS = false) (h : s.isN = true) : s.told = ⟨0, 0, 0, if s.sc.at_ = 2 then s.sc.fl else 0, s.sc.need⟩ := by unfold P13.told; rw [h0, h]; rfl
theorem p13_toldL {s : P13} (h0 : s.isS = false) (h : s.isN = false) : s.told = ⟨0, 0, s.lt.err, 0, []⟩ := by unfold P13.told; rw [h0, h]; rfl
theorem p13_nxt (s : P13) (M : Mem) (th : Int) : Nxt M (s.step M th).2 := by
  cases h0 : s.isS with
  | true => rw [p13_stepS h0]; exact snap_nxt s.sn M th
  | false =>
    cases h2 : s.isN with
    | true => rw [p13_stepN h0 h2]; exact scan_nxt s.sc M th
    | false => rw [p13_stepL h0 h2]; exact let_nxt s.lt M th
theorem eqZ_ne {a b : Nat} (h : eqZ (Int.ofNat a) (Int.ofNat b) = false) : a ≠ b := fun e => by rw [eqZ_t e] at h; cases h
theorem p13_step (s : P13) (M : Mem) (th : Int) (h : s.Ok) (ht : s.Tl) : ((s.step M th).1.fin = false → (s.step M th).1.Ok) ∧ (s.step M th).1.Tl ∧ (s.step M th).1.rem < s.rem := by
  cases h0 : s.isS with
  | true =>
    have hn : s.isN = false := p13_not h0
    obtain ⟨g1, g2, g3, g4, g5⟩ := snap_step s.sn M th (h.sn h0)
    rw [p13_stepS h0]
    generalize (s.sn.step M th).1 = x at *
    have i0 : P13.isS { s with sn := x } = true := h0
    refine ⟨fun hf => ⟨fun _ => g1 (eqZ_ne ((p13_finS i0).symm.trans hf)), fun q _ => (by rw [i0] at q; cases q), fun q _ => (by rw [i0] at q; cases q)⟩, ⟨fun _ => g4, fun q => ht.sc q, fun q => ht.no q⟩, ?_⟩
    show (bif P13.isS { s with sn := x } then x.rem else _) < (bif s.isS then s.sn.rem else _)
    rw [i0, h0]; exact g3
  | false =>
    cases h2 : s.isN with
    | true =>
      obtain ⟨g1, g2, g3, g4, g5, g6⟩ := scan_step s.sc M th (h.sc h0 h2)
      rw [p13_stepN h0 h2]
      generalize (s.sc.step M th).1 = x at *
      have i0 : P13.isS { s with sc := x } = false := h0
      have i2 : P13.isN { s with sc := x } = true := h2
      refine ⟨fun hf => ⟨fun q => (by rw [i0] at q; cases q), fun _ _ => g1 (eqZ_ne ((p13_finN i0 i2).symm.trans hf)), fun _ q => (by rw [i2] at q; cases q)⟩, ⟨fun q => (by rw [i0] at q; cases q), fun _ => ⟨g5, fun q => (g1 q).2.2.2.2⟩, fun q => (by rw [i2] at q; cases q)⟩, ?_⟩
      show (bif P13.isS { s with sc := x } then s.sn.rem else bif P13.isN { s with sc := x } then x.rem else _) < (bif s.isS then s.sn.rem else bif s.isN then s.sc.rem else _)
      rw [i0, h0, i2, h2]; exact g4
    | false =>
      obtain ⟨g1, g2, g3, g4⟩ := let_step s.lt M th (h.lt h0 h2).1
      have g5 := (h.lt h0 h2).2
      rw [p13_stepL h0 h2]
      generalize (s.lt.step M th).1 = x at *
      have i0 : P13.isS { s with lt := x } = false := h0
      have i2 : P13.isN { s with lt := x } = false := h2
      refine ⟨fun hf => ⟨fun q => (by rw [i0] at q; cases q), fun _ q => (by rw [i2] at q; cases q), fun _ _ => ⟨?_, by show x.h < _; rw [g3]; exact g5⟩⟩, ⟨fun q => (by rw [i0] at q; cases q), fun q => (by rw [i2] at q; cases q), fun q => ht.no h2⟩, ?_⟩
      · have := eqZ_ne ((p13_finL i0 i2).symm.trans hf)
        show x.at_ < 2
        have : x.at_ ≠ 2 := this
        omega
      · show (bif P13.isS { s with lt := x } then s.sn.rem else bif P13.isN { s with lt := x } then s.sc.rem else x.rem) < (bif s.isS then s.sn.rem else bif s.isN then s.sc.rem else s.lt.rem)
        rw [i0, h0, i2, h2]; exact g2
theorem p13_fresh (sl : SlotsS) (kind : Int) {h : Nat} (hh : h < 18446744073709551616) : (P13.fresh sl kind h).Ok ∧ (P13.fresh sl kind h).Tl ∧ (P13.fresh sl kind h).rem ≤ 520 ∧ (P13.fresh sl kind h).fin = false := by
  have hc := cnt_le sl.count
  refine ⟨⟨fun _ => ⟨by show 0 < 8; omega, rfl, rfl, by show 0 < 1048576; omega, by show 0 < 256; omega⟩, fun _ _ => ⟨by show 0 < 2; omega, by show 0 ≤ 256; omega, fun q => (by cases q), Nat.le_refl _, rfl⟩, fun _ _ => ⟨by show 0 < 2; omega, hh⟩⟩, ⟨fun _ q => (by cases q), fun _ => ⟨(by show 0 ≤ 256; omega), fun _ => rfl⟩, fun _ => rfl⟩, ?_, ?_⟩
  · unfold P13.rem
    cases (P13.fresh sl kind h).isS with
    | true => show 2 * (cnt sl.count - 0) + 8 ≤ 520; omega
    | false =>
      cases (P13.fresh sl kind h).isN with
      | true => show cnt sl.count - 0 + 1 ≤ 520; omega
      | false => show 2 - 0 ≤ 520; omega
  · unfold P13.fin
    cases (P13.fresh sl kind h).isS with
    | true => rfl
    | false => cases (P13.fresh sl kind h).isN <;> rfl
end Go.Proofs.YtipbbnoepphdkaaGreat

set_option linter.unusedVariables false
set_option linter.unusedSimpArgs false
namespace Go.Proofs.YtipbbnoepphdkaaGreat
open Go Go.CM
attribute [local irreducible] AsBool AsWant AsNat AsInt AsCnt AsPtr AsSlc AsLen AsStr AsAgg AsTup AsFn AsIfc Nth Sc NotNil IsNil Must Cd codeW funW Sat SatL wrapN subM mkRow ltZ leZ ltN leN
variable {con : CallT}
theorem eqZ_dec (a b : Nat) : eqZ (Int.ofNat a) (Int.ofNat b) = decide (a = b) := by
  by_cases h : a = b
  · rw [eqZ_t h, decide_eq_true h]
  · rw [eqZ_f h, decide_eq_false h]
theorem vec_nil {x : Value} {e s : Nat} {h : PH} (a : Vec x e s [] h) : x = snil := by
  rcases a.2 with ⟨rfl, _⟩ | ⟨b, hb, _⟩
  · rfl
  · exact absurd rfl hb
/-- A call of the program. -/
def PrAt13 (p : Nat) (s : P13) : HP := fun h => ∃ p1 p2 p3 g sn w v, (JG s.sn g ∧ LetJ s.lt sn) ∧
  SatL [Own p [i64 s.kind, ptr p1 0, ptr p2 0, ptr p3 0], Own p1 (snapC s.sn.at_ s.sn g), Own p2 (letC s.lt sn), Own p3 (scanC s.sc.sl (decide (s.sc.at_ ≠ 0)) s.sc.i s.sc.fl w v (decide (s.sc.at_ = 2))), Vec w tU 1 (rowsU s.sc.need), TV s.sc.at_ s.sc.told v] h
/-- A call of the document. -/
def RAt13 (p : Nat) (s : P13) : HP := fun h => ∃ w v, SatL [Own p (d13 s.kind s.sn s.lt s.sc w v (t13 (u64 s.told.h) (u64 s.told.st) (iN s.told.er) (u64 s.told.fl) w (.bool s.fin))), Vec w tU 1 (rowsU s.sc.need), Vec v tU 1 (rowsU s.sc.told)] h
theorem p13step_ok (hc : Con con lives) (s : P13) {L R1 R2 R3 : List HP} {H : CH} {p q m n : Nat} {th : Int} {M : Mem} {K : KP} (hs : Sat L H) (hm : Pull L (MemP m M) R1) (hv : Pull R1 (ViewAt q m th n) R2) (hp : Pull R2 (PrAt13 p s) R3)
    (hn : n < 1000000000) (ht : M.tr.length < 1000000000) (hb : M.Bd) (hok : s.Ok)
    (k : ∀ n' H1, n' ≤ n + 1 → Sat (PrAt13 p (s.step M th).1 :: MemP m (s.step M th).2 :: ViewAt q m th n' :: R3) H1 → K (.bool (s.step M th).1.fin) H1) :
    Call1 Tryz.prog con 24 [ptr p 0, ptr q 0] H K := by
  have hs0 := hs.takes (.cons hm (.cons hv (.cons hp .nil)))
  simp only [List.cons_append, List.nil_append] at hs0
  clear hs hm hv hp
  obtain ⟨h1, h2, s1, s2, d, ⟨p1, p2, p3, g, sn, w, v, ⟨hg, hj⟩, hin⟩, hR⟩ := hs0.opens (A := PrAt13 p s) (.there (.there .here))
  have hs1 := Sat.merge s1 s2 d hin hR
  simp only [List.cons_append, List.nil_append] at hs1
  clear hs0
  refine l13step1_ok hc hs1 (fun h0 => ?_) (fun h2 => ?_) (fun h0 h2 => ?_)
  · have h0' : s.isS = true := h0
    rw [p13_stepS h0'] at k
    dsimp only at k
    refine snapStep_ok hc s.sn (g := g) hs1 (by repeat (first | exact pH | apply pT)) (by repeat (first | exact pH | apply pT)) (by repeat (first | exact pH | apply pT)) hn ht hb (hok.sn h0') hg fun g' n' H1 hn' hg' h1 => ?_
    have e : P13.fin { s with sn := (s.sn.step M th).1 } = eqZ (Int.ofNat (s.sn.step M th).1.at_) (Int.ofNat 8) := p13_finS h0'
    rw [← e]
    exact k n' H1 hn' (Sat.close (L1 := [_, _, _, _, _, _]) (h1.ent (by repeat (first | exact eN _ | exact eZ | apply eC (by repeat (first | exact pH | apply pT)) | refine eD ?_))) fun g a => ⟨p1, p2, p3, g', sn, w, v, ⟨hg', hj⟩, a⟩)
  · have h2' : s.isN = true := h2
    have h0' : s.isS = false := by
      cases e : s.isS with
      | false => rfl
      | true => rw [p13_not e] at h2'; cases h2'
    obtain ⟨k1, k2, k3, k4, k5⟩ := hok.sc h0' h2'
    have hcl := cnt_le s.sc.sl.count
    rw [p13_stepN h0' h2'] at k
    dsimp only at k
    rw [k5] at hs1
    have hs2 : Sat (Vec w tU 1 (rowsU []) :: Own p [i64 s.kind, ptr p1 0, ptr p2 0, ptr p3 0] :: Own p1 (snapC s.sn.at_ s.sn g) :: Own p2 (letC s.lt sn) :: Own p3 (scanC s.sc.sl (decide (s.sc.at_ ≠ 0)) s.sc.i s.sc.fl w v (decide (s.sc.at_ = 2))) :: TV s.sc.at_ s.sc.told v :: MemP m M :: ViewAt q m th n :: R3) H := hs1.ent (by repeat (first | exact eN _ | exact eZ | apply eC (by repeat (first | exact pH | apply pT)) | refine eD ?_))
    obtain rfl := vec_nil (hs2.has Has.vec)
    have hs3 : Sat (TV s.sc.at_ s.sc.told v :: Own p [i64 s.kind, ptr p1 0, ptr p2 0, ptr p3 0] :: Own p1 (snapC s.sn.at_ s.sn g) :: Own p2 (letC s.lt sn) :: Own p3 (scanC s.sc.sl (decide (s.sc.at_ ≠ 0)) s.sc.i s.sc.fl snil v (decide (s.sc.at_ = 2))) :: MemP m M :: ViewAt q m th n :: R3) H := hs2.ent (by repeat (first | exact eN _ | exact eZ | apply eC (by repeat (first | exact pH | apply pT)) | refine eD ?_))
    have hs4 : Sat (Vec v tU 1 (rowsU s.sc.told) :: Own p [i64 s.kind, ptr p1 0, ptr p2 0, ptr p3 0] :: Own p1 (snapC s.sn.at_ s.sn g) :: Own p2 (letC s.lt sn) :: Own p3 (scanC s.sc.sl (decide (s.sc.at_ ≠ 0)) s.sc.i s.sc.fl snil v (decide (s.sc.at_ = 2))) :: MemP m M :: ViewAt q m th n :: R3) H := hs3.imp fun g a => by
      rcases a with a | a
      · omega
      · exact a
    rw [show decide (s.sc.at_ = 2) = false from decide_eq_false (by omega), show decide (s.sc.at_ ≠ 0) = decide (s.sc.at_ = 1) from decide_eq_decide.2 (by omega)] at hs4
    obtain ⟨q1, q2, q3, q4, q5, q6⟩ := scan_step s.sc M th (hok.sc h0' h2')
    refine scanStep_ok hc s.sc hs4 (by repeat (first | exact pH | apply pT)) (by repeat (first | exact pH | apply pT)) (by repeat (first | exact pH | apply pT)) (by repeat (first | exact pH | apply pT)) hn ht hb k1 k2 (fun h => by have := k3 h; omega) k4 k5 fun w' v' n' H1 hn' h1 => ?_
    have e : P13.fin { s with sc := (s.sc.step M th).1 } = decide ((s.sc.step M th).1.at_ = 2) := (p13_finN (s := { s with sc := (s.sc.step M th).1 }) h0' h2').trans (eqZ_dec _ _)
    rw [← e]
    have h5 : Sat ([Own p [i64 s.kind, ptr p1 0, ptr p2 0, ptr p3 0], Own p1 (snapC s.sn.at_ s.sn g), Own p2 (letC s.lt sn), Own p3 (scanC (s.sc.step M th).1.sl true (s.sc.step M th).1.i (s.sc.step M th).1.fl w' v' (decide ((s.sc.step M th).1.at_ = 2))), Vec w' tU 1 (rowsU (s.sc.step M th).1.need), TV (s.sc.step M th).1.at_ (s.sc.step M th).1.told v'] ++ (MemP m (s.sc.step M th).2 :: ViewAt q m th n' :: R3)) H1 := h1.ent (by repeat (first | exact eN _ | exact eZ | apply eC (by repeat (first | exact pH | apply pT)) | refine eD ?_))
    refine k n' H1 hn' (h5.close fun g0 a => ⟨p1, p2, p3, g, sn, w', v', ⟨hg, hj⟩, ?_⟩)
    dsimp only
    rw [decide_eq_true q3]
    exact a
  · have h0' : s.isS = false := h0
    have h2' : s.isN = false := h2
    rw [p13_stepL h0' h2'] at k
    dsimp only at k
    refine letStep_ok hc s.lt (sn := sn) hs1 (by repeat (first | exact pH | apply pT)) (by repeat (first | exact pH | apply pT)) (by repeat (first | exact pH | apply pT)) hn ht hb (hok.lt h0' h2').2 (hok.lt h0' h2').1 hj fun sn' n' H1 hn' hj' h1 => ?_
    have e : P13.fin { s with lt := (s.lt.step M th).1 } = eqZ (Int.ofNat (s.lt.step M th).1.at_) (Int.ofNat 2) := p13_finL h0' h2'
    rw [← e]
    exact k n' H1 hn' (Sat.close (L1 := [_, _, _, _, _, _]) (h1.ent (by repeat (first | exact eN _ | exact eZ | apply eC (by repeat (first | exact pH | apply pT)) | refine eD ?_))) fun g0 a => ⟨p1, p2, p3, g, sn', w, v, ⟨hg, hj'⟩, a⟩)
set_option maxRecDepth 100000 in
theorem r13step_ok (hc : Con con lives) (s : P13) {L R1 R2 : List HP} {H : CH} {p m : Nat} {th : Int} {M : Mem} {K : KP} (hs : Sat L H) (hm : Pull L (RefP m M) R1) (hp : Pull R1 (RAt13 p s) R2)
    (ht : M.tr.length < 1000000000) (hb : M.Bd) (hok : s.Ok) (htl : s.Tl)
    (k : ∀ H1, Sat (RAt13 p (s.step M th).1 :: RefP m (s.step M th).2 :: R2) H1 → K (.bool (s.step M th).1.fin) H1) :
    Call1 Tryz.prog con 25 [ptr p 0, ptr m 0, i64 th] H K := by
  have hs0 := hs.takes (.cons hm (.cons hp .nil))
  simp only [List.cons_append, List.nil_append] at hs0
  clear hs hm hp
  obtain ⟨h1, h2, s1, s2, d, ⟨w, v, hin⟩, hR⟩ := hs0.opens (A := RAt13 p s) (.there .here)
  have hs1 := Sat.merge s1 s2 d hin hR
  simp only [List.cons_append, List.nil_append] at hs1
  clear hs0
  cases h0 : s.isS with
  | true =>
    rw [p13_stepS h0] at k
    dsimp only at k
    have ek := p13_isS h0
    rw [ek] at hs1
    refine rProc0_ok hc s.sn hs1 (by repeat (first | exact pH | apply pT)) (by repeat (first | exact pH | apply pT)) ht hb (hok.sn h0) fun H1 b hb' h1 => ?_
    have e : P13.fin { s with sn := (s.sn.step M th).1 } = b := (p13_finS (s := { s with sn := (s.sn.step M th).1 }) h0).trans hb'.symm
    rw [← e]
    have e2 := p13_toldS (s := { s with sn := (s.sn.step M th).1 }) h0
    have e3 := p13_toldS h0
    have h5 : Sat ([Own p (d13 (Int.ofNat 0) (s.sn.step M th).1 s.lt s.sc w v (t13 (u64 (s.sn.step M th).1.handle) (u64 (s.sn.step M th).1.stamp) (iN (s.sn.step M th).1.err) (u64 s.told.fl) w (.bool b))), Vec w tU 1 (rowsU s.sc.need), Vec v tU 1 (rowsU s.sc.told)] ++ (RefP m (s.sn.step M th).2 :: R2)) H1 := h1.ent (by repeat (first | exact eN _ | exact eZ | apply eC (by repeat (first | exact pH | apply pT)) | refine eD ?_))
    refine k H1 (h5.close fun g a => ⟨w, v, ?_⟩)
    rw [e2, e]
    rw [e3] at a
    dsimp only
    rw [ek]
    exact a
  | false =>
    cases h2 : s.isN with
    | true =>
      rw [p13_stepN h0 h2] at k
      dsimp only at k
      have ek := p13_isN h2
      obtain ⟨k1, k2, k3, k4, k5⟩ := hok.sc h0 h2
      have hcl := cnt_le s.sc.sl.count
      rw [ek, k5] at hs1
      have hs2 : Sat (Vec w tU 1 (rowsU []) :: Own p (d13 (Int.ofNat 2) s.sn s.lt s.sc w v (t13 (u64 s.told.h) (u64 s.told.st) (iN s.told.er) (u64 s.told.fl) w (.bool s.fin))) :: Vec v tU 1 (rowsU s.sc.told) :: RefP m M :: R2) H := hs1.ent (by repeat (first | exact eN _ | exact eZ | apply eC (by repeat (first | exact pH | apply pT)) | refine eD ?_))
      obtain rfl := vec_nil (hs2.has Has.vec)
      obtain ⟨q1, q2, q3, q4, q5, q6⟩ := scan_step s.sc M th (hok.sc h0 h2)
      refine rProc2_ok hc s.sc hs2 (by repeat (first | exact pH | apply pT)) (by repeat (first | exact pH | apply pT)) (by repeat (first | exact pH | apply pT)) ht hb k1 k2 (fun h => by have := k3 h; omega) k4 k5 fun w' v' H1 b hb' h1 => ?_
      have e : P13.fin { s with sc := (s.sc.step M th).1 } = b := (p13_finN (s := { s with sc := (s.sc.step M th).1 }) h0 h2).trans hb'.symm
      rw [← e]
      have e2 := p13_toldN (s := { s with sc := (s.sc.step M th).1 }) h0 h2
      have e3 := p13_toldN h0 h2
      have h5 : Sat ([Own p (d13 (Int.ofNat 2) s.sn s.lt (s.sc.step M th).1 w' v' (t13 (u64 s.told.h) (u64 s.told.st) (iN s.told.er) (u64 (if (s.sc.step M th).1.at_ = 2 then (s.sc.step M th).1.fl else 0)) w' (.bool b))), Vec w' tU 1 (rowsU (s.sc.step M th).1.need), Vec v' tU 1 (rowsU (s.sc.step M th).1.told)] ++ (RefP m (s.sc.step M th).2 :: R2)) H1 := h1.ent (by repeat (first | exact eN _ | exact eZ | apply eC (by repeat (first | exact pH | apply pT)) | refine eD ?_))
      refine k H1 (h5.close fun g a => ⟨w', v', ?_⟩)
      rw [e2, e]
      rw [e3] at a
      dsimp only
      rw [ek]
      exact a
    | false =>
      rw [p13_stepL h0 h2] at k
      dsimp only at k
      refine rProc1_ok hc s.lt hs1 (by repeat (first | exact pH | apply pT)) (by repeat (first | exact pH | apply pT)) h0 h2 ht hb (hok.lt h0 h2).2 (hok.lt h0 h2).1 fun H1 b hb' h1 => ?_
      have e : P13.fin { s with lt := (s.lt.step M th).1 } = b := (p13_finL (s := { s with lt := (s.lt.step M th).1 }) h0 h2).trans hb'.symm
      rw [← e]
      have e2 := p13_toldL (s := { s with lt := (s.lt.step M th).1 }) h0 h2
      have e3 := p13_toldL h0 h2
      have h5 : Sat ([Own p (d13 s.kind s.sn (s.lt.step M th).1 s.sc w v (t13 (u64 s.told.h) (u64 s.told.st) (iN (s.lt.step M th).1.err) (u64 s.told.fl) w (.bool b))), Vec w tU 1 (rowsU s.sc.need), Vec v tU 1 (rowsU s.sc.told)] ++ (RefP m (s.lt.step M th).2 :: R2)) H1 := h1.ent (by repeat (first | exact eN _ | exact eZ | apply eC (by repeat (first | exact pH | apply pT)) | refine eD ?_))
      refine k H1 (h5.close fun g a => ⟨w, v, ?_⟩)
      rw [e2, e]
      rw [e3] at a
      exact a
/-- A scan that is not done tells none. -/
theorem l13told2n_ok (hc : Con con lives) (s : ScanS) {b st : Bool} {w v : Value} {L R1 R2 : List HP} {H : CH} {p p1 p2 p3 : Nat} {K : KP} (hs : Sat L H) (hp : Pull L (Own p [i64 (Int.ofNat 2), ptr p1 0, ptr p2 0, ptr p3 0]) R1) (hq : Pull R1 (Own p3 (scanC s.sl st s.i s.fl w v (decide (s.at_ = 2)))) R2) (hw : Has R2 (Nums w s.need)) (hl : s.need.length ≤ 1000000) (hat : s.at_ ≠ 2)
    (k : ∀ H1, Sat (Own p [i64 (Int.ofNat 2), ptr p1 0, ptr p2 0, ptr p3 0] :: Own p3 (scanC s.sl st s.i s.fl w v (decide (s.at_ = 2))) :: R2) H1 → K (.agg ⟨t13 (u64 0) (u64 0) (iN 0) (u64 0) snil (.bool b)⟩) H1) : Call1 Tryz.prog con 27 [ptr p 0, .bool b] H K := by
  refine call_of (hc _ _ _ rfl) ?_
  rw [l13told_W]
  have hs0 := hs.takes (.cons hp (.cons hq .nil))
  simp only [List.cons_append, List.nil_append] at hs0
  clear hs hp hq
  repeat (first | refine run ?_ | refine ct ?_ | refine cf ?_ | refine sk ?_ | refine la rfl ?_ | refine na fun _ _ _ => ?_ | refine sa rfl fun _ _ => ?_ | refine nk ?_ | refine mu ?_ | refine ac ?_ | refine ai ?_)
  refine stN (by assumption) (Nat.le_of_ble_eq_true rfl) rfl fun H5 h5 => ?_
  repeat (first | refine run ?_ | refine ct ?_ | refine cf ?_ | refine sk ?_ | refine la rfl ?_ | refine na fun _ _ _ => ?_ | refine sa rfl fun _ _ => ?_ | refine nk ?_ | refine mu ?_ | refine ac ?_ | refine ai ?_)
  refine scanNeed_ok hc s (st := st) (w := w) (v := v) h5 (Has.skip (Has.skip (Has.skip (Has.skip hw)))) hl (fun _ H6 h6 => ?_) fun h => absurd h hat
  repeat (first | refine run ?_ | refine ct ?_ | refine cf ?_ | refine sk ?_ | refine la rfl ?_ | refine na fun _ _ _ => ?_ | refine sa rfl fun _ _ => ?_ | refine nk ?_ | refine mu ?_ | refine ac ?_ | refine ai ?_)
  refine stN h6 (Nat.le_of_ble_eq_true rfl) rfl fun H7 h7 => ?_
  repeat (first | refine run ?_ | refine ct ?_ | refine cf ?_ | refine sk ?_ | refine la rfl ?_ | refine na fun _ _ _ => ?_ | refine sa rfl fun _ _ => ?_ | refine nk ?_ | refine mu ?_ | refine ac ?_ | refine ai ?_)
  refine stN (by assumption) (Nat.le_of_ble_eq_true rfl) rfl fun H8 h8 => ?_
  repeat (first | refine run ?_ | refine ct ?_ | refine cf ?_ | refine sk ?_ | refine la rfl ?_ | refine na fun _ _ _ => ?_ | refine sa rfl fun _ _ => ?_ | refine nk ?_ | refine mu ?_ | refine ac ?_ | refine ai ?_)
  exact k _ (h8.ent (by repeat (first | exact eN _ | exact eZ | apply eC (by repeat (first | exact pH | apply pT)) | refine eD ?_)))
/-- What it told, asked of the program. -/
theorem p13told_ok (hc : Con con lives) (s : P13) {b : Bool} {L R : List HP} {H : CH} {p : Nat} {K : KP} (hs : Sat L H) (hp : Pull L (PrAt13 p s) R) (htl : s.Tl)
    (k : ∀ w H1, Sat (Nums w s.told.need :: PrAt13 p s :: R) H1 → K (.agg ⟨t13 (u64 s.told.h) (u64 s.told.st) (iN s.told.er) (u64 s.told.fl) w (.bool b)⟩) H1) : Call1 Tryz.prog con 27 [ptr p 0, .bool b] H K := by
  have hs0 := hs.pull hp
  clear hs hp
  obtain ⟨h1, h2, s1, s2, d, ⟨p1, p2, p3, g, sn, w, v, ⟨hg, hj⟩, hin⟩, hR⟩ := hs0.opens (A := PrAt13 p s) .here
  have hs1 := Sat.merge s1 s2 d hin hR
  simp only [List.cons_append, List.nil_append] at hs1
  clear hs0
  have back : ∀ {H1 : CH}, Sat (Own p [i64 s.kind, ptr p1 0, ptr p2 0, ptr p3 0] :: Own p1 (snapC s.sn.at_ s.sn g) :: Own p2 (letC s.lt sn) :: Own p3 (scanC s.sc.sl (decide (s.sc.at_ ≠ 0)) s.sc.i s.sc.fl w v (decide (s.sc.at_ = 2))) :: Vec w tU 1 (rowsU s.sc.need) :: TV s.sc.at_ s.sc.told v :: R) H1 → Sat (PrAt13 p s :: R) H1 := fun h => Sat.close (L1 := [_, _, _, _, _, _]) h fun g' a => ⟨p1, p2, p3, g, sn, w, v, ⟨hg, hj⟩, a⟩
  cases h0 : s.isS with
  | true =>
    have e := p13_toldS h0
    rw [e] at k
    have ek := p13_isS h0
    rw [ek] at hs1
    refine l13told0_ok hc s.sn (a := s.sn.at_) (g := g) hs1 (by repeat (first | exact pH | apply pT)) (by repeat (first | exact pH | apply pT)) hg (htl.sn h0) fun H1 h1 => ?_
    rw [← ek] at h1
    exact k snil H1 (Sat.nil (back (h1.ent (by repeat (first | exact eN _ | exact eZ | apply eC (by repeat (first | exact pH | apply pT)) | refine eD ?_)))))
  | false =>
    cases h2 : s.isN with
    | true =>
      have e := p13_toldN h0 h2
      rw [e] at k
      have ek := p13_isN h2
      rw [ek] at hs1
      obtain ⟨t1, t2⟩ := htl.sc h2
      by_cases hat : s.sc.at_ = 2
      · simp only [if_pos hat] at k
        refine l13told2_ok hc s.sc (v := v) (w := w) hs1 (by repeat (first | exact pH | apply pT)) (by repeat (first | exact pH | apply pT)) (Has.skip (Has.skip (fun H g => Vec.nums (Has.vec H g)))) (by omega) hat fun w' H1 h1 => ?_
        rw [← ek] at h1
        have h3 : Sat (Own p [i64 s.kind, ptr p1 0, ptr p2 0, ptr p3 0] :: Own p1 (snapC s.sn.at_ s.sn g) :: Own p2 (letC s.lt sn) :: Own p3 (scanC s.sc.sl (decide (s.sc.at_ ≠ 0)) s.sc.i s.sc.fl w v (decide (s.sc.at_ = 2))) :: Vec w tU 1 (rowsU s.sc.need) :: TV s.sc.at_ s.sc.told v :: Nums w' s.sc.need :: R) H1 := h1.ent (by repeat (first | exact eN _ | exact eZ | apply eC (by repeat (first | exact pH | apply pT)) | refine eD ?_))
        have h4 : Sat (PrAt13 p s :: Nums w' s.sc.need :: R) H1 := Sat.close (L1 := [_, _, _, _, _, _]) h3 fun g' a => ⟨p1, p2, p3, g, sn, w, v, ⟨hg, hj⟩, a⟩
        exact k w' H1 (h4.ent (by repeat (first | exact eN _ | exact eZ | apply eC (by repeat (first | exact pH | apply pT)) | refine eD ?_)))
      · simp only [if_neg hat] at k
        have hn0 := t2 hat
        refine l13told2n_ok hc s.sc (v := v) (w := w) hs1 (by repeat (first | exact pH | apply pT)) (by repeat (first | exact pH | apply pT)) (Has.skip (Has.skip (fun H g => Vec.nums (Has.vec H g)))) (by omega) hat fun H1 h1 => ?_
        rw [← ek] at h1
        have h4 := Sat.nil (back (h1.ent (by repeat (first | exact eN _ | exact eZ | apply eC (by repeat (first | exact pH | apply pT)) | refine eD ?_))))
        rw [← hn0] at h4
        exact k snil H1 h4
    | false =>
      have e := p13_toldL h0 h2
      rw [e] at k
      refine l13told1_ok hc s.lt (sn := sn) hs1 (by repeat (first | exact pH | apply pT)) (by repeat (first | exact pH | apply pT)) h0 h2 fun H1 h1 => ?_
      exact k snil H1 (Sat.nil (back (h1.ent (by repeat (first | exact eN _ | exact eZ | apply eC (by repeat (first | exact pH | apply pT)) | refine eD ?_)))))
theorem begin13_ok (hc : Con con lives) (sl : SlotsS) {kind : Int} {h et : Nat} {v : Value} {rows : List (List Value)} {hd : List Nat} {L : List HP} {H : CH} {K : KP} (hs : Sat L H) (hv : Has L (Vec v et 6 rows)) (hl : rows.length ≤ 1000000000) (hln : hd.length = rows.length)
    (hr : ∀ (i : Nat) row x, rows[i]? = some row → hd[i]? = some x → row[0]? = some (u64 x))
    (k : ∀ p H1, Sat (PrAt13 p (P13.fresh sl kind (bh kind h hd)) :: L) H1 → K (ptr p 0) H1) : Call1 Tryz.prog con 22 [.agg ⟨[u64 sl.cam, u64 sl.first, i64 sl.count, u64 sl.most]⟩, .agg ⟨[i64 kind, u64 h]⟩, v] H K := by
  refine l13begin_ok hc sl hs hv hl hln hr fun p p1 p2 p3 H1 h1 => k p H1 ?_
  have h2 : Sat (TV 0 [] snil :: Vec snil tU 1 (rowsU []) :: Own p [i64 kind, ptr p1 0, ptr p2 0, ptr p3 0] :: Own p1 (snapC 0 (snap0 sl) 0) :: Own p2 (letC (let0 sl (bh kind h hd)) false) :: Own p3 (scanC sl false 0 0 snil snil false) :: L) H1 := (h1.nilV (e := tU) (s := 1)).triv fun g => .inr (Vec.nil g)
  exact Sat.close (L1 := [_, _, _, _, _, _]) (h2.ent (by repeat (first | exact eN _ | exact eZ | apply eC (by repeat (first | exact pH | apply pT)) | refine eD ?_))) fun g a => ⟨p1, p2, p3, 0, false, snil, snil, ⟨fun q => by simp [snap0, P13.fresh] at q, ⟨fun _ => rfl, fun q => by simp [let0, P13.fresh] at q⟩⟩, a⟩
theorem rbegin13_ok (hc : Con con lives) (sl : SlotsS) {kind : Int} {h et : Nat} {v : Value} {rows : List (List Value)} {hd : List Nat} {L : List HP} {H : CH} {K : KP} (hs : Sat L H) (hv : Has L (Vec v et 6 rows)) (hl : rows.length ≤ 1000000000) (hln : hd.length = rows.length)
    (hr : ∀ (i : Nat) row x, rows[i]? = some row → hd[i]? = some x → row[0]? = some (u64 x))
    (k : ∀ p H1, Sat (RAt13 p (P13.fresh sl kind (bh kind h hd)) :: L) H1 → K (ptr p 0) H1) : Call1 Tryz.prog con 23 [.agg ⟨[u64 sl.cam, u64 sl.first, i64 sl.count, u64 sl.most]⟩, .agg ⟨[i64 kind, u64 h]⟩, v] H K := by
  refine rBegin13_ok hc sl hs hv hl hln hr fun p H1 h1 => k p H1 ?_
  have h2 := ((h1.nilV (e := tU) (s := 1)).nilV (e := tU) (s := 1))
  have h5 : Sat ([Own p (d13 kind (snap0 sl) (let0 sl (bh kind h hd)) (scan0 sl) snil snil z13), Vec snil tU 1 [], Vec snil tU 1 []] ++ L) H1 := h2.ent (by repeat (first | exact eN _ | exact eZ | apply eC (by repeat (first | exact pH | apply pT)) | refine eD ?_))
  refine h5.close fun g a => ⟨snil, snil, ?_⟩
  have e1 : (P13.fresh sl kind (bh kind h hd)).told = ⟨0, 0, 0, 0, []⟩ := by
    unfold P13.told
    cases (P13.fresh sl kind (bh kind h hd)).isS with
    | true => rfl
    | false => cases (P13.fresh sl kind (bh kind h hd)).isN <;> rfl
  have e2 : (P13.fresh sl kind (bh kind h hd)).fin = false := by
    unfold P13.fin
    cases (P13.fresh sl kind (bh kind h hd)).isS with
    | true => rfl
    | false => cases (P13.fresh sl kind (bh kind h hd)).isN <;> rfl
  rw [e1, e2]
  exact a
end Go.Proofs.YtipbbnoepphdkaaGreat

set_option linter.unusedVariables false
set_option linter.unusedSimpArgs false
namespace Go.Proofs.YtipbbnoepphdkaaGreat
open Go Go.CM
theorem Same.agg6 {h st er fl : Nat} {p : Option Addr} {l c : Nat} {b : Bool} {K : Prop} (k : K) : Same (.agg ⟨[u64 h, u64 st, iN er, u64 fl, .slice p l c, .bool b]⟩) (.agg ⟨[u64 h, u64 st, iN er, u64 fl, .slice p l c, .bool b]⟩) K := ⟨Must.mk (by simp [veq, veqL]) k⟩
instance {h st er fl : Nat} {p : Option Addr} {l c : Nat} {b : Bool} {K : Prop} : Stp (Same (.agg ⟨[u64 h, u64 st, iN er, u64 fl, .slice p l c, .bool b]⟩) (.agg ⟨[u64 h, u64 st, iN er, u64 fl, .slice p l c, .bool b]⟩) K) K := ⟨Same.agg6⟩
attribute [local irreducible] AsBool AsWant AsNat AsInt AsCnt AsPtr AsSlc AsLen AsStr AsAgg AsTup AsFn AsIfc Nth Sc NotNil IsNil Must Cd codeW funW Sat SatL wrapN subM mkRow ltZ leZ ltN leN
variable {con : CallT}
theorem p13_need {s : P13} (h : s.Tl) : s.told.need = s.sc.need := by
  cases h0 : s.isS with
  | true => rw [p13_toldS h0, h.no (p13_not h0)]
  | false =>
    cases h2 : s.isN with
    | true => rw [p13_toldN h0 h2]
    | false => rw [p13_toldL h0 h2, h.no h2]
theorem p13_need_le {s : P13} (h : s.Tl) : s.told.need.length ≤ 256 := by
  rw [p13_need h]
  cases h2 : s.isN with
  | true => exact (h.sc h2).1
  | false => rw [h.no h2]; exact Nat.zero_le _
theorem p13_hlt {s : P13} (h : s.Tl) : s.told.h < 18446744073709551616 := by
  cases h0 : s.isS with
  | true =>
    rw [p13_toldS h0]
    show s.sn.handle < _
    unfold SnapS.handle
    by_cases ho : s.sn.ok = true
    · rw [if_pos ho]
      obtain ⟨h1, h2⟩ := h.sn h0 ho
      omega
    · rw [if_neg ho]; omega
  | false =>
    cases h2 : s.isN with
    | true => rw [p13_toldN h0 h2]; show 0 < _; omega
    | false => rw [p13_toldL h0 h2]; show 0 < _; omega
/-- A call of both, alone, till it is done. -/
theorem annC_ok (hc : Con con lives) {s : P13} {M : Mem} {R : List HP} {H : CH} {p q m r vw n N T : Nat} {xs x4 x13 x14 : Value} {σ : TF} {Q : KX} (hs : Sat (PrAt13 p s :: RAt13 q s :: MemP m M :: ViewAt vw m 0 n :: RefP r M :: R) H)
    (hf : Fine M) (hok : s.Ok) (htl : s.Tl) (hrem : s.rem ≤ 520) (hn : n ≤ N) (ht : M.tr.length ≤ T) (hN : N + 600 ≤ 900000000) (hT : T + 600 ≤ 900000000)
    (e2 : σ 2 = xs) (e4 : σ 4 = x4) (e7 : σ 7 = ptr m 0) (e9 : σ 9 = ptr r 0) (e11 : σ 11 = ptr vw 0) (e13 : σ 13 = x13) (e14 : σ 14 = x14) (e15 : σ 15 = ptr p 0) (e16 : σ 16 = ptr q 0) (e17 : σ 17 = iN 0)
    (k : ∀ σ1 H1 s' M' n', s'.fin = true → s'.Tl → Fine M' → M'.tr.length ≤ T + 600 → n' ≤ N + 600 → σ1 2 = xs → σ1 4 = x4 → σ1 7 = ptr m 0 → σ1 9 = ptr r 0 → σ1 11 = ptr vw 0 → σ1 13 = x13 → σ1 14 = x14 → σ1 15 = ptr p 0 → σ1 16 = ptr q 0 →
      Sat (PrAt13 p s' :: RAt13 q s' :: MemP m M' :: ViewAt vw m 0 n' :: RefP r M' :: R) H1 → Q (.exit 4) σ1 H1) :
    LoopC Tryz.prog con (lpAt Tryz.prog 4 2) σ H Q := by
  refine LoopC.indP (n := 300) (id := 4) (fun σ1 H1 => σ1 2 = xs ∧ σ1 4 = x4 ∧ σ1 7 = ptr m 0 ∧ σ1 9 = ptr r 0 ∧ σ1 11 = ptr vw 0 ∧ σ1 13 = x13 ∧ σ1 14 = x14 ∧ σ1 15 = ptr p 0 ∧ σ1 16 = ptr q 0 ∧ ∃ s' M' n', s'.fin = true ∧ s'.Tl ∧ Fine M' ∧ M'.tr.length ≤ T + 600 ∧ n' ≤ N + 600 ∧ Sat (PrAt13 p s' :: RAt13 q s' :: MemP m M' :: ViewAt vw m 0 n' :: RefP r M' :: R) H1) (by kernel_rfl)
    (fun (i : Nat) σ1 H1 => σ1 2 = xs ∧ σ1 4 = x4 ∧ σ1 7 = ptr m 0 ∧ σ1 9 = ptr r 0 ∧ σ1 11 = ptr vw 0 ∧ σ1 13 = x13 ∧ σ1 14 = x14 ∧ σ1 15 = ptr p 0 ∧ σ1 16 = ptr q 0 ∧ σ1 17 = iN i ∧ ∃ s' M' n', s'.Ok ∧ s'.Tl ∧ Fine M' ∧ s'.rem + i ≤ 520 ∧ M'.tr.length ≤ T + i ∧ n' ≤ N + i ∧ Sat (PrAt13 p s' :: RAt13 q s' :: MemP m M' :: ViewAt vw m 0 n' :: RefP r M' :: R) H1)
    (fun i => 600 - i) (fun i σ1 H1 hI => ?_) (fun σ1 H1 hP => ?_) 0 _ _ ⟨e2, e4, e7, e9, e11, e13, e14, e15, e16, e17, s, M, n, hok, htl, hf, by omega, ht, hn, hs⟩
  · obtain ⟨a2, a4, a7, a9, a11, a13, a14, a15, a16, a17, s', M', n', hok', htl', hf', hrem', ht', hn', hs1⟩ := hI
    rw [annAnyC_W]
    rw [a9, a11, a15, a16, a17]
    repeat (first | refine run ?_ | refine ct ?_ | refine cf ?_ | refine sk ?_ | refine la rfl ?_ | refine na fun _ _ _ => ?_ | refine sa rfl fun _ _ => ?_ | refine nk ?_ | refine mu ?_ | refine ac ?_ | refine ai ?_)
    refine Cd.t (ltZ_t (by omega)) ?_
    have hx := p13_step s' M' 0 hok' htl'
    have hy := p13_nxt s' M' 0
    refine p13step_ok hc s' hs1 (by repeat (first | exact pH | apply pT)) (by repeat (first | exact pH | apply pT)) (by repeat (first | exact pH | apply pT)) (by omega) (by omega) hf'.bd hok' fun n2 H2 hn2 h2 => ?_
    refine r13step_ok hc s' h2 (by repeat (first | exact pH | apply pT)) (by repeat (first | exact pH | apply pT)) (by omega) hf'.bd hok' htl' fun H3 h3 => ?_
    generalize (s'.step M' 0).1 = s2 at *
    generalize (s'.step M' 0).2 = M2 at *
    obtain ⟨x1, x2, x3⟩ := hx
    obtain ⟨y1, y2, y3⟩ := hy
    repeat (first | refine run ?_ | refine ct ?_ | refine cf ?_ | refine sk ?_ | refine la rfl ?_ | refine na fun _ _ _ => ?_ | refine sa rfl fun _ _ => ?_ | refine nk ?_ | refine mu ?_ | refine ac ?_ | refine ai ?_)
    refine Cd.f (by rw [eqB_self]; rfl) ?_
    repeat (first | refine run ?_ | refine ct ?_ | refine cf ?_ | refine sk ?_ | refine la rfl ?_ | refine na fun _ _ _ => ?_ | refine sa rfl fun _ _ => ?_ | refine nk ?_ | refine mu ?_ | refine ac ?_ | refine ai ?_)
    cases hfin : s2.fin with
    | true =>
      refine Cd.t rfl ?_
      show _ = _ ∧ _
      exact ⟨rfl, a2, a4, a7, a9, a11, a13, a14, a15, a16, s2, M2, n2, hfin, x2, y1 hf', by omega, by omega, h3.ent (by repeat (first | exact eN _ | exact eZ | apply eC (by repeat (first | exact pH | apply pT)) | refine eD ?_))⟩
    | false =>
      refine Cd.f rfl ?_
      repeat (first | refine run ?_ | refine ct ?_ | refine cf ?_ | refine sk ?_ | refine la rfl ?_ | refine na fun _ _ _ => ?_ | refine sa rfl fun _ _ => ?_ | refine nk ?_ | refine mu ?_ | refine ac ?_ | refine ai ?_)
      try rw [addInt]
      refine inR_nat (by omega) ?_
      repeat (first | refine run ?_ | refine ct ?_ | refine cf ?_ | refine sk ?_ | refine la rfl ?_ | refine na fun _ _ _ => ?_ | refine sa rfl fun _ _ => ?_ | refine nk ?_ | refine mu ?_ | refine ac ?_ | refine ai ?_)
      show ∃ y, _ ∧ _
      exact ⟨i + 1, by omega, a2, a4, a7, a9, a11, a13, a14, a15, a16, rfl, s2, M2, n2, x1 hfin, x2, y1 hf', by omega, by omega, by omega, h3.ent (by repeat (first | exact eN _ | exact eZ | apply eC (by repeat (first | exact pH | apply pT)) | refine eD ?_))⟩
  · obtain ⟨a2, a4, a7, a9, a11, a13, a14, a15, a16, s', M', n', h1, h2, h3, h4, h5, h6⟩ := hP
    exact k σ1 H1 s' M' n' h1 h2 h3 h4 h5 a2 a4 a7 a9 a11 a13 a14 a15 a16 h6
end Go.Proofs.YtipbbnoepphdkaaGreat

set_option linter.unusedVariables false
set_option linter.unusedSimpArgs false
namespace Go.Proofs.YtipbbnoepphdkaaGreat
open Go Go.CM
attribute [local irreducible] AsBool AsWant AsNat AsInt AsCnt AsPtr AsSlc AsLen AsStr AsAgg AsTup AsFn AsIfc Nth Sc NotNil IsNil Must Cd codeW funW Sat SatL wrapN subM mkRow ltZ leZ ltN leN
variable {con : CallT}
structure C13 where
  kind : Int
  h : Nat
abbrev C13R (v : Value) (l : List C13) : HP := RowsR 2 (fun (c : C13) cs _ => cs = [i64 c.kind, u64 c.h]) v l
theorem has_c13 {v : Value} {l : List C13} {L : List HP} : Has (C13R v l :: L) (C13R v l) := Has.here fun a t => RowsR.mono (fun a _ => a) a t
theorem has_nr {v : Value} {l : List Nat} {L : List HP} : Has (NumsR v l :: L) (NumsR v l) := Has.here fun a t => NumsR.mono a t
theorem el_told : elemOk Tryz.prog 65 76 6 64 = true := by kernel_rfl
theorem sl_told : ∃ e, Tryz.prog.underlying 65 = some (.slice e) := ⟨76, by kernel_rfl⟩
/-- The handles that rows tell. -/
def Hds (rows : List (List Value)) (hd : List Nat) : Prop := hd.length = rows.length ∧ (∀ (i : Nat) row x, rows[i]? = some row → hd[i]? = some x → row[0]? = some (u64 x)) ∧ ∀ x ∈ hd, x < 18446744073709551616
theorem Hds.nil : Hds [] [] := ⟨rfl, fun i row x h => by simp at h, fun x h => nomatch h⟩
theorem Hds.snoc {rows : List (List Value)} {hd : List Nat} (h : Hds rows hd) {x : Nat} {r : List Value} (hr : r[0]? = some (u64 x)) (hx : x < 18446744073709551616) : Hds (rows ++ [r]) (hd ++ [x]) := by
  obtain ⟨h1, h2, h3⟩ := h
  refine ⟨by simp [h1], fun i row y hi hy => ?_, fun y hy => ?_⟩
  · by_cases hl : i < rows.length
    · rw [List.getElem?_append_left hl] at hi
      rw [List.getElem?_append_left (by omega)] at hy
      exact h2 i row y hi hy
    · rw [List.getElem?_append_right (by omega)] at hi hy
      rw [h1] at hy
      cases e : i - rows.length with
      | zero => rw [e] at hi hy; cases hi; cases hy; exact hr
      | succ k => rw [e] at hi; simp at hi
  · rcases List.mem_append.1 hy with h | h
    · exact h3 y h
    · rw [List.mem_singleton.1 h]; exact hx
theorem bh_lt {kind : Int} {h : Nat} {hd : List Nat} (h1 : h < 18446744073709551616) (h2 : ∀ x ∈ hd, x < 18446744073709551616) : bh kind h hd < 18446744073709551616 := by
  unfold bh
  split
  · rw [List.getD_eq_getElem?_getD]
    cases e : hd[h]? with
    | none => simp
    | some x => exact h2 x (List.mem_of_getElem? e)
  · exact h1
set_option maxRecDepth 100000 in
theorem annB_ok (hc : Con con lives) (sl : SlotsS) {calls : List C13} {M : Mem} {R : List HP} {H : CH} {m r vw n p1 : Nat} {xw : Value} {σ : TF} {Q : KX} (hs : Sat (MemP m M :: ViewAt vw m 0 n :: RefP r M :: Own p1 [u64 sl.cam, u64 sl.first, i64 sl.count, u64 sl.most] :: C13R xw calls :: R) H)
    (hf : Fine M) (hn : n ≤ 256) (ht : M.tr.length ≤ 256) (hl : calls.length ≤ 1048576) (hch : ∀ c ∈ calls, c.h < 18446744073709551616)
    (e2 : σ 2 = xw) (e4 : σ 4 = ptr p1 0) (e7 : σ 7 = ptr m 0) (e9 : σ 9 = ptr r 0) (e11 : σ 11 = ptr vw 0) (e13 : σ 13 = snil) (e14 : σ 14 = iN 0)
    (k : ∀ σ1 H1 M' n', Fine M' → M'.tr.length ≤ 900000000 → n' ≤ 900000000 → σ1 4 = ptr p1 0 → σ1 7 = ptr m 0 → σ1 9 = ptr r 0 →
      Sat (MemP m M' :: ViewAt vw m 0 n' :: RefP r M' :: Own p1 [u64 sl.cam, u64 sl.first, i64 sl.count, u64 sl.most] :: R) H1 → Q (.exit 2) σ1 H1) :
    LoopC Tryz.prog con (lpAt Tryz.prog 4 1) σ H Q := by
  obtain ⟨pw, cw, exw⟩ := (hs.has (Has.skip (Has.skip (Has.skip (Has.skip has_c13))))).len
  refine LoopC.indP (n := 300) (id := 2) (fun σ1 H1 => σ1 4 = ptr p1 0 ∧ σ1 7 = ptr m 0 ∧ σ1 9 = ptr r 0 ∧ ∃ M' n', Fine M' ∧ M'.tr.length ≤ 900000000 ∧ n' ≤ 900000000 ∧ Sat (MemP m M' :: ViewAt vw m 0 n' :: RefP r M' :: Own p1 [u64 sl.cam, u64 sl.first, i64 sl.count, u64 sl.most] :: R) H1) (by kernel_rfl)
    (fun (i : Nat) σ1 H1 => i ≤ calls.length ∧ σ1 2 = xw ∧ σ1 4 = ptr p1 0 ∧ σ1 7 = ptr m 0 ∧ σ1 9 = ptr r 0 ∧ σ1 11 = ptr vw 0 ∧ σ1 14 = iN i ∧ ∃ tv M' n' rows hd, σ1 13 = tv ∧ Fine M' ∧ M'.tr.length ≤ 256 + 600 * i ∧ n' ≤ 256 + 600 * i ∧ rows.length = i ∧ Hds rows hd ∧ 
      Sat (Vec tv 76 6 rows :: MemP m M' :: ViewAt vw m 0 n' :: RefP r M' :: Own p1 [u64 sl.cam, u64 sl.first, i64 sl.count, u64 sl.most] :: C13R xw calls :: R) H1)
    (fun i => calls.length - i) (fun i σ1 H1 hI => ?_) (fun σ1 H1 hP => ?_) 0 _ _ ⟨Nat.zero_le _, e2, e4, e7, e9, e11, e14, snil, M, n, [], [], e13, hf, ht, hn, rfl, Hds.nil, hs.nilV.ent (by repeat (first | exact eN _ | exact eZ | apply eC (by repeat (first | exact pH | apply pT)) | refine eD ?_))⟩
  · obtain ⟨hi, a2, a4, a7, a9, a11, a14, tv, M', n', rows, hd, a13, hf', ht', hn', hrl, hh, hs1⟩ := hI
    rw [annAnyB_W]
    refine AsLen.eq (a2.trans exw) ?_
    rw [a4, a14]
    repeat (first | refine run ?_ | refine ct ?_ | refine cf ?_ | refine sk ?_ | refine la rfl ?_ | refine na fun _ _ _ => ?_ | refine sa rfl fun _ _ => ?_ | refine nk ?_ | refine mu ?_ | refine ac ?_ | refine ai ?_)
    by_cases hlt : i < calls.length
    · refine Cd.t (ltZ_t hlt) ?_
      obtain ⟨c, ec⟩ : ∃ c, calls[i]? = some c := ⟨_, List.getElem?_eq_getElem hlt⟩
      obtain ⟨b, c0, cs, exw2, _, ecs, hld⟩ := rows_at hs1 (Has.skip (Has.skip (Has.skip (Has.skip (Has.skip has_c13))))) ec
      rw [a13]
      repeat (first | refine run ?_ | refine ct ?_ | refine cf ?_ | refine sk ?_ | refine la rfl ?_ | refine na fun _ _ _ => ?_ | refine sa rfl fun _ _ => ?_ | refine nk ?_ | refine mu ?_ | refine ac ?_ | refine ai ?_)
      refine AsSlc.eq (a2.trans exw2) ?_
      repeat (first | refine run ?_ | refine ct ?_ | refine cf ?_ | refine sk ?_ | refine la rfl ?_ | refine na fun _ _ _ => ?_ | refine sa rfl fun _ _ => ?_ | refine nk ?_ | refine mu ?_ | refine ac ?_ | refine ai ?_)
      refine Must.mk (ltN_t hlt) ?_
      refine hld _ 0 _ _ (by show 0 + i * 2 + 0 = _; omega) (by rw [ecs]; rfl) ?_
      refine hld _ 1 _ _ (by show 0 + i * 2 + 1 = _; omega) (by rw [ecs]; rfl) ?_
      refine begin13_ok hc sl hs1 Has.vec (by omega) hh.1 hh.2.1 fun p H17 h17 => ?_
      repeat (first | refine run ?_ | refine ct ?_ | refine cf ?_ | refine sk ?_ | refine la rfl ?_ | refine na fun _ _ _ => ?_ | refine sa rfl fun _ _ => ?_ | refine nk ?_ | refine mu ?_ | refine ac ?_ | refine ai ?_)
      refine AsSlc.eq (a2.trans exw2) ?_
      repeat (first | refine run ?_ | refine ct ?_ | refine cf ?_ | refine sk ?_ | refine la rfl ?_ | refine na fun _ _ _ => ?_ | refine sa rfl fun _ _ => ?_ | refine nk ?_ | refine mu ?_ | refine ac ?_ | refine ai ?_)
      refine Must.mk (ltN_t hlt) ?_
      obtain ⟨b', c0', cs', exw3, _, ecs', hld'⟩ := rows_at h17 (Has.skip (Has.skip (Has.skip (Has.skip (Has.skip (Has.skip has_c13)))))) ec
      rw [exw2] at exw3
      injection exw3 with q1 q2 q3
      injection q1 with q1
      injection q1 with q1 _ _
      subst q1
      refine hld' _ 0 _ _ (by show 0 + i * 2 + 0 = _; omega) (by rw [ecs']; rfl) ?_
      refine hld' _ 1 _ _ (by show 0 + i * 2 + 1 = _; omega) (by rw [ecs']; rfl) ?_
      refine rbegin13_ok hc sl h17 (Has.skip Has.vec) (by omega) hh.1 hh.2.1 fun q H32 h32 => ?_
      obtain ⟨f1, f2, f3, f4⟩ := p13_fresh sl c.kind (bh_lt (kind := c.kind) (hch c (List.mem_of_getElem? ec)) hh.2.2)
      refine annC_ok (N := 256 + 600 * i) (T := 256 + 600 * i) (R := Vec tv 76 6 rows :: Own p1 [u64 sl.cam, u64 sl.first, i64 sl.count, u64 sl.most] :: C13R xw calls :: R) hc (h32.ent (by repeat (first | exact eN _ | exact eZ | apply eC (by repeat (first | exact pH | apply pT)) | refine eD ?_))) hf' f1 f2 f3 hn' ht' (by omega) (by omega) a2 a4 a7 a9 a11 a13 a14 rfl rfl rfl fun σ2 H34 s2 M2 n2 g1 g2 g3 g4 g5 b2 b4 b7 b9 b11 b13 b14 b15 b16 h34 => ?_
      show Cd _ _ _
      refine Cd.t rfl ?_
      rw [b13, b14, b15, b16]
      obtain ⟨u1, u2, s1, s2', d, ⟨w, v, hin⟩, hR⟩ := h34.opens (A := RAt13 q s2) (.there .here)
      have h35 := Sat.merge s1 s2' d hin hR
      simp only [List.cons_append, List.nil_append] at h35
      rw [g1] at h35
      have hw1 : Sat (Vec w tU 1 (rowsU s2.sc.need) :: _) H34 := h35.pull (by repeat (first | exact pH | apply pT))
      obtain ⟨pw', ew⟩ := (hw1.has Has.vec).shape
      subst ew
      clear hw1 h34
      refine p13told_ok hc s2 h35 (by repeat (first | exact pH | apply pT)) g2 fun w' H37 h37 => ?_
      have hnd := p13_need g2
      have hle := p13_need_le g2
      repeat (first | refine run ?_ | refine ct ?_ | refine cf ?_ | refine sk ?_ | refine la rfl ?_ | refine na fun _ _ _ => ?_ | refine sa rfl fun _ _ => ?_ | refine nk ?_ | refine mu ?_ | refine ac ?_ | refine ai ?_)
      refine l13same_ok hc h37 Has.nums (l := s2.told.need) (by rw [hnd]; exact Has.skip (Has.skip (Has.skip (fun H g => Vec.nums (Has.vec H g))))) (by omega) fun H47 h47 => ?_
      repeat (first | refine run ?_ | refine ct ?_ | refine cf ?_ | refine sk ?_ | refine la rfl ?_ | refine na fun _ _ _ => ?_ | refine sa rfl fun _ _ => ?_ | refine nk ?_ | refine mu ?_ | refine ac ?_ | refine ai ?_)
      rename_i p85 H86 h86
      refine app_vec (new := [[u64 s2.told.h, u64 s2.told.st, iN s2.told.er, u64 s2.told.fl, _, .bool true]]) h86 (by repeat (first | exact pH | apply pT)) el_told (by omega) sl_told (Src.cell (n := 6) (by rfl)) rfl (by simp) (by simp; omega) rfl fun tv2 H88 h88 => ?_
      repeat (first | refine run ?_ | refine ct ?_ | refine cf ?_ | refine sk ?_ | refine la rfl ?_ | refine na fun _ _ _ => ?_ | refine sa rfl fun _ _ => ?_ | refine nk ?_ | refine mu ?_ | refine ac ?_ | refine ai ?_)
      try rw [addInt]
      refine inR_nat (by omega) ?_
      repeat (first | refine run ?_ | refine ct ?_ | refine cf ?_ | refine sk ?_ | refine la rfl ?_ | refine na fun _ _ _ => ?_ | refine sa rfl fun _ _ => ?_ | refine nk ?_ | refine mu ?_ | refine ac ?_ | refine ai ?_)
      show ∃ y, _ ∧ _
      exact ⟨i + 1, by omega, hlt, b2, b4, b7, b9, b11, rfl, tv2, M2, n2, rows ++ [_], hd ++ [s2.told.h], rfl, g3, by omega, by omega, by simp [hrl], hh.snoc rfl (p13_hlt g2), h88.ent (by repeat (first | exact eN _ | exact eZ | apply eC (by repeat (first | exact pH | apply pT)) | refine eD ?_))⟩
    · refine Cd.f (ltZ_f (by omega)) ?_
      show _ = _ ∧ _
      exact ⟨rfl, a4, a7, a9, M', n', hf', by omega, by omega, hs1.ent (by repeat (first | exact eN _ | exact eZ | apply eC (by repeat (first | exact pH | apply pT)) | refine eD ?_))⟩
  · obtain ⟨a4, a7, a9, M', n', h1, h2, h3, h4⟩ := hP
    exact k σ1 H1 M' n' h1 h2 h3 a4 a7 a9 h4
end Go.Proofs.YtipbbnoepphdkaaGreat

set_option linter.unusedVariables false
set_option linter.unusedSimpArgs false
namespace Go.Proofs.YtipbbnoepphdkaaGreat
open Go Go.CM
attribute [local irreducible] AsBool AsWant AsNat AsInt AsCnt AsPtr AsSlc AsLen AsStr AsAgg AsTup AsFn AsIfc Nth Sc NotNil IsNil Must Cd codeW funW Sat SatL wrapN subM mkRow ltZ leZ ltN leN
variable {con : CallT}
theorem call_yes {f : FuncId} {args : List Value} {H : CH} {K : KP} {v : Value} (h : con f ⟨args⟩ H = some (v, H)) (k : K v H) : Call1 Tryz.prog con f args H K := ⟨⟨0, v, H, h, k⟩⟩
theorem fine0 (n : Nat) : Fine (mem0 n) := ⟨fun x hx => by
  have := List.eq_of_mem_replicate hx
  omega, fun a ha => nomatch ha⟩
set_option maxRecDepth 100000 in
theorem annAny_ok (hc : Con con lives) (hlive : ∀ H, con 28 ⟨[]⟩ H = some (.bool true, H)) (sl : SlotsS) {R : List HP} {H : CH} {xv xw : Value} {cells : List Nat} {calls : List C13} (hs : Sat (NumsR xv cells :: C13R xw calls :: R) H)
    (hl1 : cells.length ≤ 1000000000) (hcb : ∀ x ∈ cells, x < 18446744073709551616) (hl2 : calls.length ≤ 1048576) (hch : ∀ c ∈ calls, c.h < 18446744073709551616) :
    Call1 Tryz.prog con 4 [xv, .agg ⟨[u64 sl.cam, u64 sl.first, i64 sl.count, u64 sl.most]⟩, xw] H (fun v _ => v = .bool true) := by
  refine call_of (hc _ _ _ rfl) ?_
  rw [annAny_W]
  refine nw hs fun p1 H1 g1 => ?_
  refine arenaNew_ok hc g1 (by omega) (by omega) fun m H2 g2 => ?_
  refine AsTup.mk (Nth.mk rfl (AsTup.mk (Nth.mk rfl (AsInt.mk (Cd.f rfl ?_)))))
  refine refNew_ok hc g2 (by omega) (by omega) fun r H3 g3 => ?_
  refine AsTup.mk (Nth.mk rfl (AsTup.mk (Nth.mk rfl ?_)))
  refine memView_ok hc g3 fun q H4 g4 => ?_
  obtain ⟨px, cx, rfl⟩ := (hs.has has_nr).len
  refine LoopC.indP (n := 300) (id := 0) (fun σ H => σ 2 = xw ∧ σ 4 = ptr p1 0 ∧ σ 7 = ptr m 0 ∧ σ 9 = ptr r 0 ∧ σ 11 = ptr q 0 ∧ ∃ M i, i ≤ 256 ∧ Fine M ∧ M.tr.length ≤ 256 ∧ Sat (MemP m M :: ViewAt q m 0 i :: RefP r M :: Own p1 [u64 sl.cam, u64 sl.first, i64 sl.count, u64 sl.most] :: C13R xw calls :: R) H) (by kernel_rfl)
    (fun (i : Nat) σ H => σ 0 = .slice px cells.length cx ∧ σ 2 = xw ∧ σ 4 = ptr p1 0 ∧ σ 7 = ptr m 0 ∧ σ 9 = ptr r 0 ∧ σ 11 = ptr q 0 ∧ σ 12 = iN i ∧ i ≤ cells.length ∧ i ≤ 256 ∧
      ∃ M, Fine M ∧ M.tr.length ≤ i ∧ Sat (MemP m M :: ViewAt q m 0 i :: RefP r M :: Own p1 [u64 sl.cam, u64 sl.first, i64 sl.count, u64 sl.most] :: NumsR (.slice px cells.length cx) cells :: C13R xw calls :: R) H) (fun i => 256 - i) (fun i σ H hI => ?_) (fun σ H hP => ?_) 0 _ _ ⟨rfl, rfl, rfl, rfl, rfl, rfl, rfl, Nat.zero_le _, Nat.zero_le _, mem0 256, fine0 256, Nat.le_refl _, g4.ent (by repeat (first | exact eN _ | exact eZ | apply eC (by repeat (first | exact pH | apply pT)) | refine eD ?_))⟩
  · obtain ⟨e0, e2, e4, e7, e9, e11, e12, hi, hi2, M, hM, hT, hs1⟩ := hI
    rw [annAnyA_W]
    simp only [e0, e2, e4, e7, e9, e11, e12]
    repeat (first | refine run ?_ | refine ct ?_ | refine cf ?_ | refine sk ?_ | refine la rfl ?_ | refine na fun _ _ _ => ?_ | refine sa rfl fun _ _ => ?_ | refine nk ?_ | refine mu ?_ | refine ac ?_ | refine ai ?_)
    by_cases hlt : i < cells.length
    · refine Cd.t (ltZ_t (by omega)) ?_
      repeat (first | refine run ?_ | refine ct ?_ | refine cf ?_ | refine sk ?_ | refine la rfl ?_ | refine na fun _ _ _ => ?_ | refine sa rfl fun _ _ => ?_ | refine nk ?_ | refine mu ?_ | refine ac ?_ | refine ai ?_)
      by_cases hlt2 : i < 256
      · refine Cd.t (ltZ_t (by omega)) ?_
        repeat (first | refine run ?_ | refine ct ?_ | refine cf ?_ | refine sk ?_ | refine la rfl ?_ | refine na fun _ _ _ => ?_ | refine sa rfl fun _ _ => ?_ | refine nk ?_ | refine mu ?_ | refine ac ?_ | refine ai ?_)
        refine Must.mk (cv_small (by omega)) ?_
        rw [wrapN_small (by omega)]
        have hnn : Has (MemP m M :: ViewAt q m 0 i :: RefP r M :: Own p1 [u64 sl.cam, u64 sl.first, i64 sl.count, u64 sl.most] :: NumsR (.slice px cells.length cx) cells :: C13R xw calls :: R) (Nums (.slice px cells.length cx) cells) := Has.skip (Has.skip (Has.skip (Has.skip (fun g a => (has_nr g a).nums))))
        rcases (hs1.has hnn).shape with ⟨h3, h4⟩ | ⟨b', o, c', h3⟩
        · rw [h4] at hlt; simp at hlt
        cases h3
        repeat (first | refine run ?_ | refine ct ?_ | refine cf ?_ | refine sk ?_ | refine la rfl ?_ | refine na fun _ _ _ => ?_ | refine sa rfl fun _ _ => ?_ | refine nk ?_ | refine mu ?_ | refine ac ?_ | refine ai ?_)
        refine Must.mk (ltN_t hlt) ?_
        refine ldSrc hs1 (hnn.src rfl) (by rw [show Nat.mul i 1 = i from Nat.mul_one i]; rfl) (map_get _ hlt) ?_
        refine viewStore_ok hc hs1 (by repeat (first | exact pH | apply pT)) (by repeat (first | exact pH | apply pT)) (by omega) (by omega) fun H5 h5 => ?_
        repeat (first | refine run ?_ | refine ct ?_ | refine cf ?_ | refine sk ?_ | refine la rfl ?_ | refine na fun _ _ _ => ?_ | refine sa rfl fun _ _ => ?_ | refine nk ?_ | refine mu ?_ | refine ac ?_ | refine ai ?_)
        refine Must.mk (cv_small (by omega)) ?_
        repeat (first | refine run ?_ | refine ct ?_ | refine cf ?_ | refine sk ?_ | refine la rfl ?_ | refine na fun _ _ _ => ?_ | refine sa rfl fun _ _ => ?_ | refine nk ?_ | refine mu ?_ | refine ac ?_ | refine ai ?_)
        refine Must.mk (ltN_t hlt) ?_
        have hnn5 : Has (MemP m (M.store 0 i (cells.getD i 0)) :: ViewAt q m 0 (i + 1) :: RefP r M :: Own p1 [u64 sl.cam, u64 sl.first, i64 sl.count, u64 sl.most] :: NumsR (slc b' o cells.length cx) cells :: C13R xw calls :: R) (Nums (slc b' o cells.length cx) cells) := Has.skip (Has.skip (Has.skip (Has.skip (fun g a => (has_nr g a).nums))))
        refine ldSrc h5 (hnn5.src rfl) (by rw [show Nat.mul i 1 = i from Nat.mul_one i]; rfl) (map_get _ hlt) ?_
        rw [wrapN_small (by omega)]
        refine refStore_ok hc h5 (by repeat (first | exact pH | apply pT)) (by omega) fun H6 h6 => ?_
        repeat (first | refine run ?_ | refine ct ?_ | refine cf ?_ | refine sk ?_ | refine la rfl ?_ | refine na fun _ _ _ => ?_ | refine sa rfl fun _ _ => ?_ | refine nk ?_ | refine mu ?_ | refine ac ?_ | refine ai ?_)
        try rw [addInt]
        refine inR_nat (by omega) ?_
        repeat (first | refine run ?_ | refine ct ?_ | refine cf ?_ | refine sk ?_ | refine la rfl ?_ | refine na fun _ _ _ => ?_ | refine sa rfl fun _ _ => ?_ | refine nk ?_ | refine mu ?_ | refine ac ?_ | refine ai ?_)
        have hx : cells.getD i 0 < 18446744073709551616 := by
          rw [List.getD_eq_getElem?_getD, List.getElem?_eq_getElem hlt]
          exact hcb _ (List.getElem_mem hlt)
        have hN := Nxt.store M 0 i hx
        show ∃ y, _ ∧ _
        exact ⟨i + 1, by omega, e0, e2, e4, e7, e9, e11, rfl, hlt, hlt2, M.store 0 i (cells.getD i 0), hN.fine hM, by have := hN.tr; omega, h6.ent (by repeat (first | exact eN _ | exact eZ | apply eC (by repeat (first | exact pH | apply pT)) | refine eD ?_))⟩
      · refine Cd.f (ltZ_f (by omega)) ?_
        show _ = _ ∧ _
        exact ⟨rfl, e2, e4, e7, e9, e11, M, i, hi2, hM, by omega, hs1.ent (by repeat (first | exact eN _ | exact eZ | apply eC (by repeat (first | exact pH | apply pT)) | refine eD ?_))⟩
    · refine Cd.f (ltZ_f (by omega)) ?_
      show _ = _ ∧ _
      exact ⟨rfl, e2, e4, e7, e9, e11, M, i, hi2, hM, by omega, hs1.ent (by repeat (first | exact eN _ | exact eZ | apply eC (by repeat (first | exact pH | apply pT)) | refine eD ?_))⟩
  · obtain ⟨e2, e4, e7, e9, e11, M, i, hi, hM, hT, hs1⟩ := hP
    show Cd _ _ _
    refine Cd.t (eqN_self 0) ?_
    refine annB_ok hc sl hs1 hM hi hT hl2 hch e2 e4 e7 e9 e11 rfl rfl fun σ1 H5 M' n' hf' ht' hn' e4 e7 e9 h5 => ?_
    show Cd _ _ _
    refine Cd.t (eqN_self 2) ?_
    simp only [e4, e7, e9]
    refine call_yes (hlive _) ?_
    refine AsWant.mk (Cd.t rfl ?_)
    have hs4 : Sat (RefP r M' :: MemP m M' :: Own p1 [u64 sl.cam, u64 sl.first, i64 sl.count, u64 sl.most] :: R) H5 := h5.ent (by repeat (first | exact eN _ | exact eZ | apply eC (by repeat (first | exact pH | apply pT)) | refine eD ?_))
    clear h5 hs1
    obtain ⟨f1, f2, u1, u2, d, ⟨bl, tr, ⟨hn, hf⟩, hin⟩, hR⟩ := hs4.opens Pull.here
    have hs5 := Sat.merge u1 u2 d hin hR
    simp only [List.cons_append, List.nil_append] at hs5
    obtain ⟨g1, g2, t1, t2, d2, hT', _⟩ := hs5.opens (A := TrAt tr tA M'.tr) (.there (.there .here))
    obtain ⟨pt, rfl⟩ := hT'.shape
    clear hs4
    refine memTraceK_ok hc hs5 (by repeat (first | exact pH | apply pT)) (by omega) hf'.vals fun x H9 h9 => ?_
    repeat (first | refine run ?_ | refine ct ?_ | refine cf ?_ | refine sk ?_ | refine la rfl ?_ | refine na fun _ _ _ => ?_ | refine sa rfl fun _ _ => ?_ | refine nk ?_ | refine mu ?_ | refine ac ?_ | refine ai ?_)
    refine sameTraceK_ok hc h9 (by repeat (first | exact pH | apply pT)) (by repeat (first | exact pH | apply pT)) (by omega) hf'.vals fun H10 h10 => ?_
    repeat (first | refine run ?_ | refine ct ?_ | refine cf ?_ | refine sk ?_ | refine la rfl ?_ | refine na fun _ _ _ => ?_ | refine sa rfl fun _ _ => ?_ | refine nk ?_ | refine mu ?_ | refine ac ?_ | refine ai ?_)
    have h11 : Sat (RefP r M' :: MemP m M' :: Own p1 [u64 sl.cam, u64 sl.first, i64 sl.count, u64 sl.most] :: R) H10 := Sat.close (L1 := [_, _, _]) (h10.ent (by repeat (first | exact eN _ | exact eZ | apply eC (by repeat (first | exact pH | apply pT)) | refine eD ?_))) fun g a => ⟨bl, _, ⟨hn, hf⟩, a⟩
    refine annSlots_ok hc sl h11 (by repeat (first | exact pH | apply pT)) hf'.bd fun w H12 h12 => ?_
    repeat (first | refine run ?_ | refine ct ?_ | refine cf ?_ | refine sk ?_ | refine la rfl ?_ | refine na fun _ _ _ => ?_ | refine sa rfl fun _ _ => ?_ | refine nk ?_ | refine mu ?_ | refine ac ?_ | refine ai ?_)
    refine rSlots_ok hc sl h12 (by repeat (first | exact pH | apply pT)) hf'.bd fun w2 H13 h13 => ?_
    have hcl := cnt_le sl.count
    refine sameSlots_ok hc sl h13 (Has.skip Has.vec) Has.vec (by omega) fun H14 h14 => ?_
    repeat (first | refine run ?_ | refine ct ?_ | refine cf ?_ | refine sk ?_ | refine la rfl ?_ | refine na fun _ _ _ => ?_ | refine sa rfl fun _ _ => ?_ | refine nk ?_ | refine mu ?_ | refine ac ?_ | refine ai ?_)
    rfl
end Go.Proofs.YtipbbnoepphdkaaGreat

