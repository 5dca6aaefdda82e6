/- What the functions do to the memories and procs that they are given: their contracts. The conditions stand in each. -/
import Derived.Test.YtocphcgcpjcfjaaGreatSpA
import Derived.Sort.AssemblyPlain
set_option linter.unusedVariables false
set_option linter.unusedSimpArgs false

set_option linter.unusedVariables false
set_option linter.unusedSimpArgs false
namespace Go.Proofs.YtocphcgcpjcfjaaGreat
open Go Go.CM
attribute [local irreducible] AsBool AsWant AsNat AsInt AsCnt AsPtr AsSlc AsLen AsStr AsAgg AsTup AsFn AsIfc Nth Sc NotNil IsNil Must Cd codeW funW Sat SatL wrapN subM mkRow ltZ leZ ltN leN
variable {con : CallT}
/-- The block of the document's Proc. -/
def d13 (kind : Int) (sn : SnapS) (lt : LetS) (sc : ScanS) (w v : Value) (t : List Value) : List Value := i64 kind :: (dsC sn ++ (dlC lt ++ (dscC sc w v ++ t)))
abbrev t13 (h st er nf nv dn : Value) : List Value := [h, st, er, nf, nv, dn]
set_option maxRecDepth 100000 in
theorem rProc0_ok (hc : Con con lives) (s : SnapS) {lt : LetS} {sc : ScanS} {w v h st er nf nv dn : Value} {L R1 R2 : List HP} {H : CH} {p m : Nat} {th : Int} {M : Mem} {K : KP} (hs : Sat L H) (hm : Pull L (RefP m M) R1) (hp : Pull R1 (Own p (d13 (Int.ofNat 0) s lt sc w v (t13 h st er nf nv dn))) R2)
    (ht : M.tr.length < 1000000000) (hb : M.Bd) (hok : s.Ok)
    (k : ∀ H1 b, b = eqZ (Int.ofNat (s.step M th).1.at_) (Int.ofNat 8) → Sat (Own p (d13 (Int.ofNat 0) (s.step M th).1 lt sc w v (t13 (u64 (s.step M th).1.handle) (u64 (s.step M th).1.stamp) (iN (s.step M th).1.err) nf nv (.bool b))) :: RefP m (s.step M th).2 :: R2) H1 → K (.bool b) H1) :
    Call1 Tryz.prog con 92 [ptr p 0, ptr m 0, i64 th] H K := by
  refine call_of (hc _ _ _ rfl) ?_
  rw [rProcStep13_W]
  have hs0 := hs.takes (.cons hm (.cons hp .nil))
  simp only [List.cons_append, List.nil_append] at hs0
  clear hs hm hp
  repeat (refine gO ?_; intros)
  replace hs0 : Sat (RefP m M :: Own p (i64 (Int.ofNat 0) :: (dsC s ++ (dlC lt ++ (dscC sc w v ++ t13 h st er nf nv dn)))) :: R2) H := hs0
  refine rSnapStep_ok hc s hs0 pp pp ht hb hok fun H4 h4 => ?_
  replace h4 : Sat (Own p (d13 (Int.ofNat 0) (s.step M th).1 lt sc w v (t13 h st er nf nv dn)) :: RefP m (s.step M th).2 :: R2) H4 := h4
  clear hs0
  generalize eqZ (Int.ofNat (s.step M th).1.at_) (Int.ofNat 8) = b at *
  generalize (s.step M th).1 = s' at *
  repeat (refine gO ?_; intros)
  exact k _ b rfl (Sat.ent (by assumption) ee)
def c13 (kind : Int) (sn : SnapS) (i : Nat) : Value := ((i64 kind :: dsC sn)[i]?).getD snil
set_option maxRecDepth 100000 in
theorem rProc1_ok (hc : Con con lives) (s : LetS) {kind : Int} {sn : SnapS} {sc : ScanS} {w v h st er nf nv dn : Value} {L R1 R2 : List HP} {H : CH} {p m : Nat} {th : Int} {M : Mem} {K : KP} (hs : Sat L H) (hm : Pull L (RefP m M) R1) (hp : Pull R1 (Own p (d13 kind sn s sc w v (t13 h st er nf nv dn))) R2)
    (hk0 : eqZ kind (Int.ofNat 0) = false) (hk2 : eqZ kind (Int.ofNat 2) = false) (ht : M.tr.length < 1000000000) (hb : M.Bd) (hh : s.h < 18446744073709551616) (hat : s.at_ < 2)
    (k : ∀ H1 b, b = eqZ (Int.ofNat (s.step M th).1.at_) (Int.ofNat 2) → Sat (Own p (d13 kind sn (s.step M th).1 sc w v (t13 h st (iN (s.step M th).1.err) nf nv (.bool b))) :: RefP m (s.step M th).2 :: R2) H1 → K (.bool b) H1) :
    Call1 Tryz.prog con 92 [ptr p 0, ptr m 0, i64 th] H K := by
  refine call_of (hc _ _ _ rfl) ?_
  rw [rProcStep13_W]
  have hs0 := hs.takes (.cons hm (.cons hp .nil))
  simp only [List.cons_append, List.nil_append] at hs0
  clear hs hm hp
  repeat (refine gO ?_; intros)
  refine Cd.f hk0 ?_
  repeat (refine gO ?_; intros)
  refine Cd.f hk2 ?_
  repeat (refine gO ?_; intros)
  replace hs0 : Sat (RefP m M :: Own p (pre13 (c13 kind sn) (dlC s ++ (dscC sc w v ++ t13 h st er nf nv dn))) :: R2) H := hs0
  refine rLetStep_ok hc s hs0 pp pp ht hb hh hat fun H4 h4 => ?_
  replace h4 : Sat (Own p (d13 kind sn (s.step M th).1 sc w v (t13 h st er nf nv dn)) :: RefP m (s.step M th).2 :: R2) H4 := h4
  clear hs0
  generalize eqZ (Int.ofNat (s.step M th).1.at_) (Int.ofNat 2) = b at *
  generalize (s.step M th).1 = s' at *
  repeat (refine gO ?_; intros)
  exact k _ b rfl (Sat.ent (by assumption) ee)
def c23 (kind : Int) (sn : SnapS) (lt : LetS) (i : Nat) : Value := ((i64 kind :: (dsC sn ++ dlC lt))[i]?).getD snil
set_option maxRecDepth 100000 in
theorem rProc2_ok (hc : Con con lives) (s : ScanS) {sn : SnapS} {lt : LetS} {v h st er nf nv dn : Value} {L R1 R2 R3 : List HP} {H : CH} {p m : Nat} {th : Int} {M : Mem} {K : KP} (hs : Sat L H) (hm : Pull L (RefP m M) R1) (hp : Pull R1 (Own p (d13 (Int.ofNat 2) sn lt s snil v (t13 h st er nf nv dn))) R2) (hq : Pull R2 (Vec v tU 1 (rowsU s.told)) R3)
    (ht : M.tr.length < 1000000000) (hb : M.Bd) (hat : s.at_ < 2) (hi : s.i ≤ 256) (hi1 : s.at_ = 1 → s.i < 256) (htl : s.told.length ≤ s.i) (hne : s.need = [])
    (k : ∀ w v' H1 b, b = eqZ (Int.ofNat (s.step M th).1.at_) (Int.ofNat 2) → Sat (Vec w tU 1 (rowsU (s.step M th).1.need) :: Vec v' tU 1 (rowsU (s.step M th).1.told) :: Own p (d13 (Int.ofNat 2) sn lt (s.step M th).1 w v' (t13 h st er (u64 (if (s.step M th).1.at_ = 2 then (s.step M th).1.fl else 0)) w (.bool b))) :: RefP m (s.step M th).2 :: R3) H1 → K (.bool b) H1) :
    Call1 Tryz.prog con 92 [ptr p 0, ptr m 0, i64 th] H K := by
  refine call_of (hc _ _ _ rfl) ?_
  rw [rProcStep13_W]
  have hs0 := hs.takes (.cons hm (.cons hp (.cons hq .nil)))
  simp only [List.cons_append, List.nil_append] at hs0
  clear hs hm hp hq
  repeat (refine gO ?_; intros)
  replace hs0 : Sat (RefP m M :: Own p (pre23 (c23 (Int.ofNat 2) sn lt) (dscC s snil v ++ t13 h st er nf nv dn)) :: Vec v tU 1 (rowsU s.told) :: R3) H := hs0
  refine rScanStep_ok hc s hs0 pp pp pp ht hb hat hi hi1 htl hne fun w v' H4 h4 => ?_
  replace h4 : Sat (Vec w tU 1 (rowsU (s.step M th).1.need) :: Vec v' tU 1 (rowsU (s.step M th).1.told) :: Own p (d13 (Int.ofNat 2) sn lt (s.step M th).1 w v' (t13 h st er nf nv dn)) :: RefP m (s.step M th).2 :: R3) H4 := h4
  clear hs0
  generalize eqZ (Int.ofNat (s.step M th).1.at_) (Int.ofNat 2) = b at *
  generalize (s.step M th).1 = s' at *
  obtain ⟨pw, ew⟩ := (h4.has Has.vec).shape
  subst ew
  repeat (refine gO ?_; intros)
  refine stN (by assumption) (Nat.le_of_ble_eq_true rfl) rfl fun H6 h6 => ?_
  repeat (refine gO ?_; intros)
  exact k _ v' _ b rfl (Sat.ent (by assumption) ee)
end Go.Proofs.YtocphcgcpjcfjaaGreat

set_option linter.unusedVariables false
set_option linter.unusedSimpArgs false
namespace Go.Proofs.YtocphcgcpjcfjaaGreat
open Go Go.CM
attribute [local irreducible] AsBool AsWant AsNat AsInt AsCnt AsPtr AsSlc AsLen AsStr AsAgg AsTup AsFn AsIfc Nth Sc NotNil IsNil Must Cd codeW funW Sat SatL wrapN subM mkRow ltZ leZ ltN leN
variable {con : CallT}
def scan0 (sl : SlotsS) : ScanS := ⟨sl, 0, 0, 0, [], []⟩
def z13 : List Value := t13 (u64 0) (u64 0) (iN 0) (u64 0) snil (.bool false)
/-- The handle that a call is about. -/
def bh (kind : Int) (h : Nat) (hd : List Nat) : Nat := if ltZ kind (Int.ofNat 0) || ltZ (Int.ofNat 2) kind then hd.getD h 0 else h
set_option maxRecDepth 100000 in
theorem rBegin13_ok (hc : Con con lives) (sl : SlotsS) {kind : Int} {h et : Nat} {v : Value} {rows : List (List Value)} {hd : List Nat} {L : List HP} {H : CH} {K : KP} (hs : Sat L H) (hv : Has L (Vec v et 6 rows)) (hl : rows.length ≤ 1000000000) (hln : hd.length = rows.length)
    (hr : ∀ (i : Nat) row x, rows[i]? = some row → hd[i]? = some x → row[0]? = some (u64 x))
    (k : ∀ p H1, Sat (Own p (d13 kind (snap0 sl) (let0 sl (bh kind h hd)) (scan0 sl) snil snil z13) :: L) H1 → K (ptr p 0) H1) : Call1 Tryz.prog con 91 [.agg ⟨[u64 sl.cam, u64 sl.first, i64 sl.count, u64 sl.most]⟩, .agg ⟨[i64 kind, u64 h]⟩, v] H K := by
  refine call_of (hc _ _ _ rfl) ?_
  rw [rBegin13_W]
  obtain ⟨pv, ev⟩ := (hs.has hv).shape
  subst ev
  repeat (refine gO ?_; intros)
  cases hk : ltZ kind (Int.ofNat 0) with
  | true =>
    refine Cd.t rfl ?_
    have hkk : (ltZ kind (Int.ofNat 0) || ltZ (Int.ofNat 2) kind) = true := by rw [hk]; rfl
    repeat (refine gO ?_; intros)
    refine Must.mk (cv_small (by omega)) ?_
    rw [wrapN_small (by omega)]
    repeat (refine gO ?_; intros)
    by_cases hlt : h < rows.length
    · refine Cd.t (ltN_t hlt) ?_
      obtain ⟨row, hrow⟩ : ∃ row, rows[h]? = some row := ⟨_, List.getElem?_eq_getElem hlt⟩
      obtain ⟨x, hx⟩ : ∃ x, hd[h]? = some x := ⟨_, List.getElem?_eq_getElem (by omega)⟩
      obtain ⟨bv, ev, _⟩ := (hs.has hv).slot hrow
      injection ev with ev _ _
      subst ev
      repeat (refine gO ?_; intros)
      refine Must.mk (ltN_t hlt) ?_
      refine ldVec (by assumption) (Has.skip (Has.skip hv)) rfl hrow (j := 0) (by show 0 + h * 6 + 0 = _; omega) (by omega) (hr h row x hrow hx) ?_
      have e : bh kind h hd = x := by
        unfold bh
        rw [hkk, if_pos rfl, List.getD_eq_getElem?_getD, hx]; rfl
      rw [e] at k
      repeat (refine gO ?_; intros)
      exact k _ _ (Sat.ent (by assumption) ee)
    · refine Cd.f (ltN_f (by omega)) ?_
      have e : bh kind h hd = 0 := by
        unfold bh
        rw [hkk, if_pos rfl, List.getD_eq_getElem?_getD, List.getElem?_eq_none (by omega)]; rfl
      rw [e] at k
      repeat (refine gO ?_; intros)
      exact k _ _ (Sat.ent (by assumption) ee)
  | false =>
    refine Cd.f rfl ?_
    repeat (refine gO ?_; intros)
    cases hk2 : ltZ (Int.ofNat 2) kind with
    | true =>
      have hkk : (ltZ kind (Int.ofNat 0) || ltZ (Int.ofNat 2) kind) = true := by rw [hk2, Bool.or_true]
      refine Cd.t rfl ?_
      repeat (refine gO ?_; intros)
      refine Must.mk (cv_small (by omega)) ?_
      rw [wrapN_small (by omega)]
      repeat (refine gO ?_; intros)
      by_cases hlt : h < rows.length
      · refine Cd.t (ltN_t hlt) ?_
        obtain ⟨row, hrow⟩ : ∃ row, rows[h]? = some row := ⟨_, List.getElem?_eq_getElem hlt⟩
        obtain ⟨x, hx⟩ : ∃ x, hd[h]? = some x := ⟨_, List.getElem?_eq_getElem (by omega)⟩
        obtain ⟨bv, ev, _⟩ := (hs.has hv).slot hrow
        injection ev with ev _ _
        subst ev
        repeat (refine gO ?_; intros)
        refine Must.mk (ltN_t hlt) ?_
        refine ldVec (by assumption) (Has.skip (Has.skip hv)) rfl hrow (j := 0) (by show 0 + h * 6 + 0 = _; omega) (by omega) (hr h row x hrow hx) ?_
        have e : bh kind h hd = x := by
          unfold bh
          rw [hkk, if_pos rfl, List.getD_eq_getElem?_getD, hx]; rfl
        rw [e] at k
        repeat (refine gO ?_; intros)
        exact k _ _ (Sat.ent (by assumption) ee)
      · refine Cd.f (ltN_f (by omega)) ?_
        have e : bh kind h hd = 0 := by
          unfold bh
          rw [hkk, if_pos rfl, List.getD_eq_getElem?_getD, List.getElem?_eq_none (by omega)]; rfl
        rw [e] at k
        repeat (refine gO ?_; intros)
        exact k _ _ (Sat.ent (by assumption) ee)
    | false =>
      refine Cd.f rfl ?_
      repeat (refine gO ?_; intros)
      have e : bh kind h hd = h := by
        unfold bh
        rw [hk, hk2]; rfl
      rw [e] at k
      exact k _ _ (Sat.ent (by assumption) ee)
end Go.Proofs.YtocphcgcpjcfjaaGreat

set_option linter.unusedVariables false
set_option linter.unusedSimpArgs false
namespace Go.Proofs.YtocphcgcpjcfjaaGreat
open Go Go.CM
attribute [local irreducible] AsBool AsWant AsNat AsInt AsCnt AsPtr AsSlc AsLen AsStr AsAgg AsTup AsFn AsIfc Nth Sc NotNil IsNil Must Cd codeW funW Sat SatL wrapN subM mkRow ltZ leZ ltN leN
variable {con : CallT}
end Go.Proofs.YtocphcgcpjcfjaaGreat

set_option linter.unusedVariables false
set_option linter.unusedSimpArgs false
namespace Go.Proofs.YtocphcgcpjcfjaaGreat
open Go Go.CM
theorem Same.agg4 {k1 k2 k3 k4 : IntKind} {a b c d : Int} {K : Prop} (h : K) : Same (.agg ⟨[.int k1 a, .int k2 b, .int k3 c, .int k4 d]⟩) (.agg ⟨[.int k1 a, .int k2 b, .int k3 c, .int k4 d]⟩) K := ⟨Must.mk (by simp [veq, veqL]) h⟩
instance {k1 k2 k3 k4 : IntKind} {a b c d : Int} {K : Prop} : Stp (Same (.agg ⟨[.int k1 a, .int k2 b, .int k3 c, .int k4 d]⟩) (.agg ⟨[.int k1 a, .int k2 b, .int k3 c, .int k4 d]⟩) K) K := ⟨Same.agg4⟩
attribute [local irreducible] AsBool AsWant AsNat AsInt AsCnt AsPtr AsSlc AsLen AsStr AsAgg AsTup AsFn AsIfc Nth Sc NotNil IsNil Must Cd codeW funW Sat SatL wrapN subM mkRow ltZ leZ ltN leN
variable {con : CallT}
end Go.Proofs.YtocphcgcpjcfjaaGreat

set_option linter.unusedVariables false
set_option linter.unusedSimpArgs false
namespace Go.Proofs.YtocphcgcpjcfjaaGreat
open Go Go.CM
attribute [local irreducible] AsBool AsWant AsNat AsInt AsCnt AsPtr AsSlc AsLen AsStr AsAgg AsTup AsFn AsIfc Nth Sc NotNil IsNil Must Cd codeW funW Sat SatL wrapN subM mkRow ltZ leZ ltN leN
variable {con : CallT}
end Go.Proofs.YtocphcgcpjcfjaaGreat

set_option linter.unusedVariables false
set_option linter.unusedSimpArgs false
namespace Go.Proofs.YtocphcgcpjcfjaaGreat
open Go Go.CM
attribute [local irreducible] AsBool AsWant AsNat AsInt AsCnt AsPtr AsSlc AsLen AsStr AsAgg AsTup AsFn AsIfc Nth Sc NotNil IsNil Must Cd codeW funW Sat SatL wrapN subM mkRow ltZ leZ ltN leN
variable {con : CallT}
set_option maxRecDepth 100000
end Go.Proofs.YtocphcgcpjcfjaaGreat

set_option linter.unusedVariables false
set_option linter.unusedSimpArgs false
namespace Go.Proofs.YtocphcgcpjcfjaaGreat
open Go Go.CM
attribute [local irreducible] AsBool AsWant AsNat AsInt AsCnt AsPtr AsSlc AsLen AsStr AsAgg AsTup AsFn AsIfc Nth Sc NotNil IsNil Must Cd codeW funW Sat SatL wrapN subM mkRow ltZ leZ ltN leN
variable {con : CallT}
/-! ### what steps keep of a memory -/
theorem qld (M : Mem) (th : Int) (a : Nat) : (M.load th a).tr.length = M.tr.length + 1 := by simp [Mem.load, Mem.note]
theorem qst (M : Mem) (th : Int) (a x : Nat) : (M.store th a x).tr.length = M.tr.length + 1 := by simp [Mem.store, Mem.note, Mem.put]
theorem qcs (M : Mem) (th : Int) (a x y : Nat) : (M.cas th a x y).tr.length = M.tr.length + 1 := by
  simp only [Mem.cas, Mem.note]
  split <;> simp [Mem.put]
/-- Numbers of 64 bits, and nothing long was allotted. -/
structure Fine (M : Mem) : Prop where
  bd : M.Bd
  vals : ∀ a ∈ M.tr, a.vals.length ≤ 1000000000
theorem fine_note {M : Mem} {c : Acs} (h : ∀ a ∈ M.tr, a.vals.length ≤ 1000000000) (hc : c.vals.length ≤ 1000000000) : ∀ a ∈ (M.note c).tr, a.vals.length ≤ 1000000000 := fun a ha => by
  simp only [Mem.note, List.mem_append, List.mem_singleton] at ha
  rcases ha with ha | rfl
  · exact h a ha
  · exact hc
/-- One access at most was made. -/
structure Nxt (M M' : Mem) : Prop where
  fine : Fine M → Fine M'
  tr : M'.tr.length ≤ M.tr.length + 1
  lo : M.tr.length ≤ M'.tr.length
theorem Nxt.refl (M : Mem) : Nxt M M := ⟨id, Nat.le_succ _, Nat.le_refl _⟩
theorem Nxt.load (M : Mem) (th : Int) (a : Nat) : Nxt M (M.load th a) := ⟨fun h => ⟨h.bd.load th a, fine_note h.vals (by simp [accLd])⟩, by rw [qld]; omega, by rw [qld]; omega⟩
theorem Nxt.store (M : Mem) (th : Int) (a : Nat) {x : Nat} (hx : x < 18446744073709551616) : Nxt M (M.store th a x) := ⟨fun h => ⟨h.bd.store th a hx, fine_note (M := M.put a x) h.vals (by simp [accSt])⟩, by rw [qst]; omega, by rw [qst]; omega⟩
theorem Nxt.cas (M : Mem) (th : Int) (a x : Nat) {y : Nat} (hy : y < 18446744073709551616) : Nxt M (M.cas th a x y) := ⟨fun h => ⟨h.bd.cas th a x hy, by
  unfold Mem.cas
  split
  · exact fine_note (M := M.put a y) h.vals (by simp [accCas])
  · exact fine_note h.vals (by simp [accCas])⟩, by rw [qcs]; omega, by rw [qcs]; omega⟩
theorem addM_lt (a b : Nat) : addM a b < 18446744073709551616 := Nat.mod_lt _ (by omega)
theorem snap_nxt (s : SnapS) (M : Mem) (th : Int) : Nxt M (s.step M th).2 := by
  unfold SnapS.step
  split
  · split
    · exact .refl M
    · exact .load M th _
  · exact .cas M th _ _ (slotW_lt ..)
  · exact .load M th _
  · exact .store M th _ (slotW_lt ..)
  · exact .load M th _
  · exact .cas M th _ _ (addM_lt ..)
  · exact .store M th _ (slotW_lt ..)
  · exact .store M th _ (slotW_lt ..)
theorem let_nxt (s : LetS) (M : Mem) (th : Int) : Nxt M (s.step M th).2 := by
  unfold LetS.step
  split
  · split
    · exact .load M th _
    · exact .refl M
  · exact .cas M th _ _ (slotW_lt ..)
theorem scan_nxt (s : ScanS) (M : Mem) (th : Int) : Nxt M (s.step M th).2 := by
  unfold ScanS.step
  split
  · exact .load M th _
  · exact .load M th _
/-! ### how many steps are left -/
def SnapS.rem (s : SnapS) : Nat := match s.at_ with | 0 => 2 * (cnt s.sl.count - s.i) + 8 | 1 => 2 * (cnt s.sl.count - s.i) + 7 | a => 8 - a
theorem genW_lt (w : Nat) : genW w < 1048576 := by unfold genW; omega
theorem snap_step (s : SnapS) (M : Mem) (th : Int) (h : s.Ok) : ((s.step M th).1.at_ ≠ 8 → (s.step M th).1.Ok) ∧ (s.step M th).1.at_ ≤ 8 ∧ (s.step M th).1.rem < s.rem ∧ ((s.step M th).1.ok = true → (s.step M th).1.i < 256 ∧ (s.step M th).1.gen < 1048576) ∧ (s.step M th).1.sl = s.sl := by
  obtain ⟨sl, at_, i, w, gen, t, ok, err⟩ := s
  obtain ⟨h1, h2, h3, h4, h5⟩ := h
  simp only at h1 h2 h3 h4 h5
  subst h2 h3
  have hc := cnt_le sl.count
  have hg := genW_lt (M.peek (addM sl.first i))
  rcases (by omega : at_ = 0 ∨ at_ = 1 ∨ at_ = 2 ∨ at_ = 3 ∨ at_ = 4 ∨ at_ = 5 ∨ at_ = 6 ∨ at_ = 7) with rfl | rfl | rfl | rfl | rfl | rfl | rfl | rfl
  · simp only [SnapS.step, SnapS.on, SnapS.cell]
    by_cases hz : cnt sl.count = 0
    · simp only [if_pos hz]; simp [SnapS.Ok, SnapS.rem] <;> omega
    · simp only [if_neg hz]
      by_cases hk : kindW (M.peek (addM sl.first i)) = 0
      · by_cases hgg : 1048575 ≤ genW (M.peek (addM sl.first i))
        · simp only [hgg, or_true, if_true]
          by_cases hi : i + 1 < cnt sl.count
          · simp only [if_pos hi]; simp [SnapS.Ok, SnapS.rem] <;> omega
          · simp only [if_neg hi]; simp [SnapS.Ok, SnapS.rem] <;> omega
        · simp only [hk, hgg, ne_eq, not_true_eq_false, or_false, if_false]; simp [SnapS.Ok, SnapS.rem] <;> omega
      · simp only [hk, ne_eq, not_false_eq_true, true_or, if_true]
        by_cases hi : i + 1 < cnt sl.count
        · simp only [if_pos hi]; simp [SnapS.Ok, SnapS.rem] <;> omega
        · simp only [if_neg hi]; simp [SnapS.Ok, SnapS.rem] <;> omega
  · simp only [SnapS.step, SnapS.on, SnapS.cell]
    cases M.swaps (addM sl.first i) w with
    | true => simp [SnapS.Ok, SnapS.rem] <;> omega
    | false =>
      simp only [Bool.false_eq_true, if_false]
      by_cases hi : i + 1 < cnt sl.count
      · simp only [if_pos hi]; simp [SnapS.Ok, SnapS.rem] <;> omega
      · simp only [if_neg hi]; simp [SnapS.Ok, SnapS.rem] <;> omega
  · simp only [SnapS.step]; simp [SnapS.Ok, SnapS.rem] <;> omega
  · simp only [SnapS.step]; simp [SnapS.Ok, SnapS.rem] <;> omega
  · simp only [SnapS.step]
    by_cases hm : sl.most ≤ M.peek sl.cam
    · simp only [if_pos hm]; simp [SnapS.Ok, SnapS.rem] <;> omega
    · simp only [if_neg hm]; simp [SnapS.Ok, SnapS.rem] <;> omega
  · simp only [SnapS.step]; simp [SnapS.Ok, SnapS.rem] <;> omega
  · simp only [SnapS.step]; simp [SnapS.Ok, SnapS.rem] <;> omega
  · simp only [SnapS.step]; simp [SnapS.Ok, SnapS.rem] <;> omega
def LetS.rem (s : LetS) : Nat := 2 - s.at_
theorem let_step (s : LetS) (M : Mem) (th : Int) (h : s.at_ < 2) : (s.step M th).1.at_ ≤ 2 ∧ (s.step M th).1.rem < s.rem ∧ (s.step M th).1.h = s.h ∧ (s.step M th).1.sl = s.sl := by
  obtain ⟨sl, h', at_, slot, w, gen, err⟩ := s
  simp only at h
  rcases (by omega : at_ = 0 ∨ at_ = 1) with rfl | rfl <;> simp only [LetS.step] <;> (repeat' split) <;> simp [LetS.rem]
theorem insU_le (x : Nat) : ∀ l : List Nat, (insU x l).length ≤ l.length + 1
  | [] => Nat.le_refl _
  | y :: r => by
    unfold insU
    split
    · simp
    · split
      · simp
      · have := insU_le x r; simp only [List.length_cons]; omega
theorem rise_le (b : Nat) : ∀ l : List Nat, (rise l b).length ≤ l.length
  | [] => Nat.le_refl _
  | x :: l => by
    show (if x < b then insU x (rise l b) else rise l b).length ≤ _
    have h1 := rise_le b l
    have h2 := insU_le x (rise l b)
    simp only [List.length_cons]
    split <;> omega
def ScanS.Ok (s : ScanS) : Prop := s.at_ < 2 ∧ s.i ≤ 256 ∧ (s.at_ = 1 → s.i < cnt s.sl.count) ∧ s.told.length ≤ s.i ∧ s.need = []
def ScanS.rem (s : ScanS) : Nat := match s.at_ with | 0 => cnt s.sl.count - s.i + 1 | 1 => cnt s.sl.count - s.i | _ => 0
theorem scan_step (s : ScanS) (M : Mem) (th : Int) (h : s.Ok) : ((s.step M th).1.at_ ≠ 2 → (s.step M th).1.Ok) ∧ (s.step M th).1.at_ ≤ 2 ∧ (s.step M th).1.at_ ≠ 0 ∧ (s.step M th).1.rem < s.rem ∧ (s.step M th).1.need.length ≤ 256 ∧ (s.step M th).1.sl = s.sl := by
  obtain ⟨sl, at_, i, fl, told, need⟩ := s
  obtain ⟨h1, h2, h3, h4, h5⟩ := h
  simp only at h1 h2 h3 h4 h5
  subst h5
  have hc := cnt_le sl.count
  rcases (by omega : at_ = 0 ∨ at_ = 1) with rfl | rfl
  · simp only [ScanS.step, ScanS.fin]
    have := rise_le (M.peek sl.cam) told
    split <;> simp [ScanS.Ok, ScanS.rem] <;> omega
  · have h6 := h3 rfl
    simp only [ScanS.step, ScanS.fin]
    by_cases h3 : kindW (M.peek (addM sl.first i)) = 3
    · simp only [if_pos h3]
      rw [if_neg (show ¬ kindW (M.peek (addM sl.first i)) = 2 by omega)]
      have := rise_le fl (told ++ [stampW (M.peek (addM sl.first i))])
      rw [List.length_append] at this
      simp only [List.length_cons, List.length_nil] at this
      split <;> simp [ScanS.Ok, ScanS.rem] <;> omega
    · simp only [if_neg h3]
      by_cases h2 : kindW (M.peek (addM sl.first i)) = 2
      · simp only [if_pos h2]
        have := rise_le (Nat.min fl (stampW (M.peek (addM sl.first i)))) told
        split <;> simp [ScanS.Ok, ScanS.rem] <;> omega
      · simp only [if_neg h2]
        have := rise_le fl told
        split <;> simp [ScanS.Ok, ScanS.rem] <;> omega
/-! ### a call, of whatever kind -/
structure P13 where
  kind : Int
  sn : SnapS
  lt : LetS
  sc : ScanS
def P13.isS (s : P13) : Bool := eqZ s.kind (Int.ofNat 0)
def P13.isN (s : P13) : Bool := eqZ s.kind (Int.ofNat 2)
noncomputable def P13.step (s : P13) (M : Mem) (th : Int) : P13 × Mem :=
  bif s.isS then ({ s with sn := (s.sn.step M th).1 }, (s.sn.step M th).2)
  else bif s.isN then ({ s with sc := (s.sc.step M th).1 }, (s.sc.step M th).2)
  else ({ s with lt := (s.lt.step M th).1 }, (s.lt.step M th).2)
def P13.fin (s : P13) : Bool :=
  bif s.isS then eqZ (Int.ofNat s.sn.at_) (Int.ofNat 8) else bif s.isN then eqZ (Int.ofNat s.sc.at_) (Int.ofNat 2) else eqZ (Int.ofNat s.lt.at_) (Int.ofNat 2)
def P13.rem (s : P13) : Nat := bif s.isS then s.sn.rem else bif s.isN then s.sc.rem else s.lt.rem
structure T13 where
  h : Nat
  st : Nat
  er : Nat
  fl : Nat
  need : List Nat
def P13.told (s : P13) : T13 :=
  bif s.isS then ⟨s.sn.handle, s.sn.stamp, s.sn.err, 0, []⟩ else bif s.isN then ⟨0, 0, 0, if s.sc.at_ = 2 then s.sc.fl else 0, s.sc.need⟩ else ⟨0, 0, s.lt.err, 0, []⟩
structure P13.Ok (s : P13) : Prop where
  sn : s.isS = true → s.sn.Ok
  sc : s.isS = false → s.isN = true → s.sc.Ok
  lt : s.isS = false → s.isN = false → s.lt.at_ < 2 ∧ s.lt.h < 18446744073709551616
/-- What may be asked what it told. -/
structure P13.Tl (s : P13) : Prop where
  sn : s.isS = true → s.sn.ok = true → s.sn.i < 256 ∧ s.sn.gen < 1048576
  sc : s.isN = true → s.sc.need.length ≤ 256 ∧ (s.sc.at_ ≠ 2 → s.sc.need = [])
  no : s.isN = false → s.sc.need = []
def P13.fresh (sl : SlotsS) (kind : Int) (h : Nat) : P13 := ⟨kind, snap0 sl, let0 sl h, scan0 sl⟩
theorem p13_isS {s : P13} (h : s.isS = true) : s.kind = Int.ofNat 0 := of_decide_eq_true h
theorem p13_isN {s : P13} (h : s.isN = true) : s.kind = Int.ofNat 2 := of_decide_eq_true h
theorem p13_not {s : P13} (h : s.isS = true) : s.isN = false := by
  unfold P13.isN
  rw [p13_isS h]; rfl
theorem p13_stepS {s : P13} (h : s.isS = true) (M : Mem) (th : Int) : s.step M th = ({ s with sn := (s.sn.step M th).1 }, (s.sn.step M th).2) := by unfold P13.step; rw [h]; rfl
theorem p13_stepN {s : P13} (h0 : s.isS = false) (h : s.isN = true) (M : Mem) (th : Int) : s.step M th = ({ s with sc := (s.sc.step M th).1 }, (s.sc.step M th).2) := by unfold P13.step; rw [h0, h]; rfl
theorem p13_stepL {s : P13} (h0 : s.isS = false) (h : s.isN = false) (M : Mem) (th : Int) : s.step M th = ({ s with lt := (s.lt.step M th).1 }, (s.lt.step M th).2) := by unfold P13.step; rw [h0, h]; rfl
theorem p13_finS {s : P13} (h : s.isS = true) : s.fin = eqZ (Int.ofNat s.sn.at_) (Int.ofNat 8) := by unfold P13.fin; rw [h]; rfl
theorem p13_finN {s : P13} (h0 : s.isS = false) (h : s.isN = true) : s.fin = eqZ (Int.ofNat s.sc.at_) (Int.ofNat 2) := by unfold P13.fin; rw [h0, h]; rfl
theorem p13_finL {s : P13} (h0 : s.isS = false) (h : s.isN = false) : s.fin = eqZ (Int.ofNat s.lt.at_) (Int.ofNat 2) := by unfold P13.fin; rw [h0, h]; rfl
theorem p13_toldS {s : P13} (h : s.isS = true) : s.told = ⟨s.sn.handle, s.sn.stamp, s.sn.err, 0, []⟩ := by unfold P13.told; rw [h]; rfl
theorem p13_toldN {s : P13} (h0 : s.isS = false) (h : s.isN = true) : s.told = ⟨0, 0, 0, if s.sc.at_ = 2 then s.sc.fl else 0, s.sc.need⟩ := by unfold P13.told; rw [h0, h]; rfl
theorem p13_toldL {s : P13} (h0 : s.isS = false) (h : s.isN = false) : s.told = ⟨0, 0, s.lt.err, 0, []⟩ := by unfold P13.told; rw [h0, h]; rfl
theorem p13_nxt (s : P13) (M : Mem) (th : Int) : Nxt M (s.step M th).2 := by
  cases h0 : s.isS with
  | true => rw [p13_stepS h0]; exact snap_nxt s.sn M th
  | false =>
    cases h2 : s.isN with
    | true => rw [p13_stepN h0 h2]; exact scan_nxt s.sc M th
    | false => rw [p13_stepL h0 h2]; exact let_nxt s.lt M th
theorem p13_kind (s : P13) (M : Mem) (th : Int) : (s.step M th).1.kind = s.kind := by
  unfold P13.step
  cases s.isS with
  | true => rfl
  | false => cases s.isN <;> rfl
theorem eqZ_ne {a b : Nat} (h : eqZ (Int.ofNat a) (Int.ofNat b) = false) : a ≠ b := fun e => by rw [eqZ_t e] at h; cases h
theorem p13_step (s : P13) (M : Mem) (th : Int) (h : s.Ok) (ht : s.Tl) : ((s.step M th).1.fin = false → (s.step M th).1.Ok) ∧ (s.step M th).1.Tl ∧ (s.step M th).1.rem < s.rem := by
  cases h0 : s.isS with
  | true =>
    have hn : s.isN = false := p13_not h0
    obtain ⟨g1, g2, g3, g4, g5⟩ := snap_step s.sn M th (h.sn h0)
    rw [p13_stepS h0]
    generalize (s.sn.step M th).1 = x at *
    have i0 : P13.isS { s with sn := x } = true := h0
    refine ⟨fun hf => ⟨fun _ => g1 (eqZ_ne ((p13_finS i0).symm.trans hf)), fun q _ => (by rw [i0] at q; cases q), fun q _ => (by rw [i0] at q; cases q)⟩, ⟨fun _ => g4, fun q => ht.sc q, fun q => ht.no q⟩, ?_⟩
    show (bif P13.isS { s with sn := x } then x.rem else _) < (bif s.isS then s.sn.rem else _)
    rw [i0, h0]; exact g3
  | false =>
    cases h2 : s.isN with
    | true =>
      obtain ⟨g1, g2, g3, g4, g5, g6⟩ := scan_step s.sc M th (h.sc h0 h2)
      rw [p13_stepN h0 h2]
      generalize (s.sc.step M th).1 = x at *
      have i0 : P13.isS { s with sc := x } = false := h0
      have i2 : P13.isN { s with sc := x } = true := h2
      refine ⟨fun hf => ⟨fun q => (by rw [i0] at q; cases q), fun _ _ => g1 (eqZ_ne ((p13_finN i0 i2).symm.trans hf)), fun _ q => (by rw [i2] at q; cases q)⟩, ⟨fun q => (by rw [i0] at q; cases q), fun _ => ⟨g5, fun q => (g1 q).2.2.2.2⟩, fun q => (by rw [i2] at q; cases q)⟩, ?_⟩
      show (bif P13.isS { s with sc := x } then s.sn.rem else bif P13.isN { s with sc := x } then x.rem else _) < (bif s.isS then s.sn.rem else bif s.isN then s.sc.rem else _)
      rw [i0, h0, i2, h2]; exact g4
    | false =>
      obtain ⟨g1, g2, g3, g4⟩ := let_step s.lt M th (h.lt h0 h2).1
      have g5 := (h.lt h0 h2).2
      rw [p13_stepL h0 h2]
      generalize (s.lt.step M th).1 = x at *
      have i0 : P13.isS { s with lt := x } = false := h0
      have i2 : P13.isN { s with lt := x } = false := h2
      refine ⟨fun hf => ⟨fun q => (by rw [i0] at q; cases q), fun _ q => (by rw [i2] at q; cases q), fun _ _ => ⟨?_, by show x.h < _; rw [g3]; exact g5⟩⟩, ⟨fun q => (by rw [i0] at q; cases q), fun q => (by rw [i2] at q; cases q), fun q => ht.no h2⟩, ?_⟩
      · have := eqZ_ne ((p13_finL i0 i2).symm.trans hf)
        show x.at_ < 2
        have : x.at_ ≠ 2 := this
        omega
      · show (bif P13.isS { s with lt := x } then s.sn.rem else bif P13.isN { s with lt := x } then s.sc.rem else x.rem) < (bif s.isS then s.sn.rem else bif s.isN then s.sc.rem else s.lt.rem)
        rw [i0, h0, i2, h2]; exact g2
theorem p13_fresh (sl : SlotsS) (kind : Int) {h : Nat} (hh : h < 18446744073709551616) : (P13.fresh sl kind h).Ok ∧ (P13.fresh sl kind h).Tl ∧ (P13.fresh sl kind h).rem ≤ 520 ∧ (P13.fresh sl kind h).fin = false := by
  have hc := cnt_le sl.count
  refine ⟨⟨fun _ => ⟨by show 0 < 8; omega, rfl, rfl, by show 0 < 1048576; omega, by show 0 < 256; omega⟩, fun _ _ => ⟨by show 0 < 2; omega, by show 0 ≤ 256; omega, fun q => (by cases q), Nat.le_refl _, rfl⟩, fun _ _ => ⟨by show 0 < 2; omega, hh⟩⟩, ⟨fun _ q => (by cases q), fun _ => ⟨(by show 0 ≤ 256; omega), fun _ => rfl⟩, fun _ => rfl⟩, ?_, ?_⟩
  · unfold P13.rem
    cases (P13.fresh sl kind h).isS with
    | true => show 2 * (cnt sl.count - 0) + 8 ≤ 520; omega
    | false =>
      cases (P13.fresh sl kind h).isN with
      | true => show cnt sl.count - 0 + 1 ≤ 520; omega
      | false => show 2 - 0 ≤ 520; omega
  · unfold P13.fin
    cases (P13.fresh sl kind h).isS with
    | true => rfl
    | false => cases (P13.fresh sl kind h).isN <;> rfl
end Go.Proofs.YtocphcgcpjcfjaaGreat

set_option linter.unusedVariables false
set_option linter.unusedSimpArgs false
namespace Go.Proofs.YtocphcgcpjcfjaaGreat
open Go Go.CM
attribute [local irreducible] AsBool AsWant AsNat AsInt AsCnt AsPtr AsSlc AsLen AsStr AsAgg AsTup AsFn AsIfc Nth Sc NotNil IsNil Must Cd codeW funW Sat SatL wrapN subM mkRow ltZ leZ ltN leN
variable {con : CallT}
theorem vec_nil {x : Value} {e s : Nat} {h : PH} (a : Vec x e s [] h) : x = snil := by
  rcases a.2 with ⟨rfl, _⟩ | ⟨b, hb, _⟩
  · rfl
  · exact absurd rfl hb
/-- A call of the document. -/
def RAt13 (p : Nat) (s : P13) : HP := fun h => ∃ w v, SatL [Own p (d13 s.kind s.sn s.lt s.sc w v (t13 (u64 s.told.h) (u64 s.told.st) (iN s.told.er) (u64 s.told.fl) w (.bool s.fin))), Vec w tU 1 (rowsU s.sc.need), Vec v tU 1 (rowsU s.sc.told)] h
set_option maxRecDepth 100000 in
theorem r13step_ok (hc : Con con lives) (s : P13) {L R1 R2 : List HP} {H : CH} {p m : Nat} {th : Int} {M : Mem} {K : KP} (hs : Sat L H) (hm : Pull L (RefP m M) R1) (hp : Pull R1 (RAt13 p s) R2)
    (ht : M.tr.length < 1000000000) (hb : M.Bd) (hok : s.Ok) (htl : s.Tl)
    (k : ∀ H1, Sat (RAt13 p (s.step M th).1 :: RefP m (s.step M th).2 :: R2) H1 → K (.bool (s.step M th).1.fin) H1) :
    Call1 Tryz.prog con 92 [ptr p 0, ptr m 0, i64 th] H K := by
  have hs0 := hs.takes (.cons hm (.cons hp .nil))
  simp only [List.cons_append, List.nil_append] at hs0
  clear hs hm hp
  obtain ⟨h1, h2, s1, s2, d, ⟨w, v, hin⟩, hR⟩ := hs0.opens (A := RAt13 p s) (.there .here)
  have hs1 := Sat.merge s1 s2 d hin hR
  simp only [List.cons_append, List.nil_append] at hs1
  clear hs0
  cases h0 : s.isS with
  | true =>
    rw [p13_stepS h0] at k
    dsimp only at k
    have ek := p13_isS h0
    rw [ek] at hs1
    refine rProc0_ok hc s.sn hs1 pp pp ht hb (hok.sn h0) fun H1 b hb' h1 => ?_
    have e : P13.fin { s with sn := (s.sn.step M th).1 } = b := (p13_finS (s := { s with sn := (s.sn.step M th).1 }) h0).trans hb'.symm
    rw [← e]
    have e2 := p13_toldS (s := { s with sn := (s.sn.step M th).1 }) h0
    have e3 := p13_toldS h0
    have h5 : Sat ([Own p (d13 (Int.ofNat 0) (s.sn.step M th).1 s.lt s.sc w v (t13 (u64 (s.sn.step M th).1.handle) (u64 (s.sn.step M th).1.stamp) (iN (s.sn.step M th).1.err) (u64 s.told.fl) w (.bool b))), Vec w tU 1 (rowsU s.sc.need), Vec v tU 1 (rowsU s.sc.told)] ++ (RefP m (s.sn.step M th).2 :: R2)) H1 := h1.ent ee
    refine k H1 (h5.close fun g a => ⟨w, v, ?_⟩)
    rw [e2, e]
    rw [e3] at a
    dsimp only
    rw [ek]
    exact a
  | false =>
    cases h2 : s.isN with
    | true =>
      rw [p13_stepN h0 h2] at k
      dsimp only at k
      have ek := p13_isN h2
      obtain ⟨k1, k2, k3, k4, k5⟩ := hok.sc h0 h2
      have hcl := cnt_le s.sc.sl.count
      rw [ek, k5] at hs1
      have hs2 : Sat (Vec w tU 1 (rowsU []) :: Own p (d13 (Int.ofNat 2) s.sn s.lt s.sc w v (t13 (u64 s.told.h) (u64 s.told.st) (iN s.told.er) (u64 s.told.fl) w (.bool s.fin))) :: Vec v tU 1 (rowsU s.sc.told) :: RefP m M :: R2) H := hs1.ent ee
      obtain rfl := vec_nil (hs2.has Has.vec)
      obtain ⟨q1, q2, q3, q4, q5, q6⟩ := scan_step s.sc M th (hok.sc h0 h2)
      refine rProc2_ok hc s.sc hs2 pp pp pp ht hb k1 k2 (fun h => by have := k3 h; omega) k4 k5 fun w' v' H1 b hb' h1 => ?_
      have e : P13.fin { s with sc := (s.sc.step M th).1 } = b := (p13_finN (s := { s with sc := (s.sc.step M th).1 }) h0 h2).trans hb'.symm
      rw [← e]
      have e2 := p13_toldN (s := { s with sc := (s.sc.step M th).1 }) h0 h2
      have e3 := p13_toldN h0 h2
      have h5 : Sat ([Own p (d13 (Int.ofNat 2) s.sn s.lt (s.sc.step M th).1 w' v' (t13 (u64 s.told.h) (u64 s.told.st) (iN s.told.er) (u64 (if (s.sc.step M th).1.at_ = 2 then (s.sc.step M th).1.fl else 0)) w' (.bool b))), Vec w' tU 1 (rowsU (s.sc.step M th).1.need), Vec v' tU 1 (rowsU (s.sc.step M th).1.told)] ++ (RefP m (s.sc.step M th).2 :: R2)) H1 := h1.ent ee
      refine k H1 (h5.close fun g a => ⟨w', v', ?_⟩)
      rw [e2, e]
      rw [e3] at a
      dsimp only
      rw [ek]
      exact a
    | false =>
      rw [p13_stepL h0 h2] at k
      dsimp only at k
      refine rProc1_ok hc s.lt hs1 pp pp h0 h2 ht hb (hok.lt h0 h2).2 (hok.lt h0 h2).1 fun H1 b hb' h1 => ?_
      have e : P13.fin { s with lt := (s.lt.step M th).1 } = b := (p13_finL (s := { s with lt := (s.lt.step M th).1 }) h0 h2).trans hb'.symm
      rw [← e]
      have e2 := p13_toldL (s := { s with lt := (s.lt.step M th).1 }) h0 h2
      have e3 := p13_toldL h0 h2
      have h5 : Sat ([Own p (d13 s.kind s.sn (s.lt.step M th).1 s.sc w v (t13 (u64 s.told.h) (u64 s.told.st) (iN (s.lt.step M th).1.err) (u64 s.told.fl) w (.bool b))), Vec w tU 1 (rowsU s.sc.need), Vec v tU 1 (rowsU s.sc.told)] ++ (RefP m (s.lt.step M th).2 :: R2)) H1 := h1.ent ee
      refine k H1 (h5.close fun g a => ⟨w, v, ?_⟩)
      rw [e2, e]
      rw [e3] at a
      exact a
theorem rbegin13_ok (hc : Con con lives) (sl : SlotsS) {kind : Int} {h et : Nat} {v : Value} {rows : List (List Value)} {hd : List Nat} {L : List HP} {H : CH} {K : KP} (hs : Sat L H) (hv : Has L (Vec v et 6 rows)) (hl : rows.length ≤ 1000000000) (hln : hd.length = rows.length)
    (hr : ∀ (i : Nat) row x, rows[i]? = some row → hd[i]? = some x → row[0]? = some (u64 x))
    (k : ∀ p H1, Sat (RAt13 p (P13.fresh sl kind (bh kind h hd)) :: L) H1 → K (ptr p 0) H1) : Call1 Tryz.prog con 91 [.agg ⟨[u64 sl.cam, u64 sl.first, i64 sl.count, u64 sl.most]⟩, .agg ⟨[i64 kind, u64 h]⟩, v] H K := by
  refine rBegin13_ok hc sl hs hv hl hln hr fun p H1 h1 => k p H1 ?_
  have h2 := ((h1.nilV (e := tU) (s := 1)).nilV (e := tU) (s := 1))
  have h5 : Sat ([Own p (d13 kind (snap0 sl) (let0 sl (bh kind h hd)) (scan0 sl) snil snil z13), Vec snil tU 1 [], Vec snil tU 1 []] ++ L) H1 := h2.ent ee
  refine h5.close fun g a => ⟨snil, snil, ?_⟩
  have e1 : (P13.fresh sl kind (bh kind h hd)).told = ⟨0, 0, 0, 0, []⟩ := by
    unfold P13.told
    cases (P13.fresh sl kind (bh kind h hd)).isS with
    | true => rfl
    | false => cases (P13.fresh sl kind (bh kind h hd)).isN <;> rfl
  have e2 : (P13.fresh sl kind (bh kind h hd)).fin = false := by
    unfold P13.fin
    cases (P13.fresh sl kind (bh kind h hd)).isS with
    | true => rfl
    | false => cases (P13.fresh sl kind (bh kind h hd)).isN <;> rfl
  rw [e1, e2]
  exact a
end Go.Proofs.YtocphcgcpjcfjaaGreat

set_option linter.unusedVariables false
set_option linter.unusedSimpArgs false
namespace Go.Proofs.YtocphcgcpjcfjaaGreat
open Go Go.CM
theorem Same.agg6 {h st er fl : Nat} {p : Option Addr} {l c : Nat} {b : Bool} {K : Prop} (k : K) : Same (.agg ⟨[u64 h, u64 st, iN er, u64 fl, .slice p l c, .bool b]⟩) (.agg ⟨[u64 h, u64 st, iN er, u64 fl, .slice p l c, .bool b]⟩) K := ⟨Must.mk (by simp [veq, veqL]) k⟩
instance {h st er fl : Nat} {p : Option Addr} {l c : Nat} {b : Bool} {K : Prop} : Stp (Same (.agg ⟨[u64 h, u64 st, iN er, u64 fl, .slice p l c, .bool b]⟩) (.agg ⟨[u64 h, u64 st, iN er, u64 fl, .slice p l c, .bool b]⟩) K) K := ⟨Same.agg6⟩
attribute [local irreducible] AsBool AsWant AsNat AsInt AsCnt AsPtr AsSlc AsLen AsStr AsAgg AsTup AsFn AsIfc Nth Sc NotNil IsNil Must Cd codeW funW Sat SatL wrapN subM mkRow ltZ leZ ltN leN
variable {con : CallT}
theorem has_nr {v : Value} {l : List Nat} {L : List HP} : Has (NumsR v l :: L) (NumsR v l) := Has.here fun a t => NumsR.mono a t
/-- The handles that rows tell. -/
def Hds (rows : List (List Value)) (hd : List Nat) : Prop := hd.length = rows.length ∧ (∀ (i : Nat) row x, rows[i]? = some row → hd[i]? = some x → row[0]? = some (u64 x)) ∧ ∀ x ∈ hd, x < 18446744073709551616
theorem Hds.nil : Hds [] [] := ⟨rfl, fun i row x h => by simp at h, fun x h => nomatch h⟩
theorem Hds.snoc {rows : List (List Value)} {hd : List Nat} (h : Hds rows hd) {x : Nat} {r : List Value} (hr : r[0]? = some (u64 x)) (hx : x < 18446744073709551616) : Hds (rows ++ [r]) (hd ++ [x]) := by
  obtain ⟨h1, h2, h3⟩ := h
  refine ⟨by simp [h1], fun i row y hi hy => ?_, fun y hy => ?_⟩
  · by_cases hl : i < rows.length
    · rw [List.getElem?_append_left hl] at hi
      rw [List.getElem?_append_left (by omega)] at hy
      exact h2 i row y hi hy
    · rw [List.getElem?_append_right (by omega)] at hi hy
      rw [h1] at hy
      cases e : i - rows.length with
      | zero => rw [e] at hi hy; cases hi; cases hy; exact hr
      | succ k => rw [e] at hi; simp at hi
  · rcases List.mem_append.1 hy with h | h
    · exact h3 y h
    · rw [List.mem_singleton.1 h]; exact hx
theorem bh_lt {kind : Int} {h : Nat} {hd : List Nat} (h1 : h < 18446744073709551616) (h2 : ∀ x ∈ hd, x < 18446744073709551616) : bh kind h hd < 18446744073709551616 := by
  unfold bh
  split
  · rw [List.getD_eq_getElem?_getD]
    cases e : hd[h]? with
    | none => simp
    | some x => exact h2 x (List.mem_of_getElem? e)
  · exact h1
theorem call_yes {f : FuncId} {args : List Value} {H : CH} {K : KP} {v : Value} (h : con f ⟨args⟩ H = some (v, H)) (k : K v H) : Call1 Tryz.prog con f args H K := ⟨⟨0, v, H, h, k⟩⟩
theorem fine0 (n : Nat) : Fine (mem0 n) := ⟨fun x hx => by
  have := List.eq_of_mem_replicate hx
  omega, fun a ha => nomatch ha⟩
end Go.Proofs.YtocphcgcpjcfjaaGreat

set_option linter.unusedVariables false
set_option linter.unusedSimpArgs false
namespace Go.Proofs.YtocphcgcpjcfjaaGreat
open Go Go.CM
theorem ltZ_z {a b : Int} : ltZ a b = true ↔ a < b := ⟨fun h => of_decide_eq_true h, fun h => decide_eq_true h⟩
theorem ltZ_zf {a b : Int} (h : ¬ a < b) : ltZ a b = false := decide_eq_false h
theorem leZ_zt {a b : Int} (h : a ≤ b) : leZ a b = true := decide_eq_true h
theorem leZ_zf {a b : Int} (h : ¬ a ≤ b) : leZ a b = false := decide_eq_false h
theorem cnt_hi {z : Int} (h : (256 : Int) < z) : cnt z = 256 := by
  cases z with
  | ofNat k => exact if_pos (by have := Int.ofNat_lt.1 h; omega)
  | negSucc k => exact absurd h (by have : Int.negSucc k < 0 := Int.negSucc_lt_zero k; omega)
theorem cnt_lo {z : Int} (h : ¬ (256 : Int) < z) (i : Nat) : cnt z ≤ i ↔ z ≤ (Int.ofNat i) := by
  cases z with
  | ofNat k =>
    have hk : ¬ 256 < k := fun q => h (Int.ofNat_lt.2 q)
    show (if 256 < k then 256 else k) ≤ i ↔ _
    rw [if_neg hk]
    exact Int.ofNat_le.symm
  | negSucc k =>
    refine ⟨fun _ => ?_, fun _ => Nat.zero_le _⟩
    have : Int.negSucc k < 0 := Int.negSucc_lt_zero k
    have : (0 : Int) ≤ Int.ofNat i := Int.natCast_nonneg i
    omega
attribute [local irreducible] AsBool AsWant AsNat AsInt AsCnt AsPtr AsSlc AsLen AsStr AsAgg AsTup AsFn AsIfc Nth Sc NotNil IsNil Must Cd codeW funW Sat SatL wrapN subM mkRow ltZ leZ ltN leN
variable {con : CallT}
/-! ### law 14: who asks whether a handle holds -/
structure AskS where
  sl : SlotsS
  h : Nat
  dn : Bool
  k : Nat
  g : Nat
  t : Nat
  hd : Bool
def askC (s : AskS) (ex : List Value) : List Value := [u64 s.sl.cam, u64 s.sl.first, i64 s.sl.count, u64 s.sl.most, u64 s.h, .bool s.dn, u8 s.k, u64 s.g, u64 s.t, .bool s.hd] ++ ex
def hThere (sl : SlotsS) (h : Nat) : Bool := hOk h && decide (h % 65536 - 1 < cnt sl.count)
def hWord (sl : SlotsS) (h : Nat) (M : Mem) : Nat := M.peek (addM sl.first (h % 65536 - 1))
def hHolds (sl : SlotsS) (h : Nat) (M : Mem) : Bool := hThere sl h && (eqN (kindW (hWord sl h M)) 3 && eqN (genW (hWord sl h M)) (h / 65536))
def AskS.look (s : AskS) (M : Mem) (th : Int) : AskS × Mem :=
  bif hThere s.sl s.h then (⟨s.sl, s.h, true, kindW (hWord s.sl s.h M), genW (hWord s.sl s.h M), stampW (hWord s.sl s.h M), eqN (kindW (hWord s.sl s.h M)) 3 && eqN (genW (hWord s.sl s.h M)) (s.h / 65536)⟩, M.load th (addM s.sl.first (s.h % 65536 - 1)))
  else ({ s with dn := true }, M)
def ask0 (sl : SlotsS) (h : Nat) : AskS := ⟨sl, h, false, 0, 0, 0, false⟩
theorem hOpen_ok (hc : Con con lives) (sl : SlotsS) {h : Nat} {L : List HP} {H : CH} {K : KP} (hs : Sat L H) (k : ∀ p H1, Sat (Own p (askC (ask0 sl h) []) :: L) H1 → K (ptr p 0) H1) : Call1 Tryz.prog con 25 [.agg ⟨[u64 sl.cam, u64 sl.first, i64 sl.count, u64 sl.most]⟩, u64 h] H K := by
  refine call_of (hc _ _ _ rfl) ?_
  rw [hOpen_W]
  repeat (refine gO ?_; intros)
  exact k _ _ (Sat.ent (by assumption) ee)
theorem hClose_ok (hc : Con con lives) (sl : SlotsS) {h st : Nat} {L : List HP} {H : CH} {K : KP} (hs : Sat L H) (k : ∀ p H1, Sat (Own p (askC (ask0 sl h) [u64 st]) :: L) H1 → K (ptr p 0) H1) : Call1 Tryz.prog con 67 [.agg ⟨[u64 sl.cam, u64 sl.first, i64 sl.count, u64 sl.most]⟩, u64 h, u64 st] H K := by
  refine call_of (hc _ _ _ rfl) ?_
  rw [hClose_W]
  repeat (refine gO ?_; intros)
  exact k _ _ (Sat.ent (by assumption) ee)
theorem hOpenErr_ok (hc : Con con lives) (s : AskS) {ex : List Value} {L : List HP} {H : CH} {p : Nat} {K : KP} (hs : Sat L H) [HasCell L p (askC s ex)] (k : K (iN (if s.dn && !s.hd then 33 else 0)) H) : Call1 Tryz.prog con 27 [ptr p 0] H K := by
  refine call_of (hc _ _ _ rfl) ?_
  rw [hOpenErr_W]
  obtain ⟨sl, h, dn, kk, g, t, hd⟩ := s
  cases dn <;> cases hd
  all_goals
    repeat (refine gO ?_; intros)
    exact k
theorem hOpenStamp_ok (hc : Con con lives) (s : AskS) {ex : List Value} {L : List HP} {H : CH} {p : Nat} {K : KP} (hs : Sat L H) [HasCell L p (askC s ex)] (k : K (u64 (if s.hd then s.t else 0)) H) : Call1 Tryz.prog con 33 [ptr p 0] H K := by
  refine call_of (hc _ _ _ rfl) ?_
  rw [hOpenStamp_W]
  obtain ⟨sl, h, dn, kk, g, t, hd⟩ := s
  cases hd
  all_goals
    repeat (refine gO ?_; intros)
    exact k
theorem hCloseErr_ok (hc : Con con lives) (s : AskS) {st : Nat} {L : List HP} {H : CH} {p : Nat} {K : KP} (hs : Sat L H) [HasCell L p (askC s [u64 st])] (k : K (iN (if s.dn && !(s.hd && eqN s.t st) then 34 else 0)) H) : Call1 Tryz.prog con 34 [ptr p 0] H K := by
  refine call_of (hc _ _ _ rfl) ?_
  rw [hCloseErr_W]
  obtain ⟨sl, h, dn, kk, g, t, hd⟩ := s
  cases dn <;> cases hd
  · repeat (refine gO ?_; intros)
    exact k
  · repeat (refine gO ?_; intros)
    exact k
  · repeat (refine gO ?_; intros)
    exact k
  · repeat (refine gO ?_; intros)
    simp only [Bool.true_and] at k
    cases e : eqN t st with
    | true =>
      refine Cd.f (by rfl) ?_
      rw [e] at k
      exact k
    | false =>
      refine Cd.t (by rfl) ?_
      rw [e] at k
      exact k
theorem hLook_ok (hc : Con con lives) (s : AskS) {ex : List Value} {L R1 R2 R3 : List HP} {H : CH} {p q m n : Nat} {th : Int} {M : Mem} {K : KP} (hs : Sat L H) (hm : Pull L (MemP m M) R1) (hv : Pull R1 (ViewAt q m th n) R2) (hp : Pull R2 (Own p (askC s ex)) R3)
    (hn : n < 1000000000) (ht : M.tr.length < 1000000000) (hb : M.Bd) (hh : s.h < 18446744073709551616)
    (k : ∀ n' H1, n' ≤ n + 1 → Sat (Own p (askC (s.look M th).1 ex) :: MemP m (s.look M th).2 :: ViewAt q m th n' :: R3) H1 → K (.tuple ⟨[]⟩) H1) :
    Call1 Tryz.prog con 80 [ptr p 0, ptr q 0] H K := by
  refine call_of (hc _ _ _ rfl) ?_
  rw [hLook_W]
  have hs0 := hs.takes (.cons hm (.cons hv (.cons hp .nil)))
  simp only [List.cons_append, List.nil_append] at hs0
  clear hs hm hv hp
  obtain ⟨sl, h, dn, kk, g, t, hd⟩ := s
  simp only at hh
  refine stN hs0 (by simp [askC]) rfl fun H1 h1 => ?_
  repeat (refine gO ?_; intros)
  refine wordUnhandle_ok hc hh (fun hf => ?_) (fun htr => ?_)
  · have hth : hThere sl h = false := by unfold hThere; rw [hf]; rfl
    repeat (refine gO ?_; intros)
    have q := k n H1 (Nat.le_succ _)
    simp only [AskS.look, hth, cond_false] at q
    exact q (h1.ent ee)
  · repeat (refine gO ?_; intros)
    by_cases hbig : (256 : Int) < sl.count
    · refine Cd.t (ltZ_z.2 hbig) ?_
      repeat (refine gO ?_; intros)
      by_cases hlt : 256 ≤ h % 65536 - 1
      · have hth : hThere sl h = false := by unfold hThere; rw [cnt_hi hbig, decide_eq_false (by omega), Bool.and_false]
        refine Cd.t (leZ_t hlt) ?_
        have q := k n H1 (Nat.le_succ _)
        simp only [AskS.look, hth, cond_false] at q
        exact q (h1.ent ee)
      · have hth : hThere sl h = true := by unfold hThere; rw [cnt_hi hbig, htr, decide_eq_true (by omega)]; rfl
        refine Cd.f (leZ_f (show h % 65536 - 1 < 256 by omega)) ?_
        refine la rfl ?_
        repeat (refine gO ?_; intros)
        refine Must.mk (cv_small (show h % 65536 - 1 < _ by omega)) ?_
        repeat (refine gO ?_; intros)
        rw [wrapN_small (show h % 65536 - 1 < _ by omega)]
        refine viewLoad_ok (a := addM sl.first (h % 65536 - 1)) hc h1 pp pp hn ht fun H52 h52 => ?_
        have hbp := hb.peek (addM sl.first (h % 65536 - 1))
        generalize hx : M.peek (addM sl.first (h % 65536 - 1)) = x at *
        repeat (refine gO ?_; intros)
        refine wordUnpack_ok hc h52 hbp fun H56 h56 => ?_
        repeat (refine gO ?_; intros)
        refine stN h56 (by show 9 ≤ ex.length + 10; omega) rfl fun H63 h63 => ?_
        repeat (refine gO ?_; intros)
        refine OpN.eqAgg (a := ⟨[u8 (kindW x), u64 (genW x), u64 (stampW x)]⟩) (c := ⟨[u8 3, u64 (h / 65536), u64 (stampW x)]⟩) rfl rfl slot_guard (slot_eq _ _ _ _ _ _ _) ?_
        rw [eqN_self]
        repeat (refine gO ?_; intros)
        rename_i H64 h64
        have q := k (n + 1) H64 (Nat.le_refl _)
        simp only [AskS.look, hth, cond_true, hWord, hx] at q
        refine q ?_
        rw [show (true && true) = true from rfl, Bool.and_true] at h64
        exact h64.ent ee
    · refine Cd.f (ltZ_zf hbig) ?_
      repeat (refine gO ?_; intros)
      have hcl := cnt_lo hbig (h % 65536 - 1)
      have hc256 := cnt_le sl.count
      by_cases hlt : cnt sl.count ≤ h % 65536 - 1
      · have hth : hThere sl h = false := by unfold hThere; rw [decide_eq_false (by omega), Bool.and_false]
        refine Cd.t (leZ_zt (hcl.1 hlt)) ?_
        have q := k n H1 (Nat.le_succ _)
        simp only [AskS.look, hth, cond_false] at q
        exact q (h1.ent ee)
      · have hth : hThere sl h = true := by unfold hThere; rw [htr, decide_eq_true (by omega)]; rfl
        refine Cd.f (leZ_zf fun q => hlt (hcl.2 q)) ?_
        refine la rfl ?_
        repeat (refine gO ?_; intros)
        refine Must.mk (cv_small (show h % 65536 - 1 < _ by omega)) ?_
        repeat (refine gO ?_; intros)
        rw [wrapN_small (show h % 65536 - 1 < _ by omega)]
        refine viewLoad_ok (a := addM sl.first (h % 65536 - 1)) hc h1 pp pp hn ht fun H52 h52 => ?_
        have hbp := hb.peek (addM sl.first (h % 65536 - 1))
        generalize hx : M.peek (addM sl.first (h % 65536 - 1)) = x at *
        repeat (refine gO ?_; intros)
        refine wordUnpack_ok hc h52 hbp fun H56 h56 => ?_
        repeat (refine gO ?_; intros)
        refine stN h56 (by show 9 ≤ ex.length + 10; omega) rfl fun H63 h63 => ?_
        repeat (refine gO ?_; intros)
        refine OpN.eqAgg (a := ⟨[u8 (kindW x), u64 (genW x), u64 (stampW x)]⟩) (c := ⟨[u8 3, u64 (h / 65536), u64 (stampW x)]⟩) rfl rfl slot_guard (slot_eq _ _ _ _ _ _ _) ?_
        rw [eqN_self]
        repeat (refine gO ?_; intros)
        rename_i H64 h64
        have q := k (n + 1) H64 (Nat.le_refl _)
        simp only [AskS.look, hth, cond_true, hWord, hx] at q
        refine q ?_
        rw [show (true && true) = true from rfl, Bool.and_true] at h64
        exact h64.ent ee
end Go.Proofs.YtocphcgcpjcfjaaGreat

set_option linter.unusedVariables false
set_option linter.unusedSimpArgs false
namespace Go.Proofs.YtocphcgcpjcfjaaGreat
open Go Go.CM
attribute [local irreducible] AsBool AsWant AsNat AsInt AsCnt AsPtr AsSlc AsLen AsStr AsAgg AsTup AsFn AsIfc Nth Sc NotNil IsNil Must Cd codeW funW Sat SatL wrapN subM mkRow ltZ leZ ltN leN
variable {con : CallT}
theorem rWhere_ok (hc : Con con lives) (sl : SlotsS) {h : Nat} {L : List HP} {H : CH} {K : KP} (hs : Sat L H) (hh : h < 18446744073709551616)
    (kf : hThere sl h = false → ∀ H1, Sat L H1 → K (.tuple ⟨[u64 0, u64 0, .bool false]⟩) H1) (kt : hThere sl h = true → h % 65536 - 1 < 256 → ∀ H1, Sat L H1 → K (.tuple ⟨[u64 (addM sl.first (h % 65536 - 1)), u64 (h / 65536), .bool true]⟩) H1) :
    Call1 Tryz.prog con 116 [.agg ⟨[u64 sl.cam, u64 sl.first, i64 sl.count, u64 sl.most]⟩, u64 h] H K := by
  refine call_of (hc _ _ _ rfl) ?_
  rw [rWhere_W]
  refine na fun p1 H1 h1 => ?_
  repeat (refine gO ?_; intros)
  have hc256 := cnt_le sl.count
  by_cases hbig : (256 : Int) < sl.count
  · refine Cd.t (ltZ_z.2 hbig) ?_
    refine rUnhandle_ok hc hh (fun hf => ?_) (fun htr => ?_)
    · repeat (refine gO ?_; intros)
      exact kf (by unfold hThere; rw [hf]; rfl) _ (h1.ent ee)
    · repeat (refine gO ?_; intros)
      by_cases hlt : 256 ≤ h % 65536 - 1
      · refine Cd.t (leZ_t hlt) ?_
        repeat (refine gO ?_; intros)
        exact kf (by unfold hThere; rw [cnt_hi hbig, decide_eq_false (by omega), Bool.and_false]) _ (h1.ent ee)
      · refine Cd.f (leZ_f (show h % 65536 - 1 < 256 by omega)) ?_
        repeat (refine gO ?_; intros)
        refine Must.mk (cv_small (show h % 65536 - 1 < _ by omega)) ?_
        repeat (refine gO ?_; intros)
        rw [wrapN_small (show h % 65536 - 1 < _ by omega)]
        exact kt (by unfold hThere; rw [cnt_hi hbig, htr, decide_eq_true (by omega)]; rfl) (by omega) _ (h1.ent ee)
  · refine Cd.f (ltZ_zf hbig) ?_
    have hcl := cnt_lo hbig (h % 65536 - 1)
    refine rUnhandle_ok hc hh (fun hf => ?_) (fun htr => ?_)
    · repeat (refine gO ?_; intros)
      exact kf (by unfold hThere; rw [hf]; rfl) _ (h1.ent ee)
    · repeat (refine gO ?_; intros)
      by_cases hlt : cnt sl.count ≤ h % 65536 - 1
      · refine Cd.t (leZ_zt (hcl.1 hlt)) ?_
        repeat (refine gO ?_; intros)
        exact kf (by unfold hThere; rw [decide_eq_false (by omega), Bool.and_false]) _ (h1.ent ee)
      · refine Cd.f (leZ_zf fun q => hlt (hcl.2 q)) ?_
        repeat (refine gO ?_; intros)
        refine Must.mk (cv_small (show h % 65536 - 1 < _ by omega)) ?_
        repeat (refine gO ?_; intros)
        rw [wrapN_small (show h % 65536 - 1 < _ by omega)]
        exact kt (by unfold hThere; rw [htr, decide_eq_true (by omega)]; rfl) (by omega) _ (h1.ent ee)
def AskS.step (s : AskS) (M : Mem) (th : Int) : AskS × Mem := bif s.dn then (s, M) else s.look M th
theorem hOpenStep_ok (hc : Con con lives) (s : AskS) {ex : List Value} {L R1 R2 R3 : List HP} {H : CH} {p q m n : Nat} {th : Int} {M : Mem} {K : KP} (hs : Sat L H) (hm : Pull L (MemP m M) R1) (hv : Pull R1 (ViewAt q m th n) R2) (hp : Pull R2 (Own p (askC s ex)) R3)
    (hn : n < 1000000000) (ht : M.tr.length < 1000000000) (hb : M.Bd) (hh : s.h < 18446744073709551616)
    (k : ∀ n' H1, n' ≤ n + 1 → Sat (Own p (askC (s.step M th).1 ex) :: MemP m (s.step M th).2 :: ViewAt q m th n' :: R3) H1 → K (.bool true) H1) :
    Call1 Tryz.prog con 26 [ptr p 0, ptr q 0] H K := by
  refine call_of (hc _ _ _ rfl) ?_
  rw [hOpenStep_W]
  have hs0 := hs.takes (.cons hm (.cons hv (.cons hp .nil)))
  simp only [List.cons_append, List.nil_append] at hs0
  clear hs hm hv hp
  obtain ⟨sl, h, dn, kk, g, t, hd⟩ := s
  cases dn with
  | true =>
    repeat (refine gO ?_; intros)
    exact k n H (Nat.le_succ _) (hs0.ent ee)
  | false =>
    repeat (refine gO ?_; intros)
    refine hLook_ok hc ⟨sl, h, false, kk, g, t, hd⟩ hs0 pp pp pp hn ht hb hh fun n' H1 hn' h1 => ?_
    exact k n' H1 hn' (h1.ent ee)
theorem hCloseStep_ok (hc : Con con lives) (s : AskS) {ex : List Value} {L R1 R2 R3 : List HP} {H : CH} {p q m n : Nat} {th : Int} {M : Mem} {K : KP} (hs : Sat L H) (hm : Pull L (MemP m M) R1) (hv : Pull R1 (ViewAt q m th n) R2) (hp : Pull R2 (Own p (askC s ex)) R3)
    (hn : n < 1000000000) (ht : M.tr.length < 1000000000) (hb : M.Bd) (hh : s.h < 18446744073709551616)
    (k : ∀ n' H1, n' ≤ n + 1 → Sat (Own p (askC (s.step M th).1 ex) :: MemP m (s.step M th).2 :: ViewAt q m th n' :: R3) H1 → K (.bool true) H1) :
    Call1 Tryz.prog con 68 [ptr p 0, ptr q 0] H K := by
  refine call_of (hc _ _ _ rfl) ?_
  rw [hCloseStep_W]
  have hs0 := hs.takes (.cons hm (.cons hv (.cons hp .nil)))
  simp only [List.cons_append, List.nil_append] at hs0
  clear hs hm hv hp
  obtain ⟨sl, h, dn, kk, g, t, hd⟩ := s
  cases dn with
  | true =>
    repeat (refine gO ?_; intros)
    exact k n H (Nat.le_succ _) (hs0.ent ee)
  | false =>
    repeat (refine gO ?_; intros)
    refine hLook_ok hc ⟨sl, h, false, kk, g, t, hd⟩ hs0 pp pp pp hn ht hb hh fun n' H1 hn' h1 => ?_
    exact k n' H1 hn' (h1.ent ee)
end Go.Proofs.YtocphcgcpjcfjaaGreat

set_option linter.unusedVariables false
set_option linter.unusedSimpArgs false
namespace Go.Proofs.YtocphcgcpjcfjaaGreat
open Go Go.CM
attribute [local irreducible] AsBool AsWant AsNat AsInt AsCnt AsPtr AsSlc AsLen AsStr AsAgg AsTup AsFn AsIfc Nth Sc NotNil IsNil Must Cd codeW funW Sat SatL wrapN subM mkRow ltZ leZ ltN leN
variable {con : CallT}
theorem rOpenStep_ok (hc : Con con lives) (sl : SlotsS) {h : Nat} {c : Nat → Value} {rest : List Value} {L R1 R2 : List HP} {H : CH} {p m : Nat} {th : Int} {M : Mem} {K : KP} (hs : Sat L H) (hm : Pull L (RefP m M) R1) (hp : Pull R1 (Own p ([c 0, c 1, c 2, c 3, c 4, c 5, c 6, c 7, iN 0, u64 sl.cam, u64 sl.first, i64 sl.count, u64 sl.most, u64 h, u64 0, iN 0] ++ rest)) R2)
    (ht : M.tr.length < 1000000000) (hb : M.Bd) (hh : h < 18446744073709551616)
    (k : ∀ H1, Sat (Own p ([c 0, c 1, c 2, c 3, c 4, c 5, c 6, c 7, iN 1, u64 sl.cam, u64 sl.first, i64 sl.count, u64 sl.most, u64 h, u64 (bif hHolds sl h M then stampW (hWord sl h M) else 0), iN (bif hHolds sl h M then 0 else 33)] ++ rest) :: RefP m (bif hThere sl h then M.load th (addM sl.first (h % 65536 - 1)) else M) :: R2) H1 → K (.bool true) H1) :
    Call1 Tryz.prog con 93 [ptr p 8, ptr m 0, i64 th] H K := by
  refine call_of (hc _ _ _ rfl) ?_
  rw [rOpenStep_W]
  have hs0 := hs.takes (.cons hm (.cons hp .nil))
  simp only [List.cons_append, List.nil_append] at hs0
  clear hs hm hp
  repeat (refine gO ?_; intros)
  rename_i H4 h4
  refine rWhere_ok hc sl h4 hh (fun hth H5 h5 => ?_) (fun hth hlt H5 h5 => ?_)
  · have hno : hHolds sl h M = false := by unfold hHolds; rw [hth]; rfl
    simp only [hth, hno, cond_false, Bool.false_and] at k
    repeat (refine gO ?_; intros)
    exact k _ (h5.ent ee)
  · repeat (refine gO ?_; intros)
    refine refLoad_ok (a := addM sl.first (h % 65536 - 1)) hc h5 pp ht fun H32 h32 => ?_
    have hbp := hb.peek (addM sl.first (h % 65536 - 1))
    have hHo : hHolds sl h M = (eqN (kindW (M.peek (addM sl.first (h % 65536 - 1)))) 3 && eqN (genW (M.peek (addM sl.first (h % 65536 - 1)))) (h / 65536)) := by unfold hHolds hWord; rw [hth]; rfl
    have hW : hWord sl h M = M.peek (addM sl.first (h % 65536 - 1)) := rfl
    rw [hHo, hW] at k
    simp only [hth, cond_true] at k
    generalize M.peek (addM sl.first (h % 65536 - 1)) = x at *
    repeat (refine gO ?_; intros)
    refine rUnpack_ok hc h32 hbp fun H36 h36 => ?_
    repeat (refine gO ?_; intros)
    refine stN (by assumption) (Nat.le_of_ble_eq_true rfl) rfl fun H43 h43 => ?_
    repeat (refine gO ?_; intros)
    cases e1 : eqN (kindW x) 3 with
    | false =>
      rw [e1] at k
      refine Cd.f rfl ?_
      repeat (refine gO ?_; intros)
      exact k _ (h43.ent ee)
    | true =>
      rw [e1] at k
      refine Cd.t rfl ?_
      repeat (refine gO ?_; intros)
      cases e2 : eqN (genW x) (h / 65536) with
      | false =>
        rw [e2] at k
        refine Cd.f rfl ?_
        repeat (refine gO ?_; intros)
        exact k _ (h43.ent ee)
      | true =>
        rw [e2] at k
        refine Cd.t rfl ?_
        repeat (refine gO ?_; intros)
        exact k _ (Sat.ent (by assumption) ee)
theorem rCloseStep_ok (hc : Con con lives) (sl : SlotsS) {h st : Nat} {c : Nat → Value} {rest : List Value} {L R1 R2 : List HP} {H : CH} {p m : Nat} {th : Int} {M : Mem} {K : KP} (hs : Sat L H) (hm : Pull L (RefP m M) R1) (hp : Pull R1 (Own p ([c 0, c 1, c 2, c 3, c 4, c 5, c 6, c 7, c 8, c 9, c 10, c 11, c 12, c 13, c 14, c 15, iN 0, u64 sl.cam, u64 sl.first, i64 sl.count, u64 sl.most, u64 h, u64 st, iN 0] ++ rest)) R2)
    (ht : M.tr.length < 1000000000) (hb : M.Bd) (hh : h < 18446744073709551616)
    (k : ∀ H1, Sat (Own p ([c 0, c 1, c 2, c 3, c 4, c 5, c 6, c 7, c 8, c 9, c 10, c 11, c 12, c 13, c 14, c 15, iN 1, u64 sl.cam, u64 sl.first, i64 sl.count, u64 sl.most, u64 h, u64 st, iN (bif hHolds sl h M && eqN (stampW (hWord sl h M)) st then 0 else 34)] ++ rest) :: RefP m (bif hThere sl h then M.load th (addM sl.first (h % 65536 - 1)) else M) :: R2) H1 → K (.bool true) H1) :
    Call1 Tryz.prog con 94 [ptr p 16, ptr m 0, i64 th] H K := by
  refine call_of (hc _ _ _ rfl) ?_
  rw [rCloseStep_W]
  have hs0 := hs.takes (.cons hm (.cons hp .nil))
  simp only [List.cons_append, List.nil_append] at hs0
  clear hs hm hp
  repeat (refine gO ?_; intros)
  rename_i H4 h4
  refine rWhere_ok hc sl h4 hh (fun hth H5 h5 => ?_) (fun hth hlt H5 h5 => ?_)
  · have hno : hHolds sl h M = false := by unfold hHolds; rw [hth]; rfl
    simp only [hth, hno, cond_false, Bool.false_and] at k
    repeat (refine gO ?_; intros)
    exact k _ (h5.ent ee)
  · repeat (refine gO ?_; intros)
    refine refLoad_ok (a := addM sl.first (h % 65536 - 1)) hc h5 pp ht fun H32 h32 => ?_
    have hbp := hb.peek (addM sl.first (h % 65536 - 1))
    have hHo : hHolds sl h M = (eqN (kindW (M.peek (addM sl.first (h % 65536 - 1)))) 3 && eqN (genW (M.peek (addM sl.first (h % 65536 - 1)))) (h / 65536)) := by unfold hHolds hWord; rw [hth]; rfl
    have hW : hWord sl h M = M.peek (addM sl.first (h % 65536 - 1)) := rfl
    rw [hHo, hW] at k
    simp only [hth, cond_true] at k
    generalize M.peek (addM sl.first (h % 65536 - 1)) = x at *
    repeat (refine gO ?_; intros)
    refine rUnpack_ok hc h32 hbp fun H36 h36 => ?_
    repeat (refine gO ?_; intros)
    refine stN (by assumption) (Nat.le_of_ble_eq_true rfl) rfl fun H43 h43 => ?_
    repeat (refine gO ?_; intros)
    cases e1 : eqN (kindW x) 3 with
    | false =>
      rw [e1] at k
      refine Cd.f rfl ?_
      repeat (refine gO ?_; intros)
      exact k _ (h43.ent ee)
    | true =>
      rw [e1] at k
      refine Cd.t rfl ?_
      repeat (refine gO ?_; intros)
      cases e2 : eqN (genW x) (h / 65536) with
      | false =>
        rw [e2] at k
        refine Cd.f rfl ?_
        repeat (refine gO ?_; intros)
        exact k _ (h43.ent ee)
      | true =>
        rw [e2] at k
        refine Cd.t rfl ?_
        repeat (refine gO ?_; intros)
        cases e3 : eqN (stampW x) st with
        | false =>
          rw [e3] at k
          refine Cd.f rfl ?_
          repeat (refine gO ?_; intros)
          exact k _ (h43.ent ee)
        | true =>
          rw [e3] at k
          refine Cd.t rfl ?_
          repeat (refine gO ?_; intros)
          exact k _ (Sat.ent (by assumption) ee)
end Go.Proofs.YtocphcgcpjcfjaaGreat

set_option linter.unusedVariables false
set_option linter.unusedSimpArgs false
namespace Go.Proofs.YtocphcgcpjcfjaaGreat
open Go Go.CM
/-! ### the handles that hold, in plain Lean -/
def hnd (i g : Nat) : Nat := i + 1 + g * 65536
def hdsN (sl : SlotsS) (M : Mem) : Nat → List Nat
  | 0 => []
  | n + 1 => if kindW (M.peek (addM sl.first n)) = 3 then hdsN sl M n ++ [hnd n (genW (M.peek (addM sl.first n)))] else hdsN sl M n
theorem hdsN_yes {sl : SlotsS} {M : Mem} {n : Nat} (h : kindW (M.peek (addM sl.first n)) = 3) : hdsN sl M (n + 1) = hdsN sl M n ++ [hnd n (genW (M.peek (addM sl.first n)))] := if_pos h
theorem hdsN_no {sl : SlotsS} {M : Mem} {n : Nat} (h : ¬ kindW (M.peek (addM sl.first n)) = 3) : hdsN sl M (n + 1) = hdsN sl M n := if_neg h
theorem hdsN_mem {sl : SlotsS} {M : Mem} {x : Nat} : ∀ {n : Nat}, x ∈ hdsN sl M n ↔ ∃ i, i < n ∧ kindW (M.peek (addM sl.first i)) = 3 ∧ x = hnd i (genW (M.peek (addM sl.first i)))
  | 0 => ⟨fun h => absurd h (by simp [hdsN]), fun ⟨i, h, _⟩ => absurd h (Nat.not_lt_zero i)⟩
  | n + 1 => by
    by_cases h : kindW (M.peek (addM sl.first n)) = 3
    · rw [hdsN_yes h, List.mem_append, hdsN_mem, List.mem_singleton]
      constructor
      · rintro (⟨i, h1, h2⟩ | rfl)
        · exact ⟨i, by omega, h2⟩
        · exact ⟨n, Nat.lt_succ_self n, h, rfl⟩
      · rintro ⟨i, h1, h2, h3⟩
        by_cases e : i = n
        · subst e; exact .inr h3
        · exact .inl ⟨i, by omega, h2, h3⟩
    · rw [hdsN_no h, hdsN_mem]
      constructor
      · rintro ⟨i, h1, h2⟩; exact ⟨i, by omega, h2⟩
      · rintro ⟨i, h1, h2, h3⟩
        by_cases e : i = n
        · subst e; exact absurd h2 h
        · exact ⟨i, by omega, h2, h3⟩
theorem hnd_inj {i j g g' : Nat} (hi : i < 256) (hj : j < 256) (h : hnd i g = hnd j g') : i = j ∧ g = g' := by unfold hnd at h; omega
theorem hnd_lt {i g : Nat} (hi : i < 256) (hg : g < 1048576) : hnd i g < 18446744073709551616 := by unfold hnd; omega
theorem hdsN_lt {sl : SlotsS} {M : Mem} {n x : Nat} (hn : n ≤ 256) (h : x ∈ hdsN sl M n) : x < 18446744073709551616 := by
  obtain ⟨i, h1, _, rfl⟩ := hdsN_mem.1 h
  exact hnd_lt (by omega) (genW_lt _)
theorem hdsN_len (sl : SlotsS) (M : Mem) : ∀ n, (hdsN sl M n).length ≤ n
  | 0 => Nat.le_refl _
  | n + 1 => by
    have ih := hdsN_len sl M n
    by_cases h : kindW (M.peek (addM sl.first n)) = 3
    · rw [hdsN_yes h, List.length_append]; simp; omega
    · rw [hdsN_no h]; omega
theorem hdsN_nodup (sl : SlotsS) (M : Mem) : ∀ n, n ≤ 256 → (hdsN sl M n).Nodup
  | 0, _ => List.nodup_nil
  | n + 1, hn => by
    have ih := hdsN_nodup sl M n (by omega)
    by_cases h : kindW (M.peek (addM sl.first n)) = 3
    · rw [hdsN_yes h]
      refine List.nodup_append.2 ⟨ih, by simp, fun a ha b hb e => ?_⟩
      rw [List.mem_singleton] at hb
      obtain ⟨i, h1, _, h3⟩ := hdsN_mem.1 ha
      have := (hnd_inj (by omega) (by omega) (h3.symm.trans (e.trans hb))).1
      omega
    · rw [hdsN_no h]; exact ih
/-- In order. -/
def srt (l : List Nat) : List Nat := rise l 18446744073709551616
def liveL (sl : SlotsS) (M : Mem) : List Nat := srt (hdsN sl M (cnt sl.count))
theorem srt_mem {l : List Nat} (hl : ∀ x ∈ l, x < 18446744073709551616) {x : Nat} : x ∈ srt l ↔ x ∈ l := by
  unfold srt
  rw [rise_mem]
  exact ⟨fun h => h.1, fun h => ⟨h, hl x h⟩⟩
theorem liveL_mem {sl : SlotsS} {M : Mem} {x : Nat} : x ∈ liveL sl M ↔ ∃ i, i < cnt sl.count ∧ kindW (M.peek (addM sl.first i)) = 3 ∧ x = hnd i (genW (M.peek (addM sl.first i))) := by
  unfold liveL
  rw [srt_mem fun x h => hdsN_lt (cnt_le _) h]
  exact hdsN_mem
theorem liveL_inc (sl : SlotsS) (M : Mem) : IncL (liveL sl M) := rise_inc _ _
theorem srt_len (l : List Nat) : (srt l).length ≤ l.length := rise_le _ l
theorem liveL_len (sl : SlotsS) (M : Mem) : (liveL sl M).length ≤ 256 := by
  have h1 := srt_len (hdsN sl M (cnt sl.count))
  have h2 := hdsN_len sl M (cnt sl.count)
  have h3 := cnt_le sl.count
  show (srt (hdsN sl M (cnt sl.count))).length ≤ 256
  omega
theorem srt_perm {l : List Nat} {n : Nat} {d : Array Nat} (hl : ∀ x ∈ l, x < 18446744073709551616) (hn : l.Nodup) (hp : l.Perm d.toList) (hs : Sort.SortedIn ltU 0 n d) (hd : d.size = n) : d.toList = srt l := by
  refine inc_unique ?_ (rise_inc _ _) fun x => ?_
  · have nd : d.toList.Nodup := hp.nodup_iff.1 hn
    refine List.pairwise_iff_getElem.2 fun i j hi hj hij => ?_
    have h1 := hs i j (Nat.zero_le _) hij (by rw [Array.length_toList] at hj; omega)
    rw [Array.length_toList] at hi hj
    rw [Array.getElem_toList, Array.getElem_toList, ← getElem!_pos d i (by omega), ← getElem!_pos d j (by omega)]
    have h2 := ltN_n h1
    have h3 : d[i]! ≠ d[j]! := fun e => by
      rw [getElem!_pos d i (by omega), getElem!_pos d j (by omega), ← Array.getElem_toList, ← Array.getElem_toList] at e
      exact absurd ((List.getElem_inj nd).1 e) (by omega)
    omega
  · rw [← hp.mem_iff]
    exact (srt_mem hl).symm
theorem ins_at {s : List Nat} {x k : Nat} (hs : IncL s) (hx : x ∉ s) (h1 : ∀ y ∈ s.take k, y < x) (h2 : ∀ y, s[k]? = some y → x ≤ y) : IncL (s.take k ++ x :: s.drop k) := by
  have hd : IncL (s.drop k) := hs.sublist (List.drop_sublist k s)
  have hgt : ∀ y ∈ s.drop k, x < y := by
    cases e : s.drop k with
    | nil => intro y hy; cases hy
    | cons z r =>
      have ez : s[k]? = some z := by
        have := List.getElem?_drop (xs := s) (i := k) (j := 0)
        rw [e] at this
        simpa using this.symm
      have hz := h2 z ez
      have hne : x ≠ z := fun q => hx (q ▸ List.mem_of_getElem? ez)
      rw [e] at hd
      intro y hy
      rcases List.mem_cons.1 hy with rfl | hy
      · omega
      · have := (List.pairwise_cons.1 hd).1 y hy; omega
  refine List.pairwise_append.2 ⟨hs.sublist (List.take_sublist k s), List.pairwise_cons.2 ⟨hgt, hd⟩, fun a ha b hb => ?_⟩
  have := h1 a ha
  rcases List.mem_cons.1 hb with rfl | hb
  · exact this
  · have := hgt b hb; omega
theorem srt_snoc {l : List Nat} {x k : Nat} (hl : ∀ y ∈ l, y < 18446744073709551616) (hx0 : x < 18446744073709551616) (hx : x ∉ l) (h1 : ∀ y ∈ (srt l).take k, y < x) (h2 : ∀ y, (srt l)[k]? = some y → x ≤ y) : (srt l).take k ++ x :: (srt l).drop k = srt (l ++ [x]) := by
  have hl2 : ∀ y ∈ l ++ [x], y < 18446744073709551616 := fun y hy => by
    rcases List.mem_append.1 hy with h | h
    · exact hl y h
    · rw [List.mem_singleton.1 h]; exact hx0
  refine inc_unique (ins_at (rise_inc _ _) (fun h => hx ((srt_mem hl).1 h)) h1 h2) (rise_inc _ _) fun y => ?_
  refine Iff.trans ?_ (srt_mem hl2).symm
  rw [List.mem_append, List.mem_append, List.mem_cons, List.mem_singleton, ← srt_mem hl]
  conv => rhs; rw [← List.take_append_drop k (srt l), List.mem_append]
  constructor
  · rintro (h | h | h)
    · exact .inl (.inl h)
    · exact .inr h
    · exact .inl (.inr h)
  · rintro ((h | h) | h)
    · exact .inl h
    · exact .inr (.inr h)
    · exact .inr (.inl h)
end Go.Proofs.YtocphcgcpjcfjaaGreat

set_option linter.unusedVariables false
set_option linter.unusedSimpArgs false
namespace Go.Proofs.YtocphcgcpjcfjaaGreat
open Go Go.CM
attribute [local irreducible] AsBool AsWant AsNat AsInt AsCnt AsPtr AsSlc AsLen AsStr AsAgg AsTup AsFn AsIfc Nth Sc NotNil IsNil Must Cd codeW funW Sat SatL wrapN subM mkRow ltZ leZ ltN leN
theorem app_zero {P : Program} {H : CH} {st xt e s by_ b n xc : Nat} {q : Option Addr} {K : KP} (ht : elemOk P st e s by_ = true) (hxt : ∃ e', P.underlying xt = some (.slice e'))
    (hx : srcCells H s 0 (.slice q 0 xc) = some []) (k : K (slc b 0 n n) H) : App P st xt H (slc b 0 n n) (.slice q 0 xc) K := by
  obtain ⟨hu, ⟨i, z, hi, hz, h1, h2, h3⟩, hs0⟩ := elemOk.out ht
  obtain ⟨e', hu'⟩ := hxt
  obtain ⟨s, rfl⟩ : ∃ m, s = m + 1 := ⟨s - 1, by omega⟩
  have hbeq : Nat.beq ([] : List Value).length (0 * (s + 1)) = true := by rw [Nat.zero_mul]; rfl
  have hble : Nat.ble (n + 0) n = true := Nat.ble_eq_true_of_le (Nat.le_refl n)
  refine App.of (v := slc b 0 n n) (H1 := H) ?_ k
  simp only [cappend, hu, hu', hi, hz, h1, hx, hbeq, hble, cond_true, List.getElem?_toArray, List.getElem?_cons_zero, List.getElem?_cons_succ]
theorem slcNil {P : Program} {H : CH} {t e s by_ : Nat} {k' : IntKind} {K : Value → Prop} (ht : elemOk P t e (s + 1) by_ = true) (k : K snil) : Slc P H t snil (some (.int k' (Int.ofNat 0))) none none K := by
  obtain ⟨hu, ⟨i, z, hi, hz, g1, g2, g3⟩, hs0⟩ := elemOk.out ht
  have hsz : szOf P e = some (s + 1) := by unfold szOf; rw [hi]; simp [g1]
  have hbd : cbounds 0 0 (some (.int k' (Int.ofNat 0))) none none = some (0, 0, 0) := rfl
  refine ⟨?_⟩
  show match cslice P H t (.slice none 0 0) _ _ _ with | some v => K v | none => False
  unfold cslice
  simp only [hu, hbd, hsz]
  exact k
variable {con : CallT}
/-- Two lists of the same numbers. -/
theorem sameU_ok (hc : Con con lives) {L : List HP} {H : CH} {v w : Value} {l : List Nat} {K : KP} (hs : Sat L H) (hv : Has L (Nums v l)) (hw : Has L (Nums w l)) (hl : l.length ≤ 1000000000) (k : K (.bool true) H) :
    Call1 Tryz.prog con 28 [v, w] H K := by
  refine call_of (hc _ _ _ rfl) ?_
  rw [sameU_W]
  obtain ⟨pv, cv, rfl⟩ := (hs.has hv).len
  obtain ⟨pw, cw, rfl⟩ := (hs.has hw).len
  repeat (refine gO ?_; intros)
  refine Cd.f (by rw [eqZ_self]; rfl) ?_
  refine LoopC.ind (n := 100) (by kernel_rfl) (fun (i : Nat) σ H1 => σ 0 = .slice pv l.length cv ∧ σ 1 = .slice pw l.length cw ∧ σ 5 = iN i ∧ i ≤ l.length ∧ H1 = H) (fun i => l.length - i) (fun i σ H1 hI => ?_) 0 _ _ ⟨rfl, rfl, rfl, Nat.zero_le _, rfl⟩
  obtain ⟨e0, e1, e5, hi, rfl⟩ := hI
  rw [sameUL_W]
  simp only [e0, e1, e5]
  repeat (refine gO ?_; intros)
  rcases Nat.lt_or_ge i l.length with hlt | hge
  · refine Cd.t (ltZ_t (by omega)) ?_
    rcases (hs.has hv).shape with ⟨h3, h4⟩ | ⟨b, o, c', h3⟩
    · rw [h4] at hlt; simp at hlt
    rcases (hs.has hw).shape with ⟨h5, h6⟩ | ⟨b', o', c'', h5⟩
    · rw [h6] at hlt; simp at hlt
    cases h3
    cases h5
    repeat (refine gO ?_; intros)
    refine Must.mk (ltN_t hlt) ?_
    refine ldSrc hs (hv.src rfl) (by rw [show Nat.mul i 1 = i from Nat.mul_one i]; rfl) (map_get _ hlt) ?_
    repeat (refine gO ?_; intros)
    refine Must.mk (ltN_t hlt) ?_
    refine ldSrc hs (hw.src rfl) (by rw [show Nat.mul i 1 = i from Nat.mul_one i]; rfl) (map_get _ hlt) ?_
    repeat (refine gO ?_; intros)
    refine Cd.f (by rw [eqN_self]; rfl) ?_
    repeat (refine gO ?_; intros)
    refine inR_nat (n := i + 1) (by omega) ?_
    show ∃ y, _ ∧ _
    exact ⟨i + 1, by omega, e0, e1, rfl, hlt, rfl⟩
  · refine Cd.f (ltZ_f (by omega)) ?_
    show Cd _ _ _
    refine Cd.t (eqN_self 0) ?_
    exact k
theorem rowsU_len (l : List Nat) : (rowsU l).length = l.length := by simp
theorem rowsU_one (l : List Nat) : ∀ r ∈ rowsU l, r.length = 1 := fun r hr => by
  obtain ⟨x, _, rfl⟩ := List.mem_map.1 hr
  rfl
theorem rowsU_app (a b : List Nat) : rowsU (a ++ b) = rowsU a ++ rowsU b := List.map_append
/-- The rest of one list, behind another. -/
theorem app_rest {L : List HP} {H : CH} {v w : Value} {a s : List Nat} {k : Nat} {K : Value → KP} (hs : Sat (Vec w tU 1 (rowsU a) :: Vec v tU 1 (rowsU s) :: L) H) (ha : a ≠ []) (hk : k ≤ s.length) (hl : a.length + s.length ≤ 1000000)
    (kk : ∀ v16 v' H1, Sat (Vec v' tU 1 (rowsU (a ++ s.drop k)) :: L) H1 → K v16 v' H1) : Slc Tryz.prog H tUS v (some (iN k)) none none fun v16 => App Tryz.prog tUS tUS H w v16 (K v16) := by
  have hs2 : Sat (Vec v tU 1 (rowsU s) :: Vec w tU 1 (rowsU a) :: L) H := hs.ent ee
  obtain ⟨y, ey⟩ : ∃ y, a[0]? = some y := ⟨_, List.getElem?_eq_getElem (List.length_pos_iff.2 ha)⟩
  obtain ⟨bw, ew, _⟩ := (hs.has Has.vec).slot (i := 0) (row := [u64 y]) (by rw [List.getElem?_map, ey]; rfl)
  rw [rowsU_len] at ew
  cases s with
  | nil =>
    obtain rfl := vec_nil (hs2.has Has.vec)
    obtain rfl : k = 0 := by simpa using hk
    refine slcNil el_u64 ?_
    rw [ew]
    refine app_zero el_u64 sl_u64 rfl ?_
    rw [← ew]
    refine kk _ w H ?_
    rw [List.drop_nil, List.append_nil]
    exact hs.ent ee
  | cons x s' =>
    obtain ⟨b, ev, _⟩ := (hs2.has Has.vec).slot (i := 0) (row := [u64 x]) rfl
    rw [rowsU_len] at ev
    subst ev
    generalize es : x :: s' = s at *
    have hs3 : Sat (Row b tU 1 true (s.map u64) :: Vec w tU 1 (rowsU a) :: L) H := hs2.imp fun g q => by
      rcases q.2 with ⟨h, _⟩ | ⟨b', _, e, h⟩
      · cases h
      · injection e with e1 _ _
        injection e1 with e4
        injection e4 with e5 _ _
        subst e5
        rw [rowsU_flat] at h
        exact h
    refine slcLo hs3 el_u64 (n := s.length) (by simp) hk ?_
    rw [show k * (0 + 1) = k from Nat.mul_one k]
    have hsrc : Src (Row b tU 1 true (s.map u64) :: Vec w tU 1 (rowsU a) :: L) b k ((rowsU (s.drop k)).flatten) := Src.cell (n := s.length - k) (by
      rw [rowsU_flat, ← List.map_drop, List.take_of_length_le (by simp)])
    by_cases e : k = s.length
    · subst e
      rw [Nat.sub_self, ew]
      rw [List.drop_length] at hsrc
      refine app_zero el_u64 sl_u64 (src_cells hs3 (new := []) hsrc rfl) ?_
      rw [← ew]
      refine kk _ w H ?_
      rw [List.drop_length, List.append_nil]
      exact hs3.ent ee
    · refine app_vec (new := rowsU (s.drop k)) hs3 pp el_u64 (by omega) sl_u64 hsrc (by simp) (rowsU_one _) (by simp; omega) (by rw [rowsU_flat]; exact isCell_u64 _) fun v' H1 h1 => ?_
      rw [← rowsU_app] at h1
      exact kk _ v' H1 (h1.ent ee)
theorem sort_vec (hc : Con con lives) {L : List HP} {H : CH} {v : Value} {l : List Nat} {K : KP} (hs : Sat (Vec v tU 1 (rowsU l) :: L) H) (hl : l.length ≤ 256) (hb : ∀ x ∈ l, x < 18446744073709551616) (hn : l.Nodup)
    (k : ∀ H1, Sat (Vec v tU 1 (rowsU (srt l)) :: L) H1 → K unit H1) : Call1 Tryz.prog con 79 [v] H K := by
  cases l with
  | nil =>
    obtain rfl := vec_nil (hs.has Has.vec)
    exact sortU_nil hc hs fun H1 h1 => k H1 h1
  | cons x l' =>
    obtain ⟨b, ev, _⟩ := (hs.has Has.vec).slot (i := 0) (row := [u64 x]) rfl
    rw [rowsU_len] at ev
    subst ev
    generalize es : x :: l' = l at *
    have hne : l ≠ [] := by rw [← es]; simp
    generalize hd : l.toArray = d
    have hdl : d.toList = l := by rw [← hd]
    have hdn : d.size = l.length := by rw [← Array.length_toList, hdl]
    have h5 : Sat (RowA b tU 1 d :: L) H := hs.imp fun g a => by
      rcases a.2 with ⟨h, _⟩ | ⟨b', _, e, h⟩
      · cases h
      · injection e with e1 _ _
        injection e1 with e4
        injection e4 with e5 _ _
        subst e5
        rw [rowsU_flat, ← hdl] at h
        exact h
    refine sortU_ok hc h5 pp hdn hl fun d' H1 p1 s1 h1 => ?_
    have hdn' : d'.size = l.length := by rw [p1.1]; exact hdn
    have hp : l.Perm d'.toList := by
      have := p1.2.2
      rw [show d'.extract 0 l.length = d' from by rw [← hdn']; simp, show d.extract 0 l.length = d from by rw [← hdn]; simp, hdl] at this
      exact this.symm
    have e := srt_perm hb hn hp s1 hdn'
    have hln : (srt l).length = l.length := by rw [← e, Array.length_toList, hdn']
    refine k H1 (h1.imp fun g a => ⟨rowsU_one _, .inr ⟨b, fun q => hne ?_, by rw [rowsU_len, hln], ?_⟩⟩)
    · have := congrArg List.length q
      rw [rowsU_len, hln] at this
      exact List.eq_nil_of_length_eq_zero this
    · rw [rowsU_flat, ← e]; exact a
theorem hLive_ok (hc : Con con lives) (sl : SlotsS) {L R : List HP} {H : CH} {m : Nat} {M : Mem} {K : KP} (hs : Sat L H) (hm : Pull L (MemP m M) R) (hb : M.Bd)
    (k : ∀ w H1, Sat (Vec w tU 1 (rowsU (liveL sl M)) :: L) H1 → K w H1) : Call1 Tryz.prog con 24 [ptr m 0, .agg ⟨[u64 sl.cam, u64 sl.first, i64 sl.count, u64 sl.most]⟩] H K := by
  refine call_of (hc _ _ _ rfl) ?_
  rw [hLive_W]
  repeat (refine gO ?_; intros)
  rename_i p H2 h2
  have hcl := cnt_le sl.count
  refine annSlots_ok hc sl h2 (Pull.there hm) hb fun v7 H8 h8 => ?_
  obtain ⟨p7, e7⟩ := (h8.has Has.vec).shape
  rw [slotRows_len] at e7
  repeat (refine gO ?_; intros)
  refine AsLen.eq e7 ?_
  refine LoopC.indP (n := 200) (id := 0) (fun σ1 H1 => ∃ w, σ1 5 = w ∧ Sat (Vec w tU 1 (rowsU (hdsN sl M (cnt sl.count))) :: L) H1) (by kernel_rfl)
    (fun (i : Nat) σ1 H1 => i ≤ cnt sl.count ∧ ∃ w, σ1 5 = w ∧ σ1 12 = v7 ∧ σ1 13 = iN (cnt sl.count) ∧ σ1 14 = iN i ∧ Sat (Vec w tU 1 (rowsU (hdsN sl M i)) :: Vec v7 157 3 (slotRows sl M (cnt sl.count)) :: L) H1)
    (fun i => cnt sl.count - i) (fun i σ1 H1 hI => ?_) (fun σ1 H1 hP => ?_) 0 _ _ ⟨Nat.zero_le _, snil, rfl, rfl, rfl, rfl, (h8.nilV (e := tU) (s := 1)).ent ee⟩
  · obtain ⟨hi, w, a5, a12, a13, a14, hs1⟩ := hI
    rw [hLiveL_W]
    simp only [a5, a13, a14]
    repeat (refine gO ?_; intros)
    by_cases h : i < cnt sl.count
    · refine Cd.t (ltZ_t h) ?_
      have hr : (slotRows sl M (cnt sl.count))[i]? = some (unpackL (M.peek (addM sl.first i))) := by
        unfold slotRows
        rw [List.getElem?_map, List.getElem?_range h]; rfl
      obtain ⟨b, ev, _⟩ := (hs1.has (Has.skip Has.vec)).slot hr
      rw [slotRows_len] at ev
      refine AsSlc.eq (a12.trans ev) ?_
      repeat (refine gO ?_; intros)
      refine Must.mk (ltN_t h) ?_
      refine ldVec hs1 (Has.skip Has.vec) ev hr (j := 0) (by show 0 + i * 3 + 0 = _; omega) (by omega) rfl ?_
      refine ldVec hs1 (Has.skip Has.vec) ev hr (j := 1) (by show 0 + i * 3 + 1 = _; omega) (by omega) rfl ?_
      refine ldVec hs1 (Has.skip Has.vec) ev hr (j := 2) (by show 0 + i * 3 + 2 = _; omega) (by omega) rfl ?_
      repeat (refine gO ?_; intros)
      refine stN (by assumption) (Nat.le_of_ble_eq_true rfl) rfl fun H3 h3 => ?_
      repeat (refine gO ?_; intros)
      by_cases hk : kindW (M.peek (addM sl.first i)) = 3
      · refine Cd.f (by rw [eqN_t hk]; rfl) ?_
        repeat (refine gO ?_; intros)
        refine wordHandle_ok hc (by omega) (genW_lt _) ?_
        repeat (refine gO ?_; intros)
        rename_i p25 H26 h26
        have hlen := hdsN_len sl M i
        refine app_vec (new := [[u64 (hnd i (genW (M.peek (addM sl.first i))))]]) h26 pp el_u64 (by omega) sl_u64 (Src.cell (n := 1) (by rfl)) rfl (by simp) (by simp; omega) rfl fun w' H28 h28 => ?_
        rw [show rowsU (hdsN sl M i) ++ [[u64 (hnd i (genW (M.peek (addM sl.first i))))]] = rowsU (hdsN sl M (i + 1)) from by rw [hdsN_yes hk, rowsU_app]; rfl] at h28
        repeat (refine gO ?_; intros)
        try rw [addInt]
        refine inR_nat (by omega) ?_
        repeat (refine gO ?_; intros)
        show ∃ y, _ ∧ _
        exact ⟨i + 1, by omega, h, w', rfl, a12, a13, rfl, h28.ent ee⟩
      · refine Cd.t (by rw [eqN_f hk]; rfl) ?_
        repeat (refine gO ?_; intros)
        try rw [addInt]
        refine inR_nat (by omega) ?_
        repeat (refine gO ?_; intros)
        rw [← hdsN_no hk] at h3
        show ∃ y, _ ∧ _
        exact ⟨i + 1, by omega, h, w, a5, a12, a13, rfl, h3.ent ee⟩
    · refine Cd.f (ltZ_f (by omega)) ?_
      show _ = _ ∧ _
      obtain rfl : i = cnt sl.count := by omega
      exact ⟨rfl, w, a5, hs1.ent ee⟩
  · obtain ⟨w, a5, hs1⟩ := hP
    show Cd _ _ _
    refine Cd.t rfl ?_
    rw [a5]
    have hlen := hdsN_len sl M (cnt sl.count)
    refine sort_vec hc hs1 (by omega) (fun x h => hdsN_lt hcl h) (hdsN_nodup sl M _ hcl) fun H2 h2 => ?_
    exact k w H2 h2
end Go.Proofs.YtocphcgcpjcfjaaGreat

set_option linter.unusedVariables false
set_option linter.unusedSimpArgs false
namespace Go.Proofs.YtocphcgcpjcfjaaGreat
open Go Go.CM
variable {con : CallT}
/-! ### law 14: calls of any kind, threads, picks -/
structure C14 where
  kind : Int
  h : Nat
  st : Nat
structure Q14 where
  c : C14
  s : P13
  op : AskS
  cl : AskS
  from_ : Nat
  to : Int
def Q14.fresh (sl : SlotsS) (c : C14) (i : Nat) : Q14 := ⟨c, P13.fresh sl c.kind (bh c.kind c.h []), ask0 sl c.h, ask0 sl c.h, i, Int.negSucc 0⟩
/-- The call after a step, the memory, and whether it is done. -/
noncomputable def Q14.step (q : Q14) (sl : SlotsS) (M : Mem) (th : Int) : Q14 × Mem × Bool :=
  bif eqZ q.c.kind (Int.ofNat 0) then ({ q with s := (q.s.step M th).1 }, (q.s.step M th).2, (q.s.step M th).1.fin)
  else bif eqZ q.c.kind (Int.ofNat 1) then ({ q with s := (q.s.step M th).1 }, (q.s.step M th).2, (q.s.step M th).1.fin)
  else bif eqZ q.c.kind (Int.ofNat 2) then ({ q with op := (q.op.look M th).1 }, (q.op.look M th).2, true)
  else bif eqZ q.c.kind (Int.ofNat 3) then ({ q with cl := (q.cl.look M th).1 }, (q.cl.look M th).2, true)
  else bif eqZ q.c.kind (Int.ofNat 4) then (q, M.store th (addM sl.first q.c.h) q.c.st, true)
  else (q, M, true)
/-- A call that is under way. -/
structure Q14.Go (q : Q14) (sl : SlotsS) : Prop where
  ok : q.s.Ok
  tl : q.s.Tl
  kd : q.s.kind = q.c.kind
  op : q.op = ask0 sl q.c.h
  cl : q.cl = ask0 sl q.c.h
  hh : q.c.h < 18446744073709551616
  hs : q.c.st < 18446744073709551616
def Q14.Sl (q : Q14) : Prop := eqZ q.c.kind (Int.ofNat 0) = true ∨ eqZ q.c.kind (Int.ofNat 1) = true
theorem go_fresh (sl : SlotsS) {c : C14} (h1 : c.h < 18446744073709551616) (h2 : c.st < 18446744073709551616) (i : Nat) : (Q14.fresh sl c i).Go sl := by
  obtain ⟨f1, f2, _, _⟩ := p13_fresh sl c.kind (bh_lt (kind := c.kind) (hd := []) h1 fun x hx => nomatch hx)
  exact ⟨f1, f2, rfl, rfl, rfl, h1, h2⟩
theorem look_nxt (s : AskS) (M : Mem) (th : Int) : Nxt M (s.look M th).2 := by
  unfold AskS.look
  cases hThere s.sl s.h with
  | true => exact .load M th _
  | false => exact .refl M
theorem q14_nxt {q : Q14} {sl : SlotsS} (h : q.Go sl) (M : Mem) (th : Int) : Nxt M (q.step sl M th).2.1 := by
  unfold Q14.step
  cases eqZ q.c.kind (Int.ofNat 0) with
  | true => exact p13_nxt q.s M th
  | false =>
    cases eqZ q.c.kind (Int.ofNat 1) with
    | true => exact p13_nxt q.s M th
    | false =>
      cases eqZ q.c.kind (Int.ofNat 2) with
      | true => exact look_nxt q.op M th
      | false =>
        cases eqZ q.c.kind (Int.ofNat 3) with
        | true => exact look_nxt q.cl M th
        | false =>
          cases eqZ q.c.kind (Int.ofNat 4) with
          | true => exact .store M th _ h.hs
          | false => exact .refl M
/-- Not done: a snapshot or a release that goes on. -/
theorem q14_go {q : Q14} {sl : SlotsS} (h : q.Go sl) (M : Mem) (th : Int) (hf : (q.step sl M th).2.2 = false) : (q.step sl M th).1.Go sl ∧ (q.step sl M th).1.Sl := by
  have key : (q.s.step M th).1.fin = false → Q14.Go { q with s := (q.s.step M th).1 } sl := fun hf => by
    obtain ⟨p1, p2, p3⟩ := p13_step q.s M th h.ok h.tl
    exact ⟨p1 hf, p2, (p13_kind q.s M th).trans h.kd, h.op, h.cl, h.hh, h.hs⟩
  unfold Q14.step at hf ⊢
  cases e0 : eqZ q.c.kind (Int.ofNat 0) with
  | true => rw [e0] at hf; exact ⟨key hf, .inl e0⟩
  | false =>
    rw [e0] at hf
    cases e1 : eqZ q.c.kind (Int.ofNat 1) with
    | true => rw [e1] at hf; exact ⟨key hf, .inr e1⟩
    | false =>
      rw [e1] at hf
      cases e2 : eqZ q.c.kind (Int.ofNat 2) with
      | true => rw [e2] at hf; cases hf
      | false =>
        rw [e2] at hf
        cases e3 : eqZ q.c.kind (Int.ofNat 3) with
        | true => rw [e3] at hf; cases hf
        | false =>
          rw [e3] at hf
          cases e4 : eqZ q.c.kind (Int.ofNat 4) with
          | true => rw [e4] at hf; cases hf
          | false => rw [e4] at hf; cases hf
theorem q14_same (q : Q14) (sl : SlotsS) (M : Mem) (th : Int) : (q.step sl M th).1.c = q.c ∧ (q.step sl M th).1.from_ = q.from_ ∧ (q.step sl M th).1.to = q.to := by
  unfold Q14.step
  cases eqZ q.c.kind (Int.ofNat 0) with
  | true => exact ⟨rfl, rfl, rfl⟩
  | false =>
    cases eqZ q.c.kind (Int.ofNat 1) with
    | true => exact ⟨rfl, rfl, rfl⟩
    | false =>
      cases eqZ q.c.kind (Int.ofNat 2) with
      | true => exact ⟨rfl, rfl, rfl⟩
      | false =>
        cases eqZ q.c.kind (Int.ofNat 3) with
        | true => exact ⟨rfl, rfl, rfl⟩
        | false =>
          cases eqZ q.c.kind (Int.ofNat 4) with
          | true => exact ⟨rfl, rfl, rfl⟩
          | false => exact ⟨rfl, rfl, rfl⟩
structure R14 where
  M : Mem
  now : List (Option Nat)
  at_ : List Nat
  all : List Q14
def Q14.end_ (q : Q14) (b : Bool) (i : Nat) : Q14 := { q with to := if b then Int.ofNat i else q.to }
noncomputable def R14.go (sl : SlotsS) (g : R14) (i k b : Nat) (q : Q14) (at_ : List Nat) (all : List Q14) : R14 :=
  { M := (q.step sl g.M (Int.ofNat k)).2.1,
    now := g.now.set k (if (q.step sl g.M (Int.ofNat k)).2.2 then none else some b),
    at_ := at_,
    all := all.set b ((q.step sl g.M (Int.ofNat k)).1.end_ (q.step sl g.M (Int.ofNat k)).2.2 i) }
def R14.skips (stores : Bool) (c : C14) : Bool := eqZ c.kind (Int.ofNat 4) && !stores
noncomputable def R14.pick (sl : SlotsS) (calls : List (List C14)) (stores : Bool) (g : R14) (i : Nat) (t : Int) : R14 :=
  match t with
  | .negSucc _ => g
  | .ofNat k =>
    match calls[k]?, g.now[k]?, g.at_[k]? with
    | some cs, some nw, some a =>
      (match nw with
      | some b => (match g.all[b]? with | some q => g.go sl i k b q g.at_ g.all | none => g)
      | none =>
        match cs[a]? with
        | none => g
        | some c =>
          if R14.skips stores c then { g with at_ := g.at_.set k (a + 1) }
          else g.go sl i k g.all.length (Q14.fresh sl c i) (g.at_.set k (a + 1)) (g.all ++ [Q14.fresh sl c i]))
    | _, _, _ => g
structure WF14 (sl : SlotsS) (calls : List (List C14)) (g : R14) : Prop where
  len : g.now.length = calls.length
  len2 : g.at_.length = calls.length
  fine : Fine g.M
  ats : ∀ (k : Nat) cs a, calls[k]? = some cs → g.at_[k]? = some a → a ≤ cs.length
  cur : ∀ (k b : Nat), g.now[k]? = some (some b) → ∃ q, g.all[b]? = some q ∧ q.Go sl ∧ q.Sl
  inj : ∀ (k k' b : Nat), g.now[k]? = some (some b) → g.now[k']? = some (some b) → k = k'
def Calls64b (calls : List (List C14)) : Prop := ∀ cs ∈ calls, ∀ c ∈ cs, c.h < 18446744073709551616 ∧ c.st < 18446744073709551616
theorem end_go {q : Q14} {sl : SlotsS} (h : q.Go sl) (b : Bool) (i : Nat) : (q.end_ b i).Go sl := ⟨h.ok, h.tl, h.kd, h.op, h.cl, h.hh, h.hs⟩
theorem wf_go14 {sl : SlotsS} {calls : List (List C14)} {g : R14} (W : WF14 sl calls g) {i k b : Nat} {q : Q14} {at_ : List Nat} {all : List Q14} (hk : k < calls.length) (hq : q.Go sl) (hb : all[b]? = some q) (hnb : ∀ k', k' ≠ k → g.now[k']? ≠ some (some b))
    (hat : at_.length = calls.length) (hats : ∀ (k : Nat) cs a, calls[k]? = some cs → at_[k]? = some a → a ≤ cs.length) (hall : ∀ (b : Nat) q, g.all[b]? = some q → all[b]? = some q) : WF14 sl calls (g.go sl i k b q at_ all) := by
  have hbl := (List.getElem?_eq_some_iff.1 hb).1
  have hx := (q14_nxt hq g.M (Int.ofNat k)).fine W.fine
  have hgo := q14_go hq g.M (Int.ofNat k)
  unfold R14.go
  generalize q.step sl g.M (Int.ofNat k) = z at *
  have lk : ∀ (k' b' : Nat), (g.now.set k (if z.2.2 then none else some b))[k']? = some (some b') → (k = k' ∧ b' = b ∧ z.2.2 = false) ∨ (k ≠ k' ∧ g.now[k']? = some (some b')) := fun k' b' h => by
    rw [List.getElem?_set] at h
    by_cases e : k = k'
    · rw [if_pos e] at h
      rw [if_pos (by rw [W.len]; exact hk)] at h
      cases hz : z.2.2 with
      | true => rw [hz] at h; simp at h
      | false => rw [hz] at h; simp at h; exact .inl ⟨e, h.symm, rfl⟩
    · rw [if_neg e] at h; exact .inr ⟨e, h⟩
  refine ⟨by simp only [List.length_set]; exact W.len, hat, hx, hats, fun k' b' h => ?_, fun k1 k2 b' h1 h2 => ?_⟩
  · rcases lk k' b' h with ⟨_, rfl, hz⟩ | ⟨hne, h⟩
    · exact ⟨_, List.getElem?_set_self hbl, end_go (hgo hz).1 _ _, (hgo hz).2⟩
    · obtain ⟨q', h1, h2⟩ := W.cur k' b' h
      have : b ≠ b' := fun e => hnb k' (fun q => hne q.symm) (e ▸ h)
      exact ⟨q', by simp only; rw [List.getElem?_set_ne this]; exact hall b' q' h1, h2⟩
  · rcases lk k1 b' h1 with ⟨e1, eb, _⟩ | ⟨n1, h1a⟩
    · rcases lk k2 b' h2 with ⟨e2, _, _⟩ | ⟨n2, h2a⟩
      · exact e1.symm.trans e2
      · exact (hnb k2 (fun q => n2 q.symm) (eb ▸ h2a)).elim
    · rcases lk k2 b' h2 with ⟨e2, eb, _⟩ | ⟨n2, h2a⟩
      · exact (hnb k1 (fun q => n1 q.symm) (eb ▸ h1a)).elim
      · exact W.inj k1 k2 b' h1a h2a
theorem pick_cases14 (sl : SlotsS) (calls : List (List C14)) (stores : Bool) (g : R14) (i : Nat) (t : Int) (Q : R14 → Prop) (h0 : Q g)
    (h1 : ∀ (k : Nat) cs a b q, t = Int.ofNat k → calls[k]? = some cs → g.now[k]? = some (some b) → g.at_[k]? = some a → g.all[b]? = some q → Q (g.go sl i k b q g.at_ g.all))
    (h2 : ∀ (k : Nat) cs a c, t = Int.ofNat k → calls[k]? = some cs → g.now[k]? = some none → g.at_[k]? = some a → cs[a]? = some c → R14.skips stores c = true → Q { g with at_ := g.at_.set k (a + 1) })
    (h3 : ∀ (k : Nat) cs a c, t = Int.ofNat k → calls[k]? = some cs → g.now[k]? = some none → g.at_[k]? = some a → cs[a]? = some c → R14.skips stores c = false →
      Q (g.go sl i k g.all.length (Q14.fresh sl c i) (g.at_.set k (a + 1)) (g.all ++ [Q14.fresh sl c i]))) : Q (g.pick sl calls stores i t) := by
  cases t with
  | negSucc z => exact h0
  | ofNat k =>
    cases e1 : calls[k]? with
    | none => simp only [R14.pick, e1]; exact h0
    | some cs =>
      cases e2 : g.now[k]? with
      | none => simp only [R14.pick, e1, e2]; exact h0
      | some nw =>
        cases e3 : g.at_[k]? with
        | none => simp only [R14.pick, e1, e2, e3]; exact h0
        | some a =>
          cases nw with
          | some b =>
            cases e4 : g.all[b]? with
            | none => simp only [R14.pick, e1, e2, e3, e4]; exact h0
            | some q => simp only [R14.pick, e1, e2, e3, e4]; exact h1 k cs a b q rfl e1 e2 e3 e4
          | none =>
            cases e4 : cs[a]? with
            | none => simp only [R14.pick, e1, e2, e3, e4]; exact h0
            | some c =>
              cases e5 : R14.skips stores c with
              | true => simp only [R14.pick, e1, e2, e3, e4, e5, if_true]; exact h2 k cs a c rfl e1 e2 e3 e4 e5
              | false => simp only [R14.pick, e1, e2, e3, e4, e5, Bool.false_eq_true, if_false]; exact h3 k cs a c rfl e1 e2 e3 e4 e5
theorem ats_set {calls : List (List C14)} {at_ : List Nat} (h : ∀ (k : Nat) cs a, calls[k]? = some cs → at_[k]? = some a → a ≤ cs.length) {k a : Nat} {cs : List C14} {c : C14} (hk : calls[k]? = some cs) (hc : cs[a]? = some c) :
    ∀ (k' : Nat) cs' a', calls[k']? = some cs' → (at_.set k (a + 1))[k']? = some a' → a' ≤ cs'.length := fun k' cs' a' h1 h2 => by
  rw [List.getElem?_set] at h2
  by_cases e : k = k'
  · subst e
    rw [hk] at h1
    cases h1
    rw [if_pos rfl] at h2
    split at h2
    · cases h2
      exact (List.getElem?_eq_some_iff.1 hc).1
    · cases h2
  · rw [if_neg e] at h2; exact h k' cs' a' h1 h2
theorem wf_at14 {sl : SlotsS} {calls : List (List C14)} {g : R14} (W : WF14 sl calls g) {k a : Nat} {cs : List C14} {c : C14} (hk : calls[k]? = some cs) (hc : cs[a]? = some c) : WF14 sl calls { g with at_ := g.at_.set k (a + 1) } :=
  ⟨W.len, by show (g.at_.set k (a + 1)).length = _; rw [List.length_set]; exact W.len2, W.fine, ats_set W.ats hk hc, W.cur, W.inj⟩
theorem wf_old14 {sl : SlotsS} {calls : List (List C14)} {g : R14} (W : WF14 sl calls g) {i k b : Nat} {cs : List C14} {q : Q14} (hk : calls[k]? = some cs) (hn : g.now[k]? = some (some b)) (hq : g.all[b]? = some q) : WF14 sl calls (g.go sl i k b q g.at_ g.all) := by
  obtain ⟨q', h1, h2, _⟩ := W.cur k b hn
  rw [hq] at h1
  cases h1
  exact wf_go14 W (List.getElem?_eq_some_iff.1 hk).1 h2 hq (fun k' hne h => hne (W.inj k' k b h hn)) W.len2 W.ats fun b q h => h
theorem wf_new14 {sl : SlotsS} {calls : List (List C14)} (hc64 : Calls64b calls) {g : R14} (W : WF14 sl calls g) {i k a : Nat} {cs : List C14} {c : C14} (hk : calls[k]? = some cs) (hc : cs[a]? = some c) : WF14 sl calls (g.go sl i k g.all.length (Q14.fresh sl c i) (g.at_.set k (a + 1)) (g.all ++ [Q14.fresh sl c i])) := by
  obtain ⟨h1, h2⟩ := hc64 cs (List.mem_of_getElem? hk) c (List.mem_of_getElem? hc)
  refine wf_go14 W (List.getElem?_eq_some_iff.1 hk).1 (go_fresh sl h1 h2 i) (by rw [List.getElem?_append_right (Nat.le_refl _)]; simp) (fun k' hne h => ?_) (by rw [List.length_set]; exact W.len2) (ats_set W.ats hk hc) fun b q h => ?_
  · obtain ⟨q, h1, _⟩ := W.cur k' _ h
    exact absurd (List.getElem?_eq_some_iff.1 h1).1 (Nat.lt_irrefl _)
  · rw [List.getElem?_append_left (List.getElem?_eq_some_iff.1 h).1]; exact h
theorem wf_pick14 {sl : SlotsS} {calls : List (List C14)} (hc64 : Calls64b calls) (stores : Bool) {g : R14} (W : WF14 sl calls g) (i : Nat) (t : Int) : WF14 sl calls (g.pick sl calls stores i t) :=
  pick_cases14 sl calls stores g i t (WF14 sl calls) W (fun k cs a b q _ h1 h2 h3 h4 => wf_old14 W h1 h2 h4) (fun k cs a c _ h1 h2 h3 h4 h5 => wf_at14 W h1 h4) (fun k cs a c _ h1 h2 h3 h4 h5 => wf_new14 hc64 W h1 h4)
theorem go_sz14 {sl : SlotsS} (g : R14) {i k b : Nat} {q : Q14} (hq : q.Go sl) (at_ : List Nat) (all : List Q14) : (g.go sl i k b q at_ all).all.length = all.length ∧ (g.go sl i k b q at_ all).M.tr.length ≤ g.M.tr.length + 1 :=
  ⟨by simp only [R14.go, List.length_set], (q14_nxt hq g.M (Int.ofNat k)).tr⟩
theorem pick_sz14 {sl : SlotsS} {calls : List (List C14)} (hc64 : Calls64b calls) (stores : Bool) {g : R14} (W : WF14 sl calls g) (i : Nat) (t : Int) : (g.pick sl calls stores i t).all.length ≤ g.all.length + 1 ∧ (g.pick sl calls stores i t).M.tr.length ≤ g.M.tr.length + 1 := by
  refine pick_cases14 sl calls stores g i t (fun g' => g'.all.length ≤ g.all.length + 1 ∧ g'.M.tr.length ≤ g.M.tr.length + 1) ⟨Nat.le_succ _, Nat.le_succ _⟩ (fun k cs a b q _ h1 h2 h3 h4 => ?_) (fun k cs a c _ h1 h2 h3 h4 h5 => ⟨Nat.le_succ _, Nat.le_succ _⟩) (fun k cs a c _ h1 h2 h3 h4 h5 => ?_)
  · obtain ⟨q', e1, e2, _⟩ := W.cur k b h2
    rw [h4] at e1
    cases e1
    obtain ⟨s1, s2⟩ := go_sz14 (i := i) (k := k) (b := b) g e2 g.at_ g.all
    exact ⟨by omega, s2⟩
  · obtain ⟨l1, l2⟩ := hc64 cs (List.mem_of_getElem? h1) c (List.mem_of_getElem? h4)
    obtain ⟨s1, s2⟩ := go_sz14 (i := i) (k := k) (b := g.all.length) g (go_fresh sl l1 l2 i) (g.at_.set k (a + 1)) (g.all ++ [Q14.fresh sl c i])
    exact ⟨by rw [s1]; simp, s2⟩
noncomputable def r14At (sl : SlotsS) (calls : List (List C14)) (stores : Bool) (picks : List Int) (g : R14) : Nat → R14
  | 0 => g
  | j + 1 => match picks[j]? with | some t => (r14At sl calls stores picks g j).pick sl calls stores j t | none => r14At sl calls stores picks g j
theorem r14At_succ {sl : SlotsS} {calls : List (List C14)} {stores : Bool} {picks : List Int} {g : R14} {j : Nat} {t : Int} (h : picks[j]? = some t) : r14At sl calls stores picks g (j + 1) = (r14At sl calls stores picks g j).pick sl calls stores j t := by
  show (match picks[j]? with | some t => (r14At sl calls stores picks g j).pick sl calls stores j t | none => r14At sl calls stores picks g j) = _
  rw [h]
theorem r14At_wf {sl : SlotsS} {calls : List (List C14)} (hc : Calls64b calls) {stores : Bool} {picks : List Int} {g : R14} (W : WF14 sl calls g) : ∀ j, WF14 sl calls (r14At sl calls stores picks g j)
  | 0 => W
  | j + 1 => by
    have ih := r14At_wf hc (stores := stores) (picks := picks) W j
    show WF14 sl calls (match picks[j]? with | some t => (r14At sl calls stores picks g j).pick sl calls stores j t | none => r14At sl calls stores picks g j)
    split
    · exact wf_pick14 hc stores ih _ _
    · exact ih
theorem r14At_sz {sl : SlotsS} {calls : List (List C14)} (hc : Calls64b calls) {stores : Bool} {picks : List Int} {g : R14} (W : WF14 sl calls g) : ∀ j, (r14At sl calls stores picks g j).all.length ≤ g.all.length + j ∧ (r14At sl calls stores picks g j).M.tr.length ≤ g.M.tr.length + j
  | 0 => ⟨Nat.le_refl _, Nat.le_refl _⟩
  | j + 1 => by
    have ih := r14At_sz hc (stores := stores) (picks := picks) W j
    have hw := r14At_wf hc (stores := stores) (picks := picks) W j
    show (match picks[j]? with | some t => (r14At sl calls stores picks g j).pick sl calls stores j t | none => r14At sl calls stores picks g j).all.length ≤ _ ∧ (match picks[j]? with | some t => (r14At sl calls stores picks g j).pick sl calls stores j t | none => r14At sl calls stores picks g j).M.tr.length ≤ _
    split
    · rename_i t _
      have := pick_sz14 hc stores hw j t
      omega
    · omega
/-! ### where a call lies -/
def Q14.lt (sl : SlotsS) (q : Q14) : LetS := bif eqZ q.c.kind (Int.ofNat 1) then q.s.lt else let0 sl q.c.h
def QAt (sl : SlotsS) (p : Nat) (q : Q14) : HP := fun h => ∃ (p3 p4 p5 p6 p7 g : Nat) (sn : Bool) (oA oS oE cA cE : Nat), (JG q.s.sn g ∧ LetJ (q.lt sl) sn ∧ (q.op.dn = false → oA = 0 ∧ oS = 0 ∧ oE = 0) ∧ (q.cl.dn = false → cA = 0 ∧ cE = 0)) ∧
  SatL [Own p [i64 q.c.kind, u64 q.c.h, u64 q.c.st, ptr p3 0, ptr p4 0, ptr p5 0, ptr p6 0, ptr p7 0, iN oA, u64 sl.cam, u64 sl.first, i64 sl.count, u64 sl.most, u64 q.c.h, u64 oS, iN oE, iN cA, u64 sl.cam, u64 sl.first, i64 sl.count, u64 sl.most, u64 q.c.h, u64 q.c.st, iN cE, iN q.from_, i64 q.to],
    Own p3 (snapC q.s.sn.at_ q.s.sn g), Own p4 (letC (q.lt sl) sn), Own p5 (askC q.op []), Own p6 (askC q.cl [u64 q.c.st]), RAt13 p7 q.s] h
abbrev C14R (v : Value) (l : List C14) : HP := RowsR 3 (fun (c : C14) cs _ => cs = [i64 c.kind, u64 c.h, u64 c.st]) v l
def ThrP14 (l : List C14) (cs : List Value) : HP := fun h => ∃ xv, cs = [xv] ∧ C14R xv l h
abbrev Thr14 (v : Value) (l : List (List C14)) : HP := RowsR 1 ThrP14 v l
theorem has_thr14 {v : Value} {l : List (List C14)} {L : List HP} : Has (Thr14 v l :: L) (Thr14 v l) := Has.here fun a t => RowsR.mono (fun ⟨x, e, a⟩ t => ⟨x, e, RowsR.mono (fun a _ => a) a t⟩) a t
end Go.Proofs.YtocphcgcpjcfjaaGreat

set_option linter.unusedVariables false
set_option linter.unusedSimpArgs false
namespace Go.Proofs.YtocphcgcpjcfjaaGreat
open Go Go.CM
attribute [local irreducible] AsBool AsWant AsNat AsInt AsCnt AsPtr AsSlc AsLen AsStr AsAgg AsTup AsFn AsIfc Nth Sc NotNil IsNil Must Cd codeW funW Sat SatL wrapN subM mkRow ltZ leZ ltN leN
variable {con : CallT}
theorem insC_ok (hc : Con con lives) {R : List HP} {H : CH} {x i : Nat} {vo v : Value} {l s : List Nat} {σ : TF} {Q : KX} (hs : Sat (Vec v tU 1 (rowsU s) :: Vec vo tU 1 (rowsU l) :: R) H) (hl : l.length ≤ 256) (hsl : s.length ≤ 256) (hx : l[i]? = some x)
    (e5 : σ 5 = vo) (e10 : σ 10 = v) (e11 : σ 11 = iN i) (e12 : σ 12 = snil) (e13 : σ 13 = iN 0)
    (k : ∀ σ1 H1 w n, n ≤ s.length → (∀ y ∈ s.take n, y < x) → (∀ y, s[n]? = some y → x ≤ y) → σ1 5 = vo → σ1 10 = v → σ1 11 = iN i → σ1 12 = w → σ1 13 = iN n → Sat (Vec w tU 1 (rowsU (s.take n)) :: Vec v tU 1 (rowsU s) :: Vec vo tU 1 (rowsU l) :: R) H1 → Q (.exit 4) σ1 H1) :
    LoopC Tryz.prog con (lpAt Tryz.prog 74 2) σ H Q := by
  obtain ⟨pv, ev⟩ := (hs.has Has.vec).shape
  rw [rowsU_len] at ev
  have hil : i < l.length := (List.getElem?_eq_some_iff.1 hx).1
  obtain ⟨bo, eo, _⟩ := (hs.has (Has.skip Has.vec)).slot (i := i) (row := [u64 x]) (by rw [List.getElem?_map, hx]; rfl)
  rw [rowsU_len] at eo
  refine LoopC.indP (n := 200) (id := 4) (fun σ1 H1 => ∃ w n, n ≤ s.length ∧ (∀ y ∈ s.take n, y < x) ∧ (∀ y, s[n]? = some y → x ≤ y) ∧ σ1 5 = vo ∧ σ1 10 = v ∧ σ1 11 = iN i ∧ σ1 12 = w ∧ σ1 13 = iN n ∧ Sat (Vec w tU 1 (rowsU (s.take n)) :: Vec v tU 1 (rowsU s) :: Vec vo tU 1 (rowsU l) :: R) H1) (by kernel_rfl)
    (fun (n : Nat) σ1 H1 => n ≤ s.length ∧ (∀ y ∈ s.take n, y < x) ∧ σ1 5 = vo ∧ σ1 10 = v ∧ σ1 11 = iN i ∧ σ1 13 = iN n ∧ ∃ w, σ1 12 = w ∧ Sat (Vec w tU 1 (rowsU (s.take n)) :: Vec v tU 1 (rowsU s) :: Vec vo tU 1 (rowsU l) :: R) H1)
    (fun n => s.length - n) (fun n σ1 H1 hI => ?_) (fun σ1 H1 hP => ?_) 0 _ _ ⟨Nat.zero_le _, (fun y hy => by simp at hy), e5, e10, e11, e13, snil, e12, hs.nilV⟩
  · obtain ⟨hn, hlt, a5, a10, a11, a13, w, a12, hs1⟩ := hI
    rw [rLive14C_W]
    refine AsLen.eq (a10.trans ev) ?_
    rw [a11, a12, a13]
    repeat (refine gO ?_; intros)
    by_cases h : n < s.length
    · refine Cd.t (ltZ_t h) ?_
      obtain ⟨y, ey⟩ : ∃ y, s[n]? = some y := ⟨_, List.getElem?_eq_getElem h⟩
      have hry : (rowsU s)[n]? = some [u64 y] := by rw [List.getElem?_map, ey]; rfl
      have hrx : (rowsU l)[i]? = some [u64 x] := by rw [List.getElem?_map, hx]; rfl
      obtain ⟨b, ev2, _⟩ := (hs1.has (Has.skip Has.vec)).slot hry
      rw [rowsU_len] at ev2
      refine AsSlc.eq (a10.trans ev2) ?_
      repeat (refine gO ?_; intros)
      refine Must.mk (ltN_t h) ?_
      refine ldVec hs1 (Has.skip Has.vec) ev2 hry (j := 0) (by show 0 + n * 1 = _; omega) (by omega) rfl ?_
      refine AsSlc.eq (a5.trans eo) ?_
      repeat (refine gO ?_; intros)
      refine Must.mk (ltN_t hil) ?_
      refine ldVec hs1 (Has.skip (Has.skip Has.vec)) eo hrx (j := 0) (by show 0 + i * 1 = _; omega) (by omega) rfl ?_
      repeat (refine gO ?_; intros)
      by_cases hyx : y < x
      · refine Cd.t (ltN_t hyx) ?_
        refine AsSlc.eq (a10.trans ev2) ?_
        repeat (refine gO ?_; intros)
        refine Must.mk (ltN_t h) ?_
        refine ldVec hs1 (Has.skip Has.vec) ev2 hry (j := 0) (by show 0 + n * 1 = _; omega) (by omega) rfl ?_
        repeat (refine gO ?_; intros)
        rename_i p23 H24 h24
        refine app_vec (new := [[u64 y]]) h24 pp el_u64 (by omega) sl_u64 (Src.cell (n := 1) (by rfl)) rfl (by simp) (by simp; omega) rfl fun w' H26 h26 => ?_
        have et : s.take (n + 1) = s.take n ++ [y] := by rw [List.take_add_one, ey]; rfl
        rw [show rowsU (s.take n) ++ [[u64 y]] = rowsU (s.take (n + 1)) from by rw [et, rowsU_app]; rfl] at h26
        repeat (refine gO ?_; intros)
        try rw [addInt]
        refine inR_nat (by omega) ?_
        repeat (refine gO ?_; intros)
        show ∃ y, _ ∧ _
        refine ⟨n + 1, by omega, h, fun z hz => ?_, a5, a10, a11, rfl, w', rfl, h26.ent ee⟩
        rw [et] at hz
        rcases List.mem_append.1 hz with hz | hz
        · exact hlt z hz
        · rw [List.mem_singleton.1 hz]; exact hyx
      · refine Cd.f (ltN_f (by omega)) ?_
        show _ = _ ∧ _
        exact ⟨rfl, w, n, hn, hlt, (fun z hz => by rw [ey] at hz; cases hz; omega), a5, a10, a11, a12, a13, hs1⟩
    · refine Cd.f (ltZ_f (by omega)) ?_
      show _ = _ ∧ _
      exact ⟨rfl, w, n, hn, hlt, (fun z hz => by rw [List.getElem?_eq_none (by omega)] at hz; cases hz), a5, a10, a11, a12, a13, hs1⟩
  · obtain ⟨w, n, h1, h2, h3, a5, a10, a11, a12, a13, hs1⟩ := hP
    exact k σ1 H1 w n h1 h2 h3 a5 a10 a11 a12 a13 hs1
theorem rHandle_ok (hc : Con con lives) {H : CH} {i g : Nat} {K : KP} (hi : i < 256) (hg : g < 1048576) (k : K (.tuple ⟨[u64 (i + 1 + g * 65536), iN 0]⟩) H) : Call1 Tryz.prog con 97 [iN i, u64 g] H K := by
  refine call_of (hc _ _ _ rfl) ?_
  rw [rHandle_W]
  refine Cd.f (ltZ_f (by omega)) (Cd.f (leZ_f hi) (Cd.f (leN_f hg) (Must.mk (cv_small (by omega)) ?_)))
  have e : Nat.mod (Nat.add (Nat.mod (Nat.add (wrapN .u64 (Int.ofNat i)) 1) 18446744073709551616) (Nat.mod (Nat.mul g 65536) 18446744073709551616)) 18446744073709551616 = i + 1 + g * 65536 := by
    rw [wrapN_small (by omega)]
    show ((i + 1) % 18446744073709551616 + g * 65536 % 18446744073709551616) % 18446744073709551616 = _
    omega
  rw [e]
  exact k
set_option maxRecDepth 100000 in
theorem rLive14_ok (hc : Con con lives) (sl : SlotsS) {L R : List HP} {H : CH} {m : Nat} {M : Mem} {K : KP} (hs : Sat L H) (hm : Pull L (RefP m M) R) (hb : M.Bd)
    (k : ∀ w H1, Sat (Vec w tU 1 (rowsU (liveL sl M)) :: L) H1 → K w H1) : Call1 Tryz.prog con 74 [ptr m 0, .agg ⟨[u64 sl.cam, u64 sl.first, i64 sl.count, u64 sl.most]⟩] H K := by
  refine call_of (hc _ _ _ rfl) ?_
  rw [rLive14_W]
  refine na fun p H2 h2 => ?_
  have hcl := cnt_le sl.count
  have hcmp : ∀ i, i ≤ cnt sl.count → (i < cnt sl.count ↔ (ltZ (Int.ofNat i) sl.count = true ∧ i < 256)) := fun i hi => by
    show _ ↔ (ltZ (Int.ofNat i) sl.count = true ∧ i < 256)
    rw [ltZ_z]
    unfold cnt at hi ⊢
    cases e : sl.count with
    | negSucc z =>
      rw [e] at hi
      simp only at hi ⊢
      have h1 := Int.negSucc_lt_zero z
      have h2 : (0 : Int) ≤ Int.ofNat i := Int.natCast_nonneg i
      constructor
      · intro h; omega
      · rintro ⟨h, _⟩; omega
    | ofNat c =>
      simp only
      rw [show (Int.ofNat i < Int.ofNat c) = (i < c) from propext Int.ofNat_lt]
      split <;> omega
  refine LoopC.indP (n := 200) (id := 0) (fun σ1 H1 => ∃ w, σ1 5 = w ∧ Sat (Vec w tU 1 (rowsU (hdsN sl M (cnt sl.count))) :: L) H1) (by kernel_rfl)
    (fun (i : Nat) σ1 H1 => i ≤ cnt sl.count ∧ ∃ w, σ1 0 = ptr m 0 ∧ σ1 3 = ptr p 0 ∧ σ1 5 = w ∧ σ1 6 = iN i ∧ Sat (Vec w tU 1 (rowsU (hdsN sl M i)) :: Own p [u64 sl.cam, u64 sl.first, i64 sl.count, u64 sl.most] :: L) H1)
    (fun i => cnt sl.count - i) (fun i σ1 H1 hI => ?_) (fun σ1 H1 hP => ?_) 0 _ _ ⟨Nat.zero_le _, snil, rfl, rfl, rfl, rfl, h2.nilV⟩
  · obtain ⟨hi, w, a0, a3, a5, a6, hs1⟩ := hI
    rw [rLive14A_W]
    rw [a0, a3, a5, a6]
    have hcm := hcmp i hi
    repeat (refine gO ?_; intros)
    cases h1 : ltZ (Int.ofNat i) sl.count with
    | false =>
      refine Cd.f rfl ?_
      show _ = _ ∧ _
      have e : i = cnt sl.count := by
        rcases Nat.lt_or_ge i (cnt sl.count) with q | q
        · have := (hcm.1 q).1; rw [h1] at this; cases this
        · omega
      subst e
      exact ⟨rfl, w, a5, hs1.ent ee⟩
    | true =>
      refine Cd.t rfl ?_
      repeat (refine gO ?_; intros)
      by_cases h2 : i < 256
      · refine Cd.t (ltZ_t h2) ?_
        have h := hcm.2 ⟨h1, h2⟩
        repeat (refine gO ?_; intros)
        refine Must.mk (cv_small (by omega)) ?_
        repeat (refine gO ?_; intros)
        rw [wrapN_small (by omega)]
        refine refPeek_ok (a := addM sl.first i) hc hs1 (Pull.there (Pull.there hm)) ?_
        refine rUnpack_ok hc hs1 (hb.peek _) fun H16 h16 => ?_
        repeat (refine gO ?_; intros)
        refine stN (by assumption) (Nat.le_of_ble_eq_true rfl) rfl fun H3 h3 => ?_
        repeat (refine gO ?_; intros)
        by_cases hk : kindW (M.peek (addM sl.first i)) = 3
        · refine Cd.f (by rw [eqN_t hk]; rfl) ?_
          repeat (refine gO ?_; intros)
          refine rHandle_ok hc h2 (genW_lt _) ?_
          repeat (refine gO ?_; intros)
          rename_i p25 H26 h26
          have hlen := hdsN_len sl M i
          refine app_vec (new := [[u64 (hnd i (genW (M.peek (addM sl.first i))))]]) h26 pp el_u64 (by omega) sl_u64 (Src.cell (n := 1) (by rfl)) rfl (by simp) (by simp; omega) rfl fun w' H28 h28 => ?_
          rw [show rowsU (hdsN sl M i) ++ [[u64 (hnd i (genW (M.peek (addM sl.first i))))]] = rowsU (hdsN sl M (i + 1)) from by rw [hdsN_yes hk, rowsU_app]; rfl] at h28
          repeat (refine gO ?_; intros)
          try rw [addInt]
          refine inR_nat (by omega) ?_
          repeat (refine gO ?_; intros)
          show ∃ y, _ ∧ _
          exact ⟨i + 1, by omega, h, w', a0, a3, rfl, rfl, h28.ent ee⟩
        · refine Cd.t (by rw [eqN_f hk]; rfl) ?_
          repeat (refine gO ?_; intros)
          try rw [addInt]
          refine inR_nat (by omega) ?_
          repeat (refine gO ?_; intros)
          rw [← hdsN_no hk] at h3
          show ∃ y, _ ∧ _
          exact ⟨i + 1, by omega, h, w, a0, a3, a5, rfl, h3.ent ee⟩
      · refine Cd.f (ltZ_f (by omega)) ?_
        show _ = _ ∧ _
        have e : i = cnt sl.count := by omega
        subst e
        exact ⟨rfl, w, a5, hs1.ent ee⟩
  · obtain ⟨w, a5, hs1⟩ := hP
    show Cd _ _ _
    refine Cd.t rfl ?_
    have hlen := hdsN_len sl M (cnt sl.count)
    have hbd : ∀ x ∈ hdsN sl M (cnt sl.count), x < 18446744073709551616 := fun x h => hdsN_lt hcl h
    have hnd := hdsN_nodup sl M _ hcl
    unfold liveL at k
    generalize hdsN sl M (cnt sl.count) = l at *
    obtain ⟨pw, ew⟩ := (hs1.has Has.vec).shape
    rw [rowsU_len] at ew
    refine LoopC.indP (n := 300) (id := 2) (fun σ1 H1 => ∃ v, σ1 10 = v ∧ Sat (Vec v tU 1 (rowsU (srt l)) :: L) H1) (by kernel_rfl)
      (fun (i : Nat) σ1 H1 => i ≤ l.length ∧ σ1 5 = w ∧ σ1 11 = iN i ∧ ∃ v, σ1 10 = v ∧ Sat (Vec v tU 1 (rowsU (srt (l.take i))) :: Vec w tU 1 (rowsU l) :: L) H1)
      (fun i => l.length - i) (fun i σ1 H1 hI => ?_) (fun σ1 H1 hP => ?_) 0 _ _ ⟨Nat.zero_le _, a5, rfl, snil, rfl, hs1.nilV⟩
    · obtain ⟨hi, a5, a11, v, a10, hs2⟩ := hI
      rw [rLive14B_W]
      refine AsLen.eq (a5.trans ew) ?_
      rw [a11]
      repeat (refine gO ?_; intros)
      by_cases h : i < l.length
      · refine Cd.t (ltZ_t h) ?_
        obtain ⟨x, ex⟩ : ∃ x, l[i]? = some x := ⟨_, List.getElem?_eq_getElem h⟩
        have hsl : (srt (l.take i)).length ≤ 256 := by
          have := srt_len (l.take i)
          rw [List.length_take] at this
          omega
        refine insC_ok hc hs2 (by omega) hsl ex a5 a10 a11 rfl rfl fun σ2 H2 w2 n hn h1 h2 b5 b10 b11 b12 b13 hs3 => ?_
        show Cd _ _ _
        refine Cd.t rfl ?_
        have hrx : (rowsU l)[i]? = some [u64 x] := by rw [List.getElem?_map, ex]; rfl
        obtain ⟨bo, eo, _⟩ := (hs3.has (Has.skip (Has.skip Has.vec))).slot hrx
        rw [rowsU_len] at eo
        refine AsSlc.eq (b5.trans eo) ?_
        rw [b10, b11, b12, b13]
        repeat (refine gO ?_; intros)
        refine Must.mk (ltN_t h) ?_
        refine ldVec hs3 (Has.skip (Has.skip Has.vec)) eo hrx (j := 0) (by show 0 + i * 1 = _; omega) (by omega) rfl ?_
        repeat (refine gO ?_; intros)
        rename_i p12 H13 h13
        have htl : ((srt (l.take i)).take n).length ≤ 256 := by rw [List.length_take]; omega
        refine app_vec (new := [[u64 x]]) h13 pp el_u64 (by omega) sl_u64 (Src.cell (n := 1) (by rfl)) rfl (by simp) (by simp; omega) rfl fun w' H15 h15 => ?_
        rw [show rowsU ((srt (l.take i)).take n) ++ [[u64 x]] = rowsU ((srt (l.take i)).take n ++ [x]) from by rw [rowsU_app]; rfl] at h15
        have h16 : Sat (Vec w' tU 1 (rowsU ((srt (l.take i)).take n ++ [x])) :: Vec v tU 1 (rowsU (srt (l.take i))) :: Vec w tU 1 (rowsU l) :: L) H15 := h15.ent ee
        refine app_rest h16 (by simp) hn (by simp; omega) fun v16 v' H18 h18 => ?_
        have hmem : ∀ y ∈ l.take i, y < 18446744073709551616 := fun y hy => hbd y (List.mem_of_mem_take hy)
        have hxn : x ∉ l.take i := fun hx => by
          obtain ⟨j, hj, e⟩ := List.getElem_of_mem hx
          rw [List.length_take] at hj
          rw [List.getElem_take] at e
          have e2 := (List.getElem?_eq_some_iff.1 ex).2
          exact absurd ((List.getElem_inj hnd).1 (e.trans e2.symm)) (by omega)
        have es := srt_snoc hmem (hbd x (List.mem_of_getElem? ex)) hxn h1 h2
        rw [List.append_assoc, List.singleton_append, es, show l.take i ++ [x] = l.take (i + 1) from by rw [List.take_add_one, ex]; rfl] at h18
        repeat (refine gO ?_; intros)
        try rw [addInt]
        refine inR_nat (by omega) ?_
        repeat (refine gO ?_; intros)
        show ∃ y, _ ∧ _
        exact ⟨i + 1, by omega, h, b5, rfl, v', rfl, h18⟩
      · refine Cd.f (ltZ_f (by omega)) ?_
        show _ = _ ∧ _
        have e : i = l.length := by omega
        rw [e, List.take_length] at hs2
        exact ⟨rfl, v, a10, hs2.ent ee⟩
    · obtain ⟨v, a10, hs2⟩ := hP
      show Cd _ _ _
      refine Cd.t rfl ?_
      rw [a10]
      exact k v H1 hs2
end Go.Proofs.YtocphcgcpjcfjaaGreat

set_option linter.unusedVariables false
set_option linter.unusedSimpArgs false
namespace Go.Proofs.YtocphcgcpjcfjaaGreat
open Go Go.CM
attribute [local irreducible] AsBool AsWant AsNat AsInt AsCnt AsPtr AsSlc AsLen AsStr AsAgg AsTup AsFn AsIfc Nth Sc NotNil IsNil Must Cd codeW funW Sat SatL wrapN subM mkRow ltZ leZ ltN leN
variable {con : CallT}
theorem lt_fresh (sl : SlotsS) (c : C14) (i : Nat) : Q14.lt sl { Q14.fresh sl c i with from_ := 0 } = let0 sl c.h := by
  unfold Q14.lt
  cases e : eqZ c.kind (Int.ofNat 1) with
  | false => simp only [Q14.fresh, e, cond_false]
  | true =>
    have ek : c.kind = Int.ofNat 1 := of_decide_eq_true e
    simp only [Q14.fresh, e, cond_true]
    show let0 sl (bh c.kind c.h []) = _
    rw [ek, show bh (Int.ofNat 1) c.h [] = c.h from by unfold bh; rw [ltZ_f (Nat.zero_le 1), ltZ_f (show 1 ≤ 2 by omega)]; rfl]
set_option maxRecDepth 100000 in
theorem l14begin_ok (hc : Con con lives) (sl : SlotsS) (c : C14) {i : Nat} {L : List HP} {H : CH} {K : KP} (hs : Sat L H)
    (k : ∀ p H1, Sat (QAt sl p { Q14.fresh sl c i with from_ := 0 } :: L) H1 → K (ptr p 0) H1) : Call1 Tryz.prog con 72 [.agg ⟨[u64 sl.cam, u64 sl.first, i64 sl.count, u64 sl.most]⟩, .agg ⟨[i64 c.kind, u64 c.h, u64 c.st]⟩] H K := by
  refine call_of (hc _ _ _ rfl) ?_
  rw [l14begin_W]
  refine na fun p1 H2 h2 => ?_
  refine na fun p3 H4 h4 => ?_
  repeat (refine gO ?_; intros)
  refine newSnap_ok hc sl h4 fun q1 H13 h13 => ?_
  repeat (refine gO ?_; intros)
  refine newLet_ok hc sl h13 fun q2 H20 h20 => ?_
  repeat (refine gO ?_; intros)
  refine hOpen_ok hc sl h20 fun q3 H27 h27 => ?_
  repeat (refine gO ?_; intros)
  refine hClose_ok hc sl h27 fun q4 H35 h35 => ?_
  repeat (refine gO ?_; intros)
  refine rbegin13_ok hc sl (rows := []) (hd := []) (et := tU) (h35.nilV (s := 6)) Has.vec (by simp) rfl (fun i row x h => by simp at h) fun q5 H43 h43 => ?_
  repeat (refine gO ?_; intros)
  rename_i p55 H56 h56
  refine k p55 H56 (Sat.close (L1 := [Own p55 [i64 c.kind, u64 c.h, u64 c.st, ptr q1 0, ptr q2 0, ptr q3 0, ptr q4 0, ptr q5 0, iN 0, u64 sl.cam, u64 sl.first, i64 sl.count, u64 sl.most, u64 c.h, u64 0, iN 0, iN 0, u64 sl.cam, u64 sl.first, i64 sl.count, u64 sl.most, u64 c.h, u64 c.st, iN 0, iN 0, i64 (Int.negSucc 0)], Own q1 (snapC 0 (snap0 sl) 0), Own q2 (letC (let0 sl c.h) false), Own q3 (askC (ask0 sl c.h) []), Own q4 (askC (ask0 sl c.h) [u64 c.st]), RAt13 q5 (P13.fresh sl c.kind (bh c.kind c.h []))]) (h56.ent ee) fun g a => ⟨q1, q2, q3, q4, q5, 0, false, 0, 0, 0, 0, 0, ⟨fun q => by simp [snap0, P13.fresh, Q14.fresh] at q, ?_, fun _ => ⟨rfl, rfl, rfl⟩, fun _ => ⟨rfl, rfl⟩⟩, ?_⟩)
  · have e := lt_fresh sl c i
    rw [e]
    exact ⟨fun _ => rfl, fun q => by simp [let0] at q⟩
  · have e := lt_fresh sl c i
    rw [e]
    exact a
end Go.Proofs.YtocphcgcpjcfjaaGreat

set_option linter.unusedVariables false
set_option linter.unusedSimpArgs false
namespace Go.Proofs.YtocphcgcpjcfjaaGreat
open Go Go.CM
attribute [local irreducible] AsBool AsWant AsNat AsInt AsCnt AsPtr AsSlc AsLen AsStr AsAgg AsTup AsFn AsIfc Nth Sc NotNil IsNil Must Cd codeW funW Sat SatL wrapN subM mkRow ltZ leZ ltN leN
variable {con : CallT}
theorem q14_0 {q : Q14} (e0 : eqZ q.c.kind (Int.ofNat 0) = true) (sl : SlotsS) (M : Mem) (th : Int) : q.step sl M th = ({ q with s := (q.s.step M th).1 }, (q.s.step M th).2, (q.s.step M th).1.fin) := by unfold Q14.step; rw [e0]; rfl
theorem q14_1 {q : Q14} (e0 : eqZ q.c.kind (Int.ofNat 0) = false) (e1 : eqZ q.c.kind (Int.ofNat 1) = true) (sl : SlotsS) (M : Mem) (th : Int) : q.step sl M th = ({ q with s := (q.s.step M th).1 }, (q.s.step M th).2, (q.s.step M th).1.fin) := by unfold Q14.step; rw [e0, e1]; rfl
theorem q14_2 {q : Q14} (e0 : eqZ q.c.kind (Int.ofNat 0) = false) (e1 : eqZ q.c.kind (Int.ofNat 1) = false) (e2 : eqZ q.c.kind (Int.ofNat 2) = true) (sl : SlotsS) (M : Mem) (th : Int) : q.step sl M th = ({ q with op := (q.op.look M th).1 }, (q.op.look M th).2, true) := by unfold Q14.step; rw [e0, e1, e2]; rfl
theorem q14_3 {q : Q14} (e0 : eqZ q.c.kind (Int.ofNat 0) = false) (e1 : eqZ q.c.kind (Int.ofNat 1) = false) (e2 : eqZ q.c.kind (Int.ofNat 2) = false) (e3 : eqZ q.c.kind (Int.ofNat 3) = true) (sl : SlotsS) (M : Mem) (th : Int) : q.step sl M th = ({ q with cl := (q.cl.look M th).1 }, (q.cl.look M th).2, true) := by unfold Q14.step; rw [e0, e1, e2, e3]; rfl
theorem q14_4 {q : Q14} (e0 : eqZ q.c.kind (Int.ofNat 0) = false) (e1 : eqZ q.c.kind (Int.ofNat 1) = false) (e2 : eqZ q.c.kind (Int.ofNat 2) = false) (e3 : eqZ q.c.kind (Int.ofNat 3) = false) (e4 : eqZ q.c.kind (Int.ofNat 4) = true) (sl : SlotsS) (M : Mem) (th : Int) : q.step sl M th = (q, M.store th (addM sl.first q.c.h) q.c.st, true) := by unfold Q14.step; rw [e0, e1, e2, e3, e4]; rfl
theorem q14_5 {q : Q14} (e0 : eqZ q.c.kind (Int.ofNat 0) = false) (e1 : eqZ q.c.kind (Int.ofNat 1) = false) (e2 : eqZ q.c.kind (Int.ofNat 2) = false) (e3 : eqZ q.c.kind (Int.ofNat 3) = false) (e4 : eqZ q.c.kind (Int.ofNat 4) = false) (sl : SlotsS) (M : Mem) (th : Int) : q.step sl M th = (q, M, true) := by unfold Q14.step; rw [e0, e1, e2, e3, e4]; rfl
/-- What a look at a handle finds. -/
theorem look_hd (sl : SlotsS) (h : Nat) (M : Mem) (th : Int) : ((ask0 sl h).look M th).1.dn = true ∧ ((ask0 sl h).look M th).1.hd = hHolds sl h M ∧ (hHolds sl h M = true → ((ask0 sl h).look M th).1.t = stampW (hWord sl h M)) ∧ ((ask0 sl h).look M th).2 = (bif hThere sl h then M.load th (addM sl.first (h % 65536 - 1)) else M) := by
  unfold AskS.look hHolds ask0
  cases e : hThere sl h with
  | false => exact ⟨rfl, rfl, fun q => by simp at q, rfl⟩
  | true => exact ⟨rfl, rfl, fun _ => rfl, rfl⟩
set_option maxRecDepth 100000 in
theorem l14step_ok (hc : Con con lives) (sl : SlotsS) (q : Q14) {R : List HP} {H : CH} {p v m r n : Nat} {th : Int} {M : Mem} {K : KP} (hs : Sat (QAt sl p q :: MemP m M :: RefP r M :: ViewAt v m th n :: R) H)
    (hg : q.Go sl) (hf : Fine M) (hn : n < 1000000000) (ht : M.tr.length < 1000000000)
    (k : ∀ n' H1, n' ≤ n + 1 → Sat (QAt sl p (q.step sl M th).1 :: MemP m (q.step sl M th).2.1 :: RefP r (q.step sl M th).2.1 :: ViewAt v m th n' :: R) H1 → K (.tuple ⟨[.bool (q.step sl M th).2.2, .bool true]⟩) H1) :
    Call1 Tryz.prog con 73 [ptr p 0, ptr v 0, ptr r 0, .agg ⟨[u64 sl.cam, u64 sl.first, i64 sl.count, u64 sl.most]⟩, i64 th] H K := by
  refine call_of (hc _ _ _ rfl) ?_
  rw [l14step_W]
  obtain ⟨u1, u2, s1, s2, d, ⟨p3, p4, p5, p6, p7, g, sn, oA, oS, oE, cA, cE, ⟨hg1, hj, hoo, hcc⟩, hin⟩, hR⟩ := hs.opens Pull.here
  have hs1 := Sat.merge s1 s2 d hin hR
  simp only [List.cons_append, List.nil_append] at hs1
  refine na fun p1 H2 h2 => ?_
  have hbd := hf.bd
  have hS : q.s.isS = eqZ q.c.kind (Int.ofNat 0) := by unfold P13.isS; rw [hg.kd]
  have hN : q.s.isN = eqZ q.c.kind (Int.ofNat 2) := by unfold P13.isN; rw [hg.kd]
  repeat (refine gO ?_; intros)
  cases e0 : eqZ q.c.kind (Int.ofNat 0) with
  | true =>
    rw [q14_0 e0] at k
    refine Cd.t rfl ?_
    rw [e0] at hS
    repeat (refine gO ?_; intros)
    refine snapStep_ok hc q.s.sn (g := g) h2 pp pp pp hn ht hbd (hg.ok.sn hS) hg1 fun g' n' H7 hn' hg' h7 => ?_
    repeat (refine gO ?_; intros)
    refine r13step_ok hc q.s h7 pp pp ht hbd hg.ok hg.tl fun H10 h10 => ?_
    rw [p13_stepS hS] at k h10 ⊢
    dsimp only at k h10 ⊢
    have e : P13.fin { q.s with sn := (q.s.sn.step M th).1 } = eqZ (Int.ofNat (q.s.sn.step M th).1.at_) (Int.ofNat 8) := p13_finS (s := { q.s with sn := (q.s.sn.step M th).1 }) hS
    rw [e] at k ⊢
    repeat (refine gO ?_; intros)
    rw [eqB_self]
    exact k n' H10 hn' (Sat.close (L1 := [_, _, _, _, _, _]) (h10.ent ee) fun g0 a => ⟨p3, p4, p5, p6, p7, g', sn, oA, oS, oE, cA, cE, ⟨hg', hj, hoo, hcc⟩, a⟩)
  | false =>
    refine Cd.f rfl ?_
    rw [e0] at hS
    repeat (refine gO ?_; intros)
    cases e1 : eqZ q.c.kind (Int.ofNat 1) with
    | true =>
      rw [q14_1 e0 e1] at k
      refine Cd.t rfl ?_
      have hN' : q.s.isN = false := by
        have e : q.c.kind = Int.ofNat 1 := of_decide_eq_true e1
        rw [hN, e]
        exact eqZ_f (by omega)
      have elt : q.lt sl = q.s.lt := by unfold Q14.lt; rw [e1]; rfl
      rw [elt] at hj h2
      obtain ⟨hat, hhh⟩ := hg.ok.lt hS hN'
      repeat (refine gO ?_; intros)
      refine letStep_ok hc q.s.lt (sn := sn) h2 pp pp pp hn ht hbd hhh hat hj fun sn' n' H7 hn' hj' h7 => ?_
      repeat (refine gO ?_; intros)
      refine r13step_ok hc q.s h7 pp pp ht hbd hg.ok hg.tl fun H10 h10 => ?_
      rw [p13_stepL hS hN'] at k h10 ⊢
      dsimp only at k h10 ⊢
      have e : P13.fin { q.s with lt := (q.s.lt.step M th).1 } = eqZ (Int.ofNat (q.s.lt.step M th).1.at_) (Int.ofNat 2) := p13_finL (s := { q.s with lt := (q.s.lt.step M th).1 }) hS hN'
      rw [e] at k ⊢
      repeat (refine gO ?_; intros)
      rw [eqB_self]
      have elt2 : Q14.lt sl { q with s := { q.s with lt := (q.s.lt.step M th).1 } } = (q.s.lt.step M th).1 := by unfold Q14.lt; simp only [e1, cond_true]
      refine k n' H10 hn' (Sat.close (L1 := [Own p [i64 q.c.kind, u64 q.c.h, u64 q.c.st, ptr p3 0, ptr p4 0, ptr p5 0, ptr p6 0, ptr p7 0, iN oA, u64 sl.cam, u64 sl.first, i64 sl.count, u64 sl.most, u64 q.c.h, u64 oS, iN oE, iN cA, u64 sl.cam, u64 sl.first, i64 sl.count, u64 sl.most, u64 q.c.h, u64 q.c.st, iN cE, iN q.from_, i64 q.to], Own p3 (snapC q.s.sn.at_ q.s.sn g), Own p4 (letC (q.s.lt.step M th).1 sn'), Own p5 (askC q.op []), Own p6 (askC q.cl [u64 q.c.st]), RAt13 p7 { q.s with lt := (q.s.lt.step M th).1 }]) (h10.ent ee) fun g0 a => ⟨p3, p4, p5, p6, p7, g, sn', oA, oS, oE, cA, cE, ⟨hg1, by rw [elt2]; exact hj', hoo, hcc⟩, ?_⟩)
      rw [elt2]
      exact a
    | false =>
      refine Cd.f rfl ?_
      repeat (refine gO ?_; intros)
      cases e2 : eqZ q.c.kind (Int.ofNat 2) with
      | true =>
        rw [q14_2 e0 e1 e2] at k
        refine Cd.t rfl ?_
        obtain ⟨l1, l2, l3, l4⟩ := look_hd sl q.c.h M th
        rw [← hg.op] at l1 l2 l3 l4
        obtain ⟨rfl, rfl, rfl⟩ := hoo (by rw [hg.op]; rfl)
        have hop : (q.op.step M th) = q.op.look M th := by unfold AskS.step; rw [show q.op.dn = false from by rw [hg.op]; rfl]; rfl
        repeat (refine gO ?_; intros)
        refine hOpenStep_ok hc q.op h2 pp pp pp hn ht hbd (by rw [hg.op]; exact hg.hh) fun n' H25 hn' h25 => ?_
        rw [hop] at h25
        refine rOpenStep_ok hc sl (h := q.c.h) (c := fun i => [i64 q.c.kind, u64 q.c.h, u64 q.c.st, ptr p3 0, ptr p4 0, ptr p5 0, ptr p6 0, ptr p7 0].getD i unit) (rest := [iN cA, u64 sl.cam, u64 sl.first, i64 sl.count, u64 sl.most, u64 q.c.h, u64 q.c.st, iN cE, iN q.from_, i64 q.to]) h25 pp pp ht hbd hg.hh fun H27 h27 => ?_
        rw [← l4] at h27
        simp only [List.getD_cons_zero, List.getD_cons_succ, List.cons_append, List.nil_append] at h27
        repeat (refine gO ?_; intros)
        refine hOpenStamp_ok hc (q.op.look M th).1 (ex := []) h27 ?_
        repeat (refine gO ?_; intros)
        have es : (if (q.op.look M th).1.hd = true then (q.op.look M th).1.t else 0) = (bif hHolds sl q.c.h M then stampW (hWord sl q.c.h M) else 0) := by
          rw [l2]
          cases hh : hHolds sl q.c.h M with
          | false => rfl
          | true => rw [l3 hh]; rfl
        rw [es, eqN_self]
        repeat (refine gO ?_; intros)
        refine hOpenErr_ok hc (q.op.look M th).1 (ex := []) h27 ?_
        have eer : (if ((q.op.look M th).1.dn && !(q.op.look M th).1.hd) = true then 33 else 0) = (bif hHolds sl q.c.h M then 0 else 33) := by
          rw [l1, l2]
          cases hHolds sl q.c.h M <;> rfl
        rw [eer]
        repeat (refine gO ?_; intros)
        rw [eqZ_self]
        refine k n' H27 hn' (Sat.close (L1 := [_, _, _, _, _, _]) (h27.ent ee) fun g0 a => ⟨p3, p4, p5, p6, p7, g, sn, 1, _, _, cA, cE, ⟨hg1, hj, fun x => ?_, hcc⟩, a⟩)
        have x : (q.op.look M th).1.dn = false := x
        rw [l1] at x; cases x
      | false =>
        refine Cd.f rfl ?_
        repeat (refine gO ?_; intros)
        cases e3 : eqZ q.c.kind (Int.ofNat 3) with
        | true =>
          rw [q14_3 e0 e1 e2 e3] at k
          refine Cd.t rfl ?_
          obtain ⟨l1, l2, l3, l4⟩ := look_hd sl q.c.h M th
          rw [← hg.cl] at l1 l2 l3 l4
          obtain ⟨rfl, rfl⟩ := hcc (by rw [hg.cl]; rfl)
          have hop : (q.cl.step M th) = q.cl.look M th := by unfold AskS.step; rw [show q.cl.dn = false from by rw [hg.cl]; rfl]; rfl
          repeat (refine gO ?_; intros)
          refine hCloseStep_ok hc q.cl h2 pp pp pp hn ht hbd (by rw [hg.cl]; exact hg.hh) fun n' H25 hn' h25 => ?_
          rw [hop] at h25
          refine rCloseStep_ok hc sl (h := q.c.h) (st := q.c.st) (c := fun i => [i64 q.c.kind, u64 q.c.h, u64 q.c.st, ptr p3 0, ptr p4 0, ptr p5 0, ptr p6 0, ptr p7 0, iN oA, u64 sl.cam, u64 sl.first, i64 sl.count, u64 sl.most, u64 q.c.h, u64 oS, iN oE].getD i unit) (rest := [iN q.from_, i64 q.to]) h25 pp pp ht hbd hg.hh fun H27 h27 => ?_
          rw [← l4] at h27
          simp only [List.getD_cons_zero, List.getD_cons_succ, List.cons_append, List.nil_append] at h27
          repeat (refine gO ?_; intros)
          refine hCloseErr_ok hc (q.cl.look M th).1 (st := q.c.st) h27 ?_
          have eer : (if ((q.cl.look M th).1.dn && !((q.cl.look M th).1.hd && eqN (q.cl.look M th).1.t q.c.st)) = true then 34 else 0) = (bif hHolds sl q.c.h M && eqN (stampW (hWord sl q.c.h M)) q.c.st then 0 else 34) := by
            rw [l1, l2]
            cases hh : hHolds sl q.c.h M with
            | false => rfl
            | true =>
              rw [l3 hh]
              cases eqN (stampW (hWord sl q.c.h M)) q.c.st <;> rfl
          rw [eer]
          repeat (refine gO ?_; intros)
          rw [eqZ_self]
          refine k n' H27 hn' (Sat.close (L1 := [_, _, _, _, _, _]) (h27.ent ee) fun g0 a => ⟨p3, p4, p5, p6, p7, g, sn, oA, oS, oE, 1, _, ⟨hg1, hj, hoo, fun x => ?_⟩, a⟩)
          have x : (q.cl.look M th).1.dn = false := x
          rw [l1] at x; cases x
        | false =>
          refine Cd.f rfl ?_
          repeat (refine gO ?_; intros)
          cases e4 : eqZ q.c.kind (Int.ofNat 4) with
          | true =>
            rw [q14_4 e0 e1 e2 e3 e4] at k
            refine Cd.t rfl ?_
            repeat (refine gO ?_; intros)
            refine viewStore_ok (a := addM sl.first q.c.h) hc h2 pp pp hn ht fun H71 h71 => ?_
            repeat (refine gO ?_; intros)
            refine refStore_ok (a := addM sl.first q.c.h) hc h71 pp ht fun H78 h78 => ?_
            exact k (n + 1) H78 (Nat.le_refl _) (Sat.close (L1 := [_, _, _, _, _, _]) (h78.ent ee) fun g0 a => ⟨p3, p4, p5, p6, p7, g, sn, oA, oS, oE, cA, cE, ⟨hg1, hj, hoo, hcc⟩, a⟩)
          | false =>
            rw [q14_5 e0 e1 e2 e3 e4] at k
            refine Cd.f rfl ?_
            exact k n H2 (Nat.le_succ _) (Sat.close (L1 := [_, _, _, _, _, _]) (h2.ent ee) fun g0 a => ⟨p3, p4, p5, p6, p7, g, sn, oA, oS, oE, cA, cE, ⟨hg1, hj, hoo, hcc⟩, a⟩)
end Go.Proofs.YtocphcgcpjcfjaaGreat

set_option linter.unusedVariables false
set_option linter.unusedSimpArgs false
namespace Go.Proofs.YtocphcgcpjcfjaaGreat
open Go Go.CM
attribute [local irreducible] AsBool AsWant AsNat AsInt AsCnt AsPtr AsSlc AsLen AsStr AsAgg AsTup AsFn AsIfc Nth Sc NotNil IsNil Must Cd codeW funW Sat SatL wrapN subM mkRow ltZ leZ ltN leN
variable {con : CallT}
theorem ceP_n {f : TF → CH → Prop} {g : Nat → TF → CH → Prop} {h : TF → CH → Prop} : ceP CE.normal f g h = f := rfl
abbrev nilP : Value := .pointer none
theorem el_q : elemOk Tryz.prog 84 96 1 8 = true := by kernel_rfl
theorem sl_q : ∃ e, Tryz.prog.underlying 84 = some (.slice e) := ⟨96, by kernel_rfl⟩
def NowR (ps : List Nat) (x : Option Nat) (v : Value) : Prop := match x with | none => v = nilP | some b => ∃ p, ps[b]? = some p ∧ v = ptr p 0
def Now2 (ps : List Nat) (now : List (Option Nat)) (nv : List Value) : Prop := nv.length = now.length ∧ ∀ (k : Nat) x v, now[k]? = some x → nv[k]? = some v → NowR ps x v
theorem Now2.set {ps : List Nat} {now : List (Option Nat)} {nv : List Value} (h : Now2 ps now nv) (k : Nat) {x : Option Nat} {v : Value} (r : NowR ps x v) : Now2 ps (now.set k x) (nv.set k v) := by
  refine ⟨by simp [h.1], fun j y w h1 h2 => ?_⟩
  rw [List.getElem?_set] at h1 h2
  by_cases e : k = j
  · subst e
    rw [if_pos rfl] at h1 h2
    split at h1
    · split at h2
      · cases h1; cases h2; exact r
      · cases h2
    · cases h1
  · rw [if_neg e] at h1 h2
    exact h.2 j y w h1 h2
theorem NowR.mono {ps : List Nat} {x : Option Nat} {v : Value} (h : NowR ps x v) (p : Nat) : NowR (ps ++ [p]) x v := by
  cases x with
  | none => exact h
  | some b =>
    obtain ⟨q, h1, h2⟩ := h
    exact ⟨q, by rw [List.getElem?_append_left (List.getElem?_eq_some_iff.1 h1).1]; exact h1, h2⟩
theorem Now2.mono {ps : List Nat} {now : List (Option Nat)} {nv : List Value} (h : Now2 ps now nv) (p : Nat) : Now2 (ps ++ [p]) now nv := ⟨h.1, fun k x v h1 h2 => (h.2 k x v h1 h2).mono p⟩
/-- What a round keeps of the temporaries. -/
def Keep (a b : TF) : Prop := b 1 = a 1 ∧ b 2 = a 2 ∧ b 6 = a 6 ∧ b 8 = a 8 ∧ b 10 = a 10 ∧ b 12 = a 12 ∧ b 16 = a 16 ∧ b 17 = a 17 ∧ b 18 = a 18 ∧ b 19 = a 19
theorem Keep.trans {a b c : TF} (h : Keep a b) (g : Keep b c) : Keep a c := by
  obtain ⟨h1, h2, h3, h4, h5, h6, h7, h8, h9, h10⟩ := h
  obtain ⟨g1, g2, g3, g4, g5, g6, g7, g8, g9, g10⟩ := g
  exact ⟨g1.trans h1, g2.trans h2, g3.trans h3, g4.trans h4, g5.trans h5, g6.trans h6, g7.trans h7, g8.trans h8, g9.trans h9, g10.trans h10⟩
/-- A call's own block. -/
abbrev qC (sl : SlotsS) (q : Q14) (p3 p4 p5 p6 p7 oA oS oE cA cE : Nat) (z : Int) : List Value := [i64 q.c.kind, u64 q.c.h, u64 q.c.st, ptr p3 0, ptr p4 0, ptr p5 0, ptr p6 0, ptr p7 0, iN oA, u64 sl.cam, u64 sl.first, i64 sl.count, u64 sl.most, u64 q.c.h, u64 oS, iN oE, iN cA, u64 sl.cam, u64 sl.first, i64 sl.count, u64 sl.most, u64 q.c.h, u64 q.c.st, iN cE, iN q.from_, i64 z]
set_option maxRecDepth 100000 in
/-- Steps 8 and 9 of a round: what is done is let go. -/
theorem ran_end (hc : Con con lives) {sl : SlotsS} {q : Q14} {p pc : Nat} {M : Mem} {R : List HP} {H : CH} {m bn en k i n : Nat} {nv : List Value} {fin : Bool} {σ : TF} {Q : KX}
    (hs : Sat (QAt sl p q :: MemP m M :: Row bn en 0 true nv :: Own pc [u64 sl.cam, u64 sl.first, i64 sl.count, u64 sl.most] :: R) H)
    (hf : Fine M) (ht : M.tr.length < 1000000000) (h64 : q.op.h < 18446744073709551616 ∧ q.cl.h < 18446744073709551616) (h2d : fin = true → q.c.kind = Int.ofNat 2 → q.op.dn = true) (h3d : fin = true → q.c.kind = Int.ofNat 3 → q.cl.dn = true) (hk : nv[k]? = some (ptr p 0)) (hn : nv.length = n)
    (e8 : σ 8 = ptr m 0) (e12 : σ 12 = ptr pc 0) (e16 : σ 16 = slc bn 0 n n) (e19 : σ 19 = iN i) (e20 : σ 20 = i64 (Int.ofNat k)) (e22 : σ 22 = .bool fin)
    (kk : ∀ σ1 H1, Keep σ σ1 → Sat (QAt sl p (q.end_ fin i) :: MemP m M :: Row bn en 0 true (nv.set k (if fin then nilP else ptr p 0)) :: Own pc [u64 sl.cam, u64 sl.first, i64 sl.count, u64 sl.most] :: R) H1 → Q .normal σ1 H1) :
    codeW (dropC 8 (blkC ((flatC (blkC (lpAt Tryz.prog 23 0))).getD 2 .skip))) Tryz.prog con σ H Q := by
  have hkn : k < n := by have := (List.getElem?_eq_some_iff.1 hk).1; omega
  rw [codeW_cut2 8 1, l14ranB8_W]
  show codeW (dropC (8 + 1) _) _ _ _ _ _
  rw [codeW_cut2 9 1]
  show codeW (sliceC 9 1 _) _ _ (upd σ 198 (σ 22)) _ _
  have t8 : upd σ 198 (σ 22) 8 = ptr m 0 := e8
  have t12 : upd σ 198 (σ 22) 12 = ptr pc 0 := e12
  have t16 : upd σ 198 (σ 22) 16 = slc bn 0 n n := e16
  have t19 : upd σ 198 (σ 22) 19 = iN i := e19
  have t20 : upd σ 198 (σ 22) 20 = i64 (Int.ofNat k) := e20
  have t198 : upd σ 198 (σ 22) 198 = .bool fin := e22
  have tK : Keep σ (upd σ 198 (σ 22)) := ⟨rfl, rfl, rfl, rfl, rfl, rfl, rfl, rfl, rfl, rfl⟩
  generalize upd σ 198 (σ 22) = τ at *
  rw [l14ranB9_W, t198]
  cases fin with
  | false =>
    refine AsBool.mk (Cd.f rfl ?_)
    show codeW (dropC (9 + 1) _) _ _ _ _ _
    rw [l14ranB10_W]
    refine kk _ H tK ?_
    rw [show nv.set k (if false = true then nilP else ptr p 0) = nv from set_self hk]
    exact hs
  | true =>
    refine AsBool.mk (Cd.t rfl ?_)
    obtain ⟨u1, u2, s1, s2, d, ⟨p3, p4, p5, p6, p7, g, sn, oA, oS, oE, cA, cE, ⟨hg1, hj, hoo, hcc⟩, hin⟩, hR⟩ := hs.opens Pull.here
    have hs1 := Sat.merge s1 s2 d hin hR
    simp only [List.cons_append, List.nil_append] at hs1
    have fin : ∀ σ1 H1, Keep τ σ1 → Sat (Row bn en 0 true (nv.set k nilP) :: Own p (qC sl q p3 p4 p5 p6 p7 oA oS oE cA cE (Int.ofNat i)) :: Own p3 (snapC q.s.sn.at_ q.s.sn g) :: Own p4 (letC (q.lt sl) sn) :: Own p5 (askC q.op []) :: Own p6 (askC q.cl [u64 q.c.st]) :: RAt13 p7 q.s :: MemP m M :: Own pc [u64 sl.cam, u64 sl.first, i64 sl.count, u64 sl.most] :: R) H1 → Q .normal σ1 H1 := fun σ1 H1 hK h1 =>
      kk σ1 H1 (tK.trans hK) (Sat.close (L1 := [_, _, _, _, _, _]) (h1.ent ee) fun g0 a => ⟨p3, p4, p5, p6, p7, g, sn, oA, oS, oE, cA, cE, ⟨hg1, hj, hoo, hcc⟩, a⟩)
    clear kk hs
    rw [t8, t12, t16, t19, t20]
    repeat (refine gO ?_; intros)
    refine Must.mk (ltN_t hkn) (ldRow hs1 (off1 k) hk ?_)
    repeat (refine gO ?_; intros)
    rename_i H10 h10
    replace h10 : Sat (Own p (qC sl q p3 p4 p5 p6 p7 oA oS oE cA cE (Int.ofNat i)) :: Own p3 (snapC q.s.sn.at_ q.s.sn g) :: Own p4 (letC (q.lt sl) sn) :: Own p5 (askC q.op []) :: Own p6 (askC q.cl [u64 q.c.st]) :: RAt13 p7 q.s :: MemP m M :: Row bn en 0 true nv :: Own pc [u64 sl.cam, u64 sl.first, i64 sl.count, u64 sl.most] :: R) H10 := h10
    refine Must.mk (ltN_t hkn) (ldRow h10 (off1 k) hk ?_)
    repeat (refine gO ?_; intros)
    cases e2 : eqZ q.c.kind (Int.ofNat 2) with
    | true =>
      have ek : q.c.kind = Int.ofNat 2 := of_decide_eq_true e2
      refine Cd.t rfl ?_
      repeat (refine gO ?_; intros)
      refine Must.mk (ltN_t hkn) (ldRow h10 (off1 k) hk ?_)
      repeat (refine gO ?_; intros)
      refine memView_ok hc h10 fun v H31 h31 => ?_
      have hst : (q.op.step M (Int.ofNat k)) = (q.op, M) := by unfold AskS.step; rw [h2d rfl ek]; rfl
      refine hOpenStep_ok hc q.op h31 pp pp pp (by omega) ht hf.bd h64.1 fun n' H33 hn' h33 => ?_
      rw [hst] at h33
      repeat (refine gO ?_; intros)
      refine Must.mk (ltN_t hkn) (ldRow h33 (off1 k) hk ?_)
      repeat (refine gO ?_; intros)
      refine Cd.f (by rw [ek]; exact eqZ_f (by omega)) ?_
      repeat (refine gO ?_; intros)
      refine ldRow h10 (off1 k) hk ?_
      repeat (refine gO ?_; intros)
      refine ldRow h31 (off1 k) hk ?_
      repeat (refine gO ?_; intros)
      refine Must.mk (ltN_t hkn) (st h33 (by rw [off1]; omega) rfl fun H7 h7 => ?_)
      rw [off1] at h7
      show codeW (dropC (9 + 1) _) _ _ _ _ _
      rw [l14ranB10_W]
      exact fin _ H7 ⟨rfl, rfl, rfl, rfl, rfl, rfl, rfl, rfl, rfl, rfl⟩ (h7.ent ee)
    | false =>
      refine Cd.f rfl ?_
      repeat (refine gO ?_; intros)
      refine Must.mk (ltN_t hkn) (ldRow h10 (off1 k) hk ?_)
      repeat (refine gO ?_; intros)
      cases e3 : eqZ q.c.kind (Int.ofNat 3) with
      | true =>
        have ek : q.c.kind = Int.ofNat 3 := of_decide_eq_true e3
        refine Cd.t rfl ?_
        repeat (refine gO ?_; intros)
        refine Must.mk (ltN_t hkn) (ldRow h10 (off1 k) hk ?_)
        repeat (refine gO ?_; intros)
        refine memView_ok hc h10 fun v H31 h31 => ?_
        have hst : (q.cl.step M (Int.ofNat k)) = (q.cl, M) := by unfold AskS.step; rw [h3d rfl ek]; rfl
        refine hCloseStep_ok hc q.cl h31 pp pp pp (by omega) ht hf.bd h64.2 fun n' H33 hn' h33 => ?_
        rw [hst] at h33
        repeat (refine gO ?_; intros)
        refine ldRow h10 (off1 k) hk ?_
        repeat (refine gO ?_; intros)
        refine ldRow h31 (off1 k) hk ?_
        repeat (refine gO ?_; intros)
        refine Must.mk (ltN_t hkn) (st h33 (by rw [off1]; omega) rfl fun H7 h7 => ?_)
        rw [off1] at h7
        show codeW (dropC (9 + 1) _) _ _ _ _ _
        rw [l14ranB10_W]
        exact fin _ H7 ⟨rfl, rfl, rfl, rfl, rfl, rfl, rfl, rfl, rfl, rfl⟩ (h7.ent ee)
      | false =>
        refine Cd.f rfl ?_
        repeat (refine gO ?_; intros)
        refine Must.mk (ltN_t hkn) (st h10 (by rw [off1]; omega) rfl fun H7 h7 => ?_)
        rw [off1] at h7
        show codeW (dropC (9 + 1) _) _ _ _ _ _
        rw [l14ranB10_W]
        exact fin _ H7 ⟨rfl, rfl, rfl, rfl, rfl, rfl, rfl, rfl, rfl, rfl⟩ (h7.ent ee)
set_option maxRecDepth 100000 in
/-- Steps 6 to 9. -/
theorem ran_live (hc : Con con lives) {sl : SlotsS} {M' : Mem} {R : List HP} {H2 : CH} {m r bn en pc k b i n p : Nat} {q' : Q14} {nv : List Value} {ps : List Nat} {all : List Q14} {done : Bool} {τ : TF} {Q : KX}
    (h2 : Sat (QAt sl p q' :: MemP m M' :: RefP r M' :: SatL ((List.zipWith (QAt sl) ps all).set b Emp) :: Row bn en 0 true nv :: Own pc [u64 sl.cam, u64 sl.first, i64 sl.count, u64 sl.most] :: R) H2)
    (hnx : Fine M') (ht : M'.tr.length < 1000000000) (h64 : q'.op.h < 18446744073709551616 ∧ q'.cl.h < 18446744073709551616) (h2d : done = true → q'.c.kind = Int.ofNat 2 → q'.op.dn = true) (h3d : done = true → q'.c.kind = Int.ofNat 3 → q'.cl.dn = true) (hb : b < (List.zipWith (QAt sl) ps all).length) (hp : ps[b]? = some p) (hk : nv[k]? = some (ptr p 0)) (hn : nv.length = n)
    (k8 : τ 8 = ptr m 0) (k10 : τ 10 = ptr r 0) (k12 : τ 12 = ptr pc 0) (k16 : τ 16 = slc bn 0 n n) (k19 : τ 19 = iN i) (t20 : τ 20 = i64 (Int.ofNat k)) (t22 : τ 22 = .bool done) (t23 : τ 23 = .bool true)
    (kk : ∀ σ1 H1, Keep τ σ1 → Sat (SatL (List.zipWith (QAt sl) ps (all.set b (q'.end_ done i))) :: MemP m M' :: RefP r M' :: Row bn en 0 true (nv.set k (if done then nilP else ptr p 0)) :: Own pc [u64 sl.cam, u64 sl.first, i64 sl.count, u64 sl.most] :: R) H1 → Q .normal σ1 H1) :
    codeW (dropC 6 (blkC ((flatC (blkC (lpAt Tryz.prog 23 0))).getD 2 .skip))) Tryz.prog con τ H2 Q := by
  rw [codeW_cut2 6 1, l14ranB6_W, t23, k8, k10, k12]
  repeat (refine gO ?_; intros)
  refine hLive_ok hc sl h2 pp hnx.bd fun w H9 h9 => ?_
  repeat (refine gO ?_; intros)
  refine rLive14_ok hc sl h9 pp hnx.bd fun w2 H10 h10 => ?_
  have hll := liveL_len sl M'
  refine sameU_ok hc h10 (l := liveL sl M') (Has.skip (fun g a => Vec.nums (Has.vec g a))) (fun g a => Vec.nums (Has.vec g a)) (by omega) ?_
  repeat (refine gO ?_; intros)
  rw [ceP_n, codeW_cut2 7 1, l14ranB7_W]
  refine AsBool.mk (Cd.f rfl ?_)
  rw [ceP_n]
  have h11 : Sat (QAt sl p q' :: MemP m M' :: Row bn en 0 true nv :: Own pc [u64 sl.cam, u64 sl.first, i64 sl.count, u64 sl.most] :: RefP r M' :: SatL ((List.zipWith (QAt sl) ps all).set b Emp) :: R) H10 := h10.ent ee
  refine ran_end hc h11 hnx ht h64 h2d h3d hk hn k8 k12 k16 k19 t20 t22 fun σ1 H1 hK h1 => ?_
  refine kk σ1 H1 (Keep.trans ⟨rfl, rfl, rfl, rfl, rfl, rfl, rfl, rfl, rfl, rfl⟩ hK) ?_
  have h1a : Sat (QAt sl p (q'.end_ done i) :: SatL ((List.zipWith (QAt sl) ps all).set b Emp) :: MemP m M' :: Row bn en 0 true (nv.set k (if done then nilP else ptr p 0)) :: Own pc [u64 sl.cam, u64 sl.first, i64 sl.count, u64 sl.most] :: RefP r M' :: R) H1 := h1.ent ee
  have h1b := Sat.putAll hb h1a
  rw [zip_setR, set_self hp] at h1b
  exact h1b.ent ee
set_option maxRecDepth 100000 in
/-- Steps 5 to 9: a step of both, and what holds behind it. -/
theorem ran_step (hc : Con con lives) {sl : SlotsS} {M : Mem} {R : List HP} {H : CH} {m r bn en pc k b i n p : Nat} {q : Q14} {nv : List Value} {ps : List Nat} {all : List Q14} {σ : TF} {Q : KX}
    (hs : Sat (SatL (List.zipWith (QAt sl) ps all) :: MemP m M :: RefP r M :: Row bn en 0 true nv :: Own pc [u64 sl.cam, u64 sl.first, i64 sl.count, u64 sl.most] :: R) H)
    (hg : q.Go sl) (hf : Fine M) (ht : M.tr.length < 900000000) (hq : all[b]? = some q) (hp : ps[b]? = some p) (hk : nv[k]? = some (ptr p 0)) (hn : nv.length = n)
    (e8 : σ 8 = ptr m 0) (e10 : σ 10 = ptr r 0) (e12 : σ 12 = ptr pc 0) (e16 : σ 16 = slc bn 0 n n) (e19 : σ 19 = iN i) (e20 : σ 20 = i64 (Int.ofNat k))
    (kk : ∀ σ1 H1, Keep σ σ1 → Sat (SatL (List.zipWith (QAt sl) ps (all.set b ((q.step sl M (Int.ofNat k)).1.end_ (q.step sl M (Int.ofNat k)).2.2 i))) :: MemP m (q.step sl M (Int.ofNat k)).2.1 :: RefP r (q.step sl M (Int.ofNat k)).2.1 :: Row bn en 0 true (nv.set k (if (q.step sl M (Int.ofNat k)).2.2 then nilP else ptr p 0)) :: Own pc [u64 sl.cam, u64 sl.first, i64 sl.count, u64 sl.most] :: R) H1 → Q .normal σ1 H1) :
    codeW (dropC 5 (blkC ((flatC (blkC (lpAt Tryz.prog 23 0))).getD 2 .skip))) Tryz.prog con σ H Q := by
  have hkn : k < n := by have := (List.getElem?_eq_some_iff.1 hk).1; omega
  rw [codeW_cut2 5 1, l14ranB5_W, e8, e10, e12, e16, e20]
  repeat (refine gO ?_; intros)
  refine Must.mk (ltN_t hkn) (ldRow hs (off1 k) hk ?_)
  repeat (refine gO ?_; intros)
  refine memView_ok hc hs fun v H8 h8 => ?_
  repeat (refine gO ?_; intros)
  have hgt : (List.zipWith (QAt sl) ps all)[b]? = some (QAt sl p q) := zip_get' _ hp hq
  have h8a : Sat (SatL (List.zipWith (QAt sl) ps all) :: _) H8 := h8.pull pp
  have h8b := h8a.pull (pull_all Pull.here hgt)
  have h8c : Sat (QAt sl p q :: MemP m M :: RefP r M :: ViewAt v m (Int.ofNat k) 0 :: SatL ((List.zipWith (QAt sl) ps all).set b Emp) :: Row bn en 0 true nv :: Own pc [u64 sl.cam, u64 sl.first, i64 sl.count, u64 sl.most] :: R) H8 := h8b.ent ee
  have hnx := (q14_nxt hg M (Int.ofNat k)).fine hf
  have hnt := (q14_nxt hg M (Int.ofNat k)).tr
  have hdn2 : (q.step sl M (Int.ofNat k)).2.2 = true → (q.step sl M (Int.ofNat k)).1.c.kind = Int.ofNat 2 → (q.step sl M (Int.ofNat k)).1.op.dn = true := fun _ h => by
    rw [(q14_same q sl M (Int.ofNat k)).1] at h
    rw [q14_2 (by rw [h]; exact eqZ_f (by omega)) (by rw [h]; exact eqZ_f (by omega)) (by rw [h]; exact eqZ_self _), hg.op]
    exact (look_hd sl q.c.h M (Int.ofNat k)).1
  have hdn3 : (q.step sl M (Int.ofNat k)).2.2 = true → (q.step sl M (Int.ofNat k)).1.c.kind = Int.ofNat 3 → (q.step sl M (Int.ofNat k)).1.cl.dn = true := fun _ h => by
    rw [(q14_same q sl M (Int.ofNat k)).1] at h
    rw [q14_3 (by rw [h]; exact eqZ_f (by omega)) (by rw [h]; exact eqZ_f (by omega)) (by rw [h]; exact eqZ_f (by omega)) (by rw [h]; exact eqZ_self _), hg.cl]
    exact (look_hd sl q.c.h M (Int.ofNat k)).1
  have hoph : (q.step sl M (Int.ofNat k)).1.op.h = q.c.h ∧ (q.step sl M (Int.ofNat k)).1.cl.h = q.c.h := by
    have l : ((ask0 sl q.c.h).look M (Int.ofNat k)).1.h = q.c.h := by
      unfold AskS.look
      cases hThere (ask0 sl q.c.h).sl (ask0 sl q.c.h).h <;> rfl
    unfold Q14.step
    cases eqZ q.c.kind (Int.ofNat 0) with
    | true => exact ⟨by show q.op.h = _; rw [hg.op]; rfl, by show q.cl.h = _; rw [hg.cl]; rfl⟩
    | false =>
      cases eqZ q.c.kind (Int.ofNat 1) with
      | true => exact ⟨by show q.op.h = _; rw [hg.op]; rfl, by show q.cl.h = _; rw [hg.cl]; rfl⟩
      | false =>
        cases eqZ q.c.kind (Int.ofNat 2) with
        | true => exact ⟨by show (q.op.look M _).1.h = _; rw [hg.op]; exact l, by show q.cl.h = _; rw [hg.cl]; rfl⟩
        | false =>
          cases eqZ q.c.kind (Int.ofNat 3) with
          | true => exact ⟨by show q.op.h = _; rw [hg.op]; rfl, by show (q.cl.look M _).1.h = _; rw [hg.cl]; exact l⟩
          | false =>
            cases eqZ q.c.kind (Int.ofNat 4) with
            | true => exact ⟨by show q.op.h = _; rw [hg.op]; rfl, by show q.cl.h = _; rw [hg.cl]; rfl⟩
            | false => exact ⟨by show q.op.h = _; rw [hg.op]; rfl, by show q.cl.h = _; rw [hg.cl]; rfl⟩
  refine l14step_ok hc sl q h8c hg hf (by omega) (by omega) fun n' H16 hn' h16 => ?_
  generalize q.step sl M (Int.ofNat k) = z at *
  obtain ⟨q', M', done⟩ := z
  simp only at *
  repeat (refine gO ?_; intros)
  refine ldRow hs (off1 k) hk ?_
  repeat (refine gO ?_; intros)
  refine ldRow h8 (off1 k) hk ?_
  repeat (refine gO ?_; intros)
  have h17 : Sat (QAt sl p q' :: MemP m M' :: RefP r M' :: SatL ((List.zipWith (QAt sl) ps all).set b Emp) :: Row bn en 0 true nv :: Own pc [u64 sl.cam, u64 sl.first, i64 sl.count, u64 sl.most] :: R) H16 := h16.ent ee
  rw [ceP_n]
  refine ran_live hc h17 hnx (by omega) ⟨by rw [hoph.1]; exact hg.hh, by rw [hoph.2]; exact hg.hh⟩ hdn2 hdn3 (List.getElem?_eq_some_iff.1 hgt).1 hp hk hn e8 e10 e12 e16 e19 e20 rfl rfl fun σ1 H1 hK h1 => kk σ1 H1 (Keep.trans ⟨rfl, rfl, rfl, rfl, rfl, rfl, rfl, rfl, rfl, rfl⟩ hK) h1
end Go.Proofs.YtocphcgcpjcfjaaGreat

set_option linter.unusedVariables false
set_option linter.unusedSimpArgs false
namespace Go.Proofs.YtocphcgcpjcfjaaGreat
open Go Go.CM
attribute [local irreducible] AsBool AsWant AsNat AsInt AsCnt AsPtr AsSlc AsLen AsStr AsAgg AsTup AsFn AsIfc Nth Sc NotNil IsNil Must Cd codeW funW Sat SatL wrapN subM mkRow ltZ leZ ltN leN
variable {con : CallT}
theorem has_ints {v : Value} {l : List Int} {L : List HP} : Has (IntsR v l :: L) (IntsR v l) := Has.here fun a t => IntsR.mono a t
theorem ceP_x {i : Nat} {f : TF → CH → Prop} {g : Nat → TF → CH → Prop} {h : TF → CH → Prop} : ceP (CE.exit i) f g h = g i := rfl
theorem ran_lp : lpAt Tryz.prog 23 0 = blkC (lpAt Tryz.prog 23 0) := by kernel_rfl
theorem ran_sl : sliceC 2 1 (blkC (lpAt Tryz.prog 23 0)) = seqL [(flatC (blkC (lpAt Tryz.prog 23 0))).getD 2 .skip] := by kernel_rfl
theorem ran_bk : (flatC (blkC (lpAt Tryz.prog 23 0))).getD 2 .skip = .block 1 (blkC ((flatC (blkC (lpAt Tryz.prog 23 0))).getD 2 .skip)) := by kernel_rfl
set_option maxRecDepth 100000 in
theorem ran_old (hc : Con con lives) {sl : SlotsS} {M : Mem} {R : List HP} {H : CH} {m r bn en pc k b i n p : Nat} {q : Q14} {nv : List Value} {ps : List Nat} {all : List Q14} {σ : TF} {Q : KX}
    (hs : Sat (SatL (List.zipWith (QAt sl) ps all) :: MemP m M :: RefP r M :: Row bn en 0 true nv :: Own pc [u64 sl.cam, u64 sl.first, i64 sl.count, u64 sl.most] :: R) H)
    (hg : q.Go sl) (hf : Fine M) (ht : M.tr.length < 900000000) (hq : all[b]? = some q) (hp : ps[b]? = some p) (hk : nv[k]? = some (ptr p 0)) (hn : nv.length = n)
    (e8 : σ 8 = ptr m 0) (e10 : σ 10 = ptr r 0) (e12 : σ 12 = ptr pc 0) (e16 : σ 16 = slc bn 0 n n) (e19 : σ 19 = iN i) (e20 : σ 20 = i64 (Int.ofNat k)) (e119 : σ 119 = .bool false)
    (kk : ∀ σ1 H1, Keep σ σ1 → Sat (SatL (List.zipWith (QAt sl) ps (all.set b ((q.step sl M (Int.ofNat k)).1.end_ (q.step sl M (Int.ofNat k)).2.2 i))) :: MemP m (q.step sl M (Int.ofNat k)).2.1 :: RefP r (q.step sl M (Int.ofNat k)).2.1 :: Row bn en 0 true (nv.set k (if (q.step sl M (Int.ofNat k)).2.2 then nilP else ptr p 0)) :: Own pc [u64 sl.cam, u64 sl.first, i64 sl.count, u64 sl.most] :: R) H1 → Q .normal σ1 H1) :
    codeW (dropC 2 (blkC ((flatC (blkC (lpAt Tryz.prog 23 0))).getD 2 .skip))) Tryz.prog con σ H Q := by
  have hkn : k < n := by have := (List.getElem?_eq_some_iff.1 hk).1; omega
  rw [codeW_cut2 2 1, l14ranB2_W, e119]
  refine AsBool.mk (Cd.f rfl ?_)
  rw [ceP_n, codeW_cut2 3 1, l14ranB3_W, e16, e20]
  repeat (refine gO ?_; intros)
  refine Must.mk (ltN_t hkn) (ldRow hs (off1 k) hk ?_)
  repeat (refine gO ?_; intros)
  rw [ceP_n, codeW_cut2 4 1, l14ranB4_W]
  refine AsBool.mk (Cd.f rfl ?_)
  rw [ceP_n]
  exact ran_step hc hs hg hf ht hq hp hk hn e8 e10 e12 e16 e19 e20 fun σ1 H1 hK h1 => kk σ1 H1 (Keep.trans ⟨rfl, rfl, rfl, rfl, rfl, rfl, rfl, rfl, rfl, rfl⟩ hK) h1
set_option maxRecDepth 100000 in
theorem ran_new (hc : Con con lives) {sl : SlotsS} {M : Mem} {R : List HP} {H : CH} {m r bn en ba ea pc p1 k i n a most : Nat} {n0 : Int} {stores : Bool} {xv xw va : Value} {calls : List (List C14)} {cs : List C14} {c : C14} {nv av : List Value} {ps : List Nat} {all : List Q14} {σ : TF} {Q : KX}
    (hs : Sat (SatL (List.zipWith (QAt sl) ps all) :: MemP m M :: RefP r M :: Row bn en 0 true nv :: Own pc [u64 sl.cam, u64 sl.first, i64 sl.count, u64 sl.most] :: Row ba ea 0 true av :: Vec va 96 1 (ps.map fun p => [ptr p 0]) :: Own p1 [i64 n0, u64 most, xv, xw] :: Thr14 xv calls :: R) H)
    (h64 : c.h < 18446744073709551616 ∧ c.st < 18446744073709551616) (hf : Fine M) (ht : M.tr.length < 900000000) (hps : ps.length = all.length) (hpl : ps.length ≤ 1048576) (hk : nv[k]? = some nilP) (hn : nv.length = n) (hn2 : av.length = n) (hcl : calls.length = n) (ha : av[k]? = some (iN a)) (ecs : calls[k]? = some cs) (ec : cs[a]? = some c) (hal : a ≤ 1048576)
    (e1 : σ 1 = .bool stores) (e2 : σ 2 = ptr p1 0) (e8 : σ 8 = ptr m 0) (e10 : σ 10 = ptr r 0) (e12 : σ 12 = ptr pc 0) (e16 : σ 16 = slc bn 0 n n) (e17 : σ 17 = slc ba 0 n n) (e18 : σ 18 = va) (e19 : σ 19 = iN i) (e20 : σ 20 = i64 (Int.ofNat k)) (e119 : σ 119 = .bool false)
    (ks : R14.skips stores c = true → ∀ σ1 H1, Keep σ σ1 → Sat (SatL (List.zipWith (QAt sl) ps all) :: MemP m M :: RefP r M :: Row bn en 0 true nv :: Own pc [u64 sl.cam, u64 sl.first, i64 sl.count, u64 sl.most] :: Row ba ea 0 true (av.set k (iN (a + 1))) :: Vec va 96 1 (ps.map fun p => [ptr p 0]) :: Own p1 [i64 n0, u64 most, xv, xw] :: Thr14 xv calls :: R) H1 → Q (.exit 1) σ1 H1)
    (kn : R14.skips stores c = false → ∀ (τ : TF) (H1 : CH) (p : Nat) (va' : Value), Keep (upd σ 18 va') τ → τ 20 = i64 (Int.ofNat k) →
      Sat (SatL (List.zipWith (QAt sl) (ps ++ [p]) (all ++ [Q14.fresh sl c i])) :: MemP m M :: RefP r M :: Row bn en 0 true (nv.set k (ptr p 0)) :: Own pc [u64 sl.cam, u64 sl.first, i64 sl.count, u64 sl.most] :: Row ba ea 0 true (av.set k (iN (a + 1))) :: Vec va' 96 1 ((ps ++ [p]).map fun p => [ptr p 0]) :: Own p1 [i64 n0, u64 most, xv, xw] :: Thr14 xv calls :: R) H1 → codeW (dropC 5 (blkC ((flatC (blkC (lpAt Tryz.prog 23 0))).getD 2 .skip))) Tryz.prog con τ H1 Q) :
    codeW (dropC 2 (blkC ((flatC (blkC (lpAt Tryz.prog 23 0))).getD 2 .skip))) Tryz.prog con σ H Q := by
  have hkn : k < n := by have := (List.getElem?_eq_some_iff.1 hk).1; omega
  have halt : a < cs.length := (List.getElem?_eq_some_iff.1 ec).1
  rw [codeW_cut2 2 1, l14ranB2_W, e119]
  refine AsBool.mk (Cd.f rfl ?_)
  rw [ceP_n, codeW_cut2 3 1, l14ranB3_W, e16, e20]
  repeat (refine gO ?_; intros)
  refine Must.mk (ltN_t hkn) (ldRow hs (off1 k) hk ?_)
  repeat (refine gO ?_; intros)
  rw [ceP_n]
  have u124 : (upd (upd (upd (upd (upd σ 120 (slc bn 0 n n)) 121 (i64 (Int.ofNat k))) 122 (ptr bn (Nat.add 0 (Nat.mul k 1)))) 123 nilP) 124 (.bool true)) 124 = .bool true := rfl
  have uK : Keep σ (upd (upd (upd (upd (upd σ 120 (slc bn 0 n n)) 121 (i64 (Int.ofNat k))) 122 (ptr bn (Nat.add 0 (Nat.mul k 1)))) 123 nilP) 124 (.bool true)) := ⟨rfl, rfl, rfl, rfl, rfl, rfl, rfl, rfl, rfl, rfl⟩
  have u20 : (upd (upd (upd (upd (upd σ 120 (slc bn 0 n n)) 121 (i64 (Int.ofNat k))) 122 (ptr bn (Nat.add 0 (Nat.mul k 1)))) 123 nilP) 124 (.bool true)) 20 = i64 (Int.ofNat k) := e20
  generalize upd (upd (upd (upd (upd σ 120 (slc bn 0 n n)) 121 (i64 (Int.ofNat k))) 122 (ptr bn (Nat.add 0 (Nat.mul k 1)))) 123 nilP) 124 (.bool true) = τ at *
  have uK' := uK
  obtain ⟨b1, b2, b6, b8, b10, b12, b16, b17, b18, b19⟩ := uK
  rw [e1] at b1; rw [e2] at b2; rw [e8] at b8; rw [e10] at b10; rw [e12] at b12; rw [e16] at b16; rw [e17] at b17; rw [e18] at b18; rw [e19] at b19
  rw [codeW_cut2 4 1, l14ranB4_W, u124, b1, b2, b12, b16, b17, b18, b19, u20]
  refine AsBool.mk (Cd.t rfl ?_)
  refine na fun p2 H3 h3 => ?_
  obtain ⟨bx, cx, csx, exv', _, ⟨xvi, ecx, hcl'⟩, hldx⟩ := rows_at h3 (Has.skip (Has.skip (Has.skip (Has.skip (Has.skip (Has.skip (Has.skip (Has.skip (Has.skip has_thr14))))))))) ecs
  have hkc : k < calls.length := by omega
  repeat (refine gO ?_; intros)
  refine AsSlc.eq exv' ?_
  repeat (refine gO ?_; intros)
  refine Must.mk (ltN_t hkc) (hldx _ 0 _ _ (by show 0 + k * 1 = _; omega) (by rw [ecx]; rfl) ?_)
  repeat (refine gO ?_; intros)
  refine Must.mk (ltN_t hkn) (ldRow h3 (off1 k) ha ?_)
  obtain ⟨bi, ci', cc, exi', _, ecc, hldc⟩ := rows_at' hcl' ec
  refine AsSlc.eq exi' ?_
  repeat (refine gO ?_; intros)
  refine Must.mk (ltN_t halt) ?_
  refine hldc _ 0 _ _ (by show 0 + a * 3 + 0 = _; omega) (by rw [ecc]; rfl) ?_
  refine hldc _ 1 _ _ (by show 0 + a * 3 + 1 = _; omega) (by rw [ecc]; rfl) ?_
  refine hldc _ 2 _ _ (by show 0 + a * 3 + 2 = _; omega) (by rw [ecc]; rfl) ?_
  refine stN h3 (Nat.le_of_ble_eq_true rfl) rfl fun H27 h27 => ?_
  repeat (refine gO ?_; intros)
  refine Must.mk (ltN_t hkn) (ldRow h27 (off1 k) ha ?_)
  repeat (refine gO ?_; intros)
  try rw [addInt]
  refine inR_nat (by omega) ?_
  repeat (refine gO ?_; intros)
  refine Must.mk (ltN_t hkn) (st h27 (by rw [off1]; omega) rfl fun H40 h40 => ?_)
  rw [off1] at h40
  repeat (refine gO ?_; intros)
  cases e4 : eqZ c.kind (Int.ofNat 4) with
  | true =>
    refine Cd.t rfl ?_
    repeat (refine gO ?_; intros)
    cases stores with
    | false =>
      refine Cd.t rfl ?_
      rw [ceP_x]
      exact ks (by unfold R14.skips; rw [e4]; rfl) _ _ (Keep.trans uK' ⟨rfl, rfl, rfl, rfl, rfl, rfl, rfl, rfl, rfl, rfl⟩) (h40.ent ee)
    | true =>
      refine Cd.f rfl ?_
      have hsk : R14.skips true c = false := by unfold R14.skips; rw [e4]; rfl
      repeat (refine gO ?_; intros)
      refine l14begin_ok hc sl c (i := i) h40 fun p H54 h54 => ?_
      repeat (refine gO ?_; intros)
      refine Must.mk (ltN_t hkn) (Sc.mk rfl (st h54 (by rw [off1]; omega) rfl fun H60 h60 => ?_))
      rw [off1] at h60
      have hk' : (nv.set k (ptr p 0))[k]? = some (ptr p 0) := List.getElem?_set_self (by omega)
      repeat (refine gO ?_; intros)
      refine Must.mk (ltN_t hkn) (ldRow h60 (off1 k) hk' ?_)
      obtain ⟨u1, u2, s1, s2, d, ⟨p3, p4, p5, p6, p7, gg, sn, oA, oS, oE, cA, cE, ⟨hg1, hj, hoo, hcc⟩, hin⟩, hR⟩ := h60.opens Pull.here
      have h61 := Sat.merge s1 s2 d hin hR
      simp only [List.cons_append, List.nil_append] at h61
      repeat (refine gO ?_; intros)
      rename_i H69 h69
      replace h69 : Sat ([Own p (qC sl (Q14.fresh sl c i) p3 p4 p5 p6 p7 oA oS oE cA cE (Int.negSucc 0)), Own p3 (snapC (Q14.fresh sl c i).s.sn.at_ (Q14.fresh sl c i).s.sn gg), Own p4 (letC (Q14.lt sl (Q14.fresh sl c i)) sn), Own p5 (askC (Q14.fresh sl c i).op []), Own p6 (askC (Q14.fresh sl c i).cl [u64 (Q14.fresh sl c i).c.st]), RAt13 p7 (Q14.fresh sl c i).s] ++ (Row ba ea 0 true (av.set k (iN (a + 1))) :: Own p2 [i64 c.kind, u64 c.h, u64 c.st] :: SatL (List.zipWith (QAt sl) ps all) :: MemP m M :: RefP r M :: Row bn en 0 true (nv.set k (ptr p 0)) :: Own pc [u64 sl.cam, u64 sl.first, i64 sl.count, u64 sl.most] :: Vec va 96 1 (ps.map fun p => [ptr p 0]) :: Own p1 [i64 n0, u64 most, xv, xw] :: Thr14 xv calls :: R)) H69 := Sat.ent h69 ee
      have h70 : Sat (QAt sl p (Q14.fresh sl c i) :: _) H69 := h69.close fun g0 a => ⟨p3, p4, p5, p6, p7, gg, sn, oA, oS, oE, cA, cE, ⟨hg1, hj, hoo, hcc⟩, a⟩
      refine Must.mk (ltN_t hkn) (ldRow h70 (off1 k) hk' ?_)
      repeat (refine gO ?_; intros)
      rename_i p76 H77 h77
      refine app_vec (new := [[ptr p 0]]) h77 pp el_q (by omega) sl_q (Src.cell (n := 1) (by rfl)) rfl (by simp) (by simp; omega) rfl fun va' H79 h79 => ?_
      rw [ceP_n]
      rw [show (ps.map fun p => [ptr p 0]) ++ [[ptr p 0]] = (ps ++ [p]).map fun p => [ptr p 0] from by simp] at h79
      have h80 : Sat (QAt sl p (Q14.fresh sl c i) :: SatL (List.zipWith (QAt sl) ps all) :: _) H79 := Sat.takes h79 (.cons pp (.cons pp .nil))
      have h81 := h80.snoc
      rw [show List.zipWith (QAt sl) ps all ++ [QAt sl p (Q14.fresh sl c i)] = List.zipWith (QAt sl) (ps ++ [p]) (all ++ [Q14.fresh sl c i]) from by rw [List.zipWith_append hps]; rfl] at h81
      exact kn hsk _ H79 p va' ⟨uK'.1, uK'.2.1, uK'.2.2.1, uK'.2.2.2.1, uK'.2.2.2.2.1, uK'.2.2.2.2.2.1, uK'.2.2.2.2.2.2.1, uK'.2.2.2.2.2.2.2.1, rfl, uK'.2.2.2.2.2.2.2.2.2⟩ u20 (h81.ent ee)
  | false =>
    refine Cd.f rfl ?_
    have hsk : R14.skips stores c = false := by unfold R14.skips; rw [e4]; rfl
    repeat (refine gO ?_; intros)
    refine l14begin_ok hc sl c (i := i) h40 fun p H54 h54 => ?_
    repeat (refine gO ?_; intros)
    refine Must.mk (ltN_t hkn) (Sc.mk rfl (st h54 (by rw [off1]; omega) rfl fun H60 h60 => ?_))
    rw [off1] at h60
    have hk' : (nv.set k (ptr p 0))[k]? = some (ptr p 0) := List.getElem?_set_self (by omega)
    repeat (refine gO ?_; intros)
    refine Must.mk (ltN_t hkn) (ldRow h60 (off1 k) hk' ?_)
    obtain ⟨u1, u2, s1, s2, d, ⟨p3, p4, p5, p6, p7, gg, sn, oA, oS, oE, cA, cE, ⟨hg1, hj, hoo, hcc⟩, hin⟩, hR⟩ := h60.opens Pull.here
    have h61 := Sat.merge s1 s2 d hin hR
    simp only [List.cons_append, List.nil_append] at h61
    repeat (refine gO ?_; intros)
    rename_i H69 h69
    replace h69 : Sat ([Own p (qC sl (Q14.fresh sl c i) p3 p4 p5 p6 p7 oA oS oE cA cE (Int.negSucc 0)), Own p3 (snapC (Q14.fresh sl c i).s.sn.at_ (Q14.fresh sl c i).s.sn gg), Own p4 (letC (Q14.lt sl (Q14.fresh sl c i)) sn), Own p5 (askC (Q14.fresh sl c i).op []), Own p6 (askC (Q14.fresh sl c i).cl [u64 (Q14.fresh sl c i).c.st]), RAt13 p7 (Q14.fresh sl c i).s] ++ (Row ba ea 0 true (av.set k (iN (a + 1))) :: Own p2 [i64 c.kind, u64 c.h, u64 c.st] :: SatL (List.zipWith (QAt sl) ps all) :: MemP m M :: RefP r M :: Row bn en 0 true (nv.set k (ptr p 0)) :: Own pc [u64 sl.cam, u64 sl.first, i64 sl.count, u64 sl.most] :: Vec va 96 1 (ps.map fun p => [ptr p 0]) :: Own p1 [i64 n0, u64 most, xv, xw] :: Thr14 xv calls :: R)) H69 := Sat.ent h69 ee
    have h70 : Sat (QAt sl p (Q14.fresh sl c i) :: _) H69 := h69.close fun g0 a => ⟨p3, p4, p5, p6, p7, gg, sn, oA, oS, oE, cA, cE, ⟨hg1, hj, hoo, hcc⟩, a⟩
    refine Must.mk (ltN_t hkn) (ldRow h70 (off1 k) hk' ?_)
    repeat (refine gO ?_; intros)
    rename_i p76 H77 h77
    refine app_vec (new := [[ptr p 0]]) h77 pp el_q (by omega) sl_q (Src.cell (n := 1) (by rfl)) rfl (by simp) (by simp; omega) rfl fun va' H79 h79 => ?_
    rw [ceP_n]
    rw [show (ps.map fun p => [ptr p 0]) ++ [[ptr p 0]] = (ps ++ [p]).map fun p => [ptr p 0] from by simp] at h79
    have h80 : Sat (QAt sl p (Q14.fresh sl c i) :: SatL (List.zipWith (QAt sl) ps all) :: _) H79 := Sat.takes h79 (.cons pp (.cons pp .nil))
    have h81 := h80.snoc
    rw [show List.zipWith (QAt sl) ps all ++ [QAt sl p (Q14.fresh sl c i)] = List.zipWith (QAt sl) (ps ++ [p]) (all ++ [Q14.fresh sl c i]) from by rw [List.zipWith_append hps]; rfl] at h81
    exact kn hsk _ H79 p va' ⟨uK'.1, uK'.2.1, uK'.2.2.1, uK'.2.2.2.1, uK'.2.2.2.2.1, uK'.2.2.2.2.2.1, uK'.2.2.2.2.2.2.1, uK'.2.2.2.2.2.2.2.1, rfl, uK'.2.2.2.2.2.2.2.2.2⟩ u20 (h81.ent ee)
set_option maxRecDepth 100000 in
theorem ran_pick (hc : Con con lives) {sl : SlotsS} {calls : List (List C14)} (hc64 : Calls64b calls) {stores : Bool} {g : R14} (W : WF14 sl calls g) {R : List HP} {H : CH} {m r bn en ba ea pc p1 p3 j n most : Nat} {n0 : Int} {va xv xw : Value} {nv : List Value} {ps : List Nat} {t : Int} {picks : List Int} {σ : TF} {Q : KX}
    (hn : n = calls.length) (hl1 : calls.length ≤ 1048576) (hl2 : ∀ cs ∈ calls, cs.length ≤ 1048576) (hnw : Now2 ps g.now nv) (hps : ps.length = g.all.length) (hj : j < picks.length) (hpc : picks.length ≤ 1048576) (et : picks[j]? = some t) (htr : g.M.tr.length ≤ 10 + j) (hal : g.all.length ≤ j)
    (hs : Sat (MemP m g.M :: RefP r g.M :: Row bn en 0 true nv :: Row ba ea 0 true (g.at_.map iN) :: Vec va 96 1 (ps.map fun p => [ptr p 0]) :: SatL (List.zipWith (QAt sl) ps g.all) :: Own pc [u64 sl.cam, u64 sl.first, i64 sl.count, u64 sl.most] :: Own p1 [i64 n0, u64 most, xv, xw] :: Thr14 xv calls :: IntsR xw picks :: R) H)
    (a1 : σ 1 = .bool stores) (a2 : σ 2 = ptr p1 0) (a6 : σ 6 = ptr p3 0) (a8 : σ 8 = ptr m 0) (a10 : σ 10 = ptr r 0) (a12 : σ 12 = ptr pc 0) (a16 : σ 16 = slc bn 0 n n) (a17 : σ 17 = slc ba 0 n n) (a18 : σ 18 = va) (a19 : σ 19 = iN j)
    (kk : ∀ σ1 H1 ps' va' nv', σ1 1 = .bool stores → σ1 2 = ptr p1 0 → σ1 6 = ptr p3 0 → σ1 8 = ptr m 0 → σ1 10 = ptr r 0 → σ1 12 = ptr pc 0 → σ1 16 = slc bn 0 n n → σ1 17 = slc ba 0 n n → σ1 18 = va' → σ1 19 = iN (j + 1) → Now2 ps' (g.pick sl calls stores j t).now nv' → ps'.length = (g.pick sl calls stores j t).all.length →
      ∀
      (h1 : Sat (MemP m (g.pick sl calls stores j t).M :: RefP r (g.pick sl calls stores j t).M :: Row bn en 0 true nv' :: Row ba ea 0 true ((g.pick sl calls stores j t).at_.map iN) :: Vec va' 96 1 (ps'.map fun p => [ptr p 0]) :: SatL (List.zipWith (QAt sl) ps' (g.pick sl calls stores j t).all) :: Own pc [u64 sl.cam, u64 sl.first, i64 sl.count, u64 sl.most] :: Own p1 [i64 n0, u64 most, xv, xw] :: Thr14 xv calls :: IntsR xw picks :: R) H1)
      , Q .normal σ1 H1) :
    codeW (lpAt Tryz.prog 23 0) Tryz.prog con σ H Q := by
  obtain ⟨bw, cw, csw, ewx, _, ecw, hldw⟩ := rows_at hs (Has.skip (Has.skip (Has.skip (Has.skip (Has.skip (Has.skip (Has.skip (Has.skip (Has.skip has_ints))))))))) et
  obtain ⟨pxv, cxv, exv⟩ := (hs.has (Has.skip (Has.skip (Has.skip (Has.skip (Has.skip (Has.skip (Has.skip (Has.skip has_thr14))))))))).len
  rw [ran_lp, codeW_cut 2, l14ranA_W, a2, a19]
  repeat (refine gO ?_; intros)
  refine AsLen.eq ewx ?_
  repeat (refine gO ?_; intros)
  refine Cd.t (ltZ_t hj) ?_
  rw [ceP_n, codeW_cut2 2 1, ran_sl, codeW_one, codeW_blk (id := 1) ran_bk]
  have post : ∀ (σ1 : TF) (H1 : CH), σ1 19 = iN j → Q .normal (upd (upd (upd σ1 84 (iN j)) 85 (iN (j + 1))) 19 (iN (j + 1))) H1 → codeW (dropC (2 + 1) (blkC (lpAt Tryz.prog 23 0))) Tryz.prog con σ1 H1 Q := fun σ1 H1 e h => by
    rw [l14ranZ_W, e]
    repeat (refine gO ?_; intros)
    try rw [addInt]
    refine inR_nat (by omega) ?_
    repeat (refine gO ?_; intros)
    exact h
  have K19 : ∀ {σ1 : TF}, Keep σ σ1 → σ1 19 = iN j := fun h => h.2.2.2.2.2.2.2.2.2.trans a19
  have idle : ∀ (σ1 : TF), g.pick sl calls stores j t = g → Keep σ σ1 → codeW (dropC (2 + 1) (blkC (lpAt Tryz.prog 23 0))) Tryz.prog con σ1 H Q := fun σ1 hp hK => by
    refine post σ1 H (K19 hK) ?_
    obtain ⟨b1, b2, b6, b8, b10, b12, b16, b17, b18, b19⟩ := hK
    rw [hp] at kk
    exact kk _ H ps va nv (b1.trans a1) (b2.trans a2) (b6.trans a6) (b8.trans a8) (b10.trans a10) (b12.trans a12) (b16.trans a16) (b17.trans a17) (b18.trans a18) rfl hnw hps hs
  rw [codeW_cut 1, l14ranB0_W]
  have u2 : (upd (upd (upd (upd (upd σ 79 (iN j)) 80 (ptr p1 (Nat.add 0 3))) 81 xw) 82 (iN picks.length)) 83 (.bool (ltZ (Int.ofNat j) (Int.ofNat picks.length)))) 2 = ptr p1 0 := a2
  have u19 : (upd (upd (upd (upd (upd σ 79 (iN j)) 80 (ptr p1 (Nat.add 0 3))) 81 xw) 82 (iN picks.length)) 83 (.bool (ltZ (Int.ofNat j) (Int.ofNat picks.length)))) 19 = iN j := a19
  have uK : Keep σ (upd (upd (upd (upd (upd σ 79 (iN j)) 80 (ptr p1 (Nat.add 0 3))) 81 xw) 82 (iN picks.length)) 83 (.bool (ltZ (Int.ofNat j) (Int.ofNat picks.length)))) := ⟨rfl, rfl, rfl, rfl, rfl, rfl, rfl, rfl, rfl, rfl⟩
  generalize upd (upd (upd (upd (upd σ 79 (iN j)) 80 (ptr p1 (Nat.add 0 3))) 81 xw) 82 (iN picks.length)) 83 (.bool (ltZ (Int.ofNat j) (Int.ofNat picks.length))) = τ at *
  rw [u2, u19]
  repeat (refine gO ?_; intros)
  refine AsSlc.eq ewx ?_
  repeat (refine gO ?_; intros)
  refine Must.mk (ltN_t hj) ?_
  refine hldw _ 0 _ _ (by show 0 + j * 1 = _; omega) (by rw [ecw]; rfl) ?_
  rw [ceP_n]
  have vK : Keep σ (upd (upd (upd (upd (upd (upd τ 86 (ptr p1 (Nat.add 0 3))) 87 xw) 88 (iN j)) 89 (ptr bw (Nat.add 0 (Nat.mul j 1)))) 90 (i64 t)) 20 (i64 t)) := Keep.trans uK ⟨rfl, rfl, rfl, rfl, rfl, rfl, rfl, rfl, rfl, rfl⟩
  have v20 : (upd (upd (upd (upd (upd (upd τ 86 (ptr p1 (Nat.add 0 3))) 87 xw) 88 (iN j)) 89 (ptr bw (Nat.add 0 (Nat.mul j 1)))) 90 (i64 t)) 20 (i64 t)) 20 = i64 t := rfl
  generalize (upd (upd (upd (upd (upd (upd τ 86 (ptr p1 (Nat.add 0 3))) 87 xw) 88 (iN j)) 89 (ptr bw (Nat.add 0 (Nat.mul j 1)))) 90 (i64 t)) 20 (i64 t)) = ρ at *
  clear u2 u19 uK
  have vK' := vK
  obtain ⟨b1, b2, b6, b8, b10, b12, b16, b17, b18, b19⟩ := vK
  rw [a1] at b1; rw [a2] at b2; rw [a6] at b6; rw [a8] at b8; rw [a10] at b10; rw [a12] at b12; rw [a16] at b16; rw [a17] at b17; rw [a18] at b18; rw [a19] at b19
  rw [codeW_cut2 1 1, l14ranB1_W, b2, b16, b17, v20]
  repeat (refine gO ?_; intros)
  cases t with
  | negSucc z =>
    refine Cd.t ltZ_neg ?_
    rw [ceP_n, codeW_cut2 2 1, l14ranB2_W]
    refine AsBool.mk (Cd.t rfl ?_)
    rw [ceP_x, ceP_x]
    refine Cd.t (eqN_self 1) ?_
    rw [ceP_n]
    exact idle _ rfl (Keep.trans vK' ⟨rfl, rfl, rfl, rfl, rfl, rfl, rfl, rfl, rfl, rfl⟩)
  | ofNat k =>
    refine Cd.f (ltZ_f (Nat.zero_le _)) ?_
    repeat (refine gO ?_; intros)
    refine AsLen.eq exv ?_
    repeat (refine gO ?_; intros)
    by_cases hk : k < calls.length
    · refine Cd.f (leZ_f hk) ?_
      obtain ⟨cs, ecs⟩ : ∃ x, calls[k]? = some x := ⟨_, List.getElem?_eq_getElem hk⟩
      obtain ⟨nw, enw⟩ : ∃ x, g.now[k]? = some x := ⟨_, List.getElem?_eq_getElem (by have := W.len; omega)⟩
      obtain ⟨a, eat⟩ : ∃ x, g.at_[k]? = some x := ⟨_, List.getElem?_eq_getElem (by have := W.len2; omega)⟩
      obtain ⟨v, ev⟩ : ∃ x, nv[k]? = some x := ⟨_, List.getElem?_eq_getElem (by have := W.len; have := hnw.1; omega)⟩
      have hR := hnw.2 k nw v enw ev
      have hkn : k < n := by omega
      have hnn : nv.length = n := by have := hnw.1; have := W.len; omega
      have hat : (g.at_.map iN)[k]? = some (iN a) := by rw [List.getElem?_map, eat]; rfl
      repeat (refine gO ?_; intros)
      refine Must.mk (ltN_t hkn) (ldRow hs (off1 k) ev ?_)
      cases nw with
      | some b =>
        obtain ⟨p, ep, rfl⟩ := hR
        obtain ⟨q, eq, hq, _⟩ := W.cur k b enw
        repeat (refine gO ?_; intros)
        rw [ceP_n]
        have h2 : Sat (SatL (List.zipWith (QAt sl) ps g.all) :: MemP m g.M :: RefP r g.M :: Row bn en 0 true nv :: Own pc [u64 sl.cam, u64 sl.first, i64 sl.count, u64 sl.most] :: Row ba ea 0 true (g.at_.map iN) :: Vec va 96 1 (ps.map fun p => [ptr p 0]) :: Own p1 [i64 n0, u64 most, xv, xw] :: Thr14 xv calls :: IntsR xw picks :: R) H := hs.ent ee
        have hp : g.pick sl calls stores j (Int.ofNat k) = g.go sl j k b q g.at_ g.all := by simp only [R14.pick, ecs, enw, eat, eq]
        rw [hp] at kk
        simp only [R14.go] at kk
        refine ran_old hc h2 hq W.fine (by omega) eq ep ev hnn b8 b10 b12 b16 b19 v20 rfl fun σ1 H1 hK h1 => ?_
        have hK2 : Keep ρ σ1 := Keep.trans ⟨rfl, rfl, rfl, rfl, rfl, rfl, rfl, rfl, rfl, rfl⟩ hK
        show ceP CE.normal _ _ _ σ1 H1
        rw [ceP_n, ceP_n]
        refine post σ1 H1 (K19 (vK'.trans hK2)) ?_
        obtain ⟨c1, c2, c6, c8, c10, c12, c16, c17, c18, c19⟩ := hK2
        refine kk _ H1 ps va (nv.set k (if (q.step sl g.M (Int.ofNat k)).2.2 then nilP else ptr p 0)) (c1.trans b1) (c2.trans b2) (c6.trans b6) (c8.trans b8) (c10.trans b10) (c12.trans b12) (c16.trans b16) (c17.trans b17) (c18.trans b18) rfl (hnw.set k ?_) (by rw [List.length_set]; exact hps) (h1.ent ee)
        cases (q.step sl g.M (Int.ofNat k)).2.2 with
        | true => exact rfl
        | false => exact ⟨p, ep, rfl⟩
      | none =>
        obtain rfl : v = nilP := hR
        repeat (refine gO ?_; intros)
        refine Must.mk (ltN_t hkn) (ldRow hs (off1 k) hat ?_)
        obtain ⟨bx, cx, csx, exv', _, ⟨xvi, ecx, hcl'⟩, hldx⟩ := rows_at hs (Has.skip (Has.skip (Has.skip (Has.skip (Has.skip (Has.skip (Has.skip (Has.skip has_thr14)))))))) ecs
        obtain ⟨pi, ci, exi⟩ := RowsR.len hcl'
        repeat (refine gO ?_; intros)
        refine AsSlc.eq exv' ?_
        repeat (refine gO ?_; intros)
        refine Must.mk (ltN_t hk) (hldx _ 0 _ _ (by show 0 + k * 1 = _; omega) (by rw [ecx]; rfl) ?_)
        refine AsLen.eq exi ?_
        repeat (refine gO ?_; intros)
        rw [ceP_n]
        have hcsl := hl2 cs (List.mem_of_getElem? ecs)
        by_cases hlt : a < cs.length
        · obtain ⟨c, ec⟩ : ∃ c, cs[a]? = some c := ⟨_, List.getElem?_eq_getElem hlt⟩
          have h64 := hc64 cs (List.mem_of_getElem? ecs) c (List.mem_of_getElem? ec)
          have h2 : Sat (SatL (List.zipWith (QAt sl) ps g.all) :: MemP m g.M :: RefP r g.M :: Row bn en 0 true nv :: Own pc [u64 sl.cam, u64 sl.first, i64 sl.count, u64 sl.most] :: Row ba ea 0 true (g.at_.map iN) :: Vec va 96 1 (ps.map fun p => [ptr p 0]) :: Own p1 [i64 n0, u64 most, xv, xw] :: Thr14 xv calls :: IntsR xw picks :: R) H := hs.ent ee
          have ems : (g.at_.map iN).set k (iN (a + 1)) = (g.at_.set k (a + 1)).map iN := by rw [List.map_set]
          refine ran_new hc h2 h64 W.fine (by omega) hps (by omega) ev hnn (by rw [List.length_map]; have := W.len2; omega) (by omega) hat ecs ec (by omega) b1 b2 b8 b10 b12 b16 b17 b18 b19 v20 (by show Value.bool (leZ _ _) = _; rw [leZ_f hlt]) (fun hsk σ1 H1 hK h1 => ?_) (fun hsk τ' H1 p va' hK e20 h1 => ?_)
          · have hK2 : Keep ρ σ1 := Keep.trans ⟨rfl, rfl, rfl, rfl, rfl, rfl, rfl, rfl, rfl, rfl⟩ hK
            show ceP (CE.exit 1) _ _ _ σ1 H1
            rw [ceP_x]
            refine Cd.t (eqN_self 1) ?_
            rw [ceP_n]
            refine post σ1 H1 (K19 (vK'.trans hK2)) ?_
            have hp : g.pick sl calls stores j (Int.ofNat k) = { g with at_ := g.at_.set k (a + 1) } := by simp only [R14.pick, ecs, enw, eat, ec, hsk, if_true]
            rw [hp] at kk
            obtain ⟨c1, c2, c6, c8, c10, c12, c16, c17, c18, c19⟩ := hK2
            rw [ems] at h1
            exact kk _ H1 ps va nv (c1.trans b1) (c2.trans b2) (c6.trans b6) (c8.trans b8) (c10.trans b10) (c12.trans b12) (c16.trans b16) (c17.trans b17) (c18.trans b18) rfl hnw hps (h1.ent ee)
          · have hp : g.pick sl calls stores j (Int.ofNat k) = g.go sl j k g.all.length (Q14.fresh sl c j) (g.at_.set k (a + 1)) (g.all ++ [Q14.fresh sl c j]) := by simp only [R14.pick, ecs, enw, eat, ec, hsk, Bool.false_eq_true, if_false]
            rw [hp] at kk
            simp only [R14.go] at kk
            obtain ⟨c1, c2, c6, c8, c10, c12, c16, c17, c18, c19⟩ := hK
            have hgo := go_fresh sl h64.1 h64.2 j
            have ep : (ps ++ [p])[g.all.length]? = some p := by rw [← hps, List.getElem?_append_right (Nat.le_refl _)]; simp
            have hk' : (nv.set k (ptr p 0))[k]? = some (ptr p 0) := List.getElem?_set_self (by omega)
            have h3 : Sat (SatL (List.zipWith (QAt sl) (ps ++ [p]) (g.all ++ [Q14.fresh sl c j])) :: MemP m g.M :: RefP r g.M :: Row bn en 0 true (nv.set k (ptr p 0)) :: Own pc [u64 sl.cam, u64 sl.first, i64 sl.count, u64 sl.most] :: Row ba ea 0 true ((g.at_.map iN).set k (iN (a + 1))) :: Vec va' 96 1 ((ps ++ [p]).map fun p => [ptr p 0]) :: Own p1 [i64 n0, u64 most, xv, xw] :: Thr14 xv calls :: IntsR xw picks :: R) H1 := h1
            refine ran_step hc h3 hgo W.fine (by omega) (b := g.all.length) (by rw [List.getElem?_append_right (Nat.le_refl _)]; simp) ep hk' (by rw [List.length_set]; exact hnn) (c8.trans b8) (c10.trans b10) (c12.trans b12) (c16.trans b16) (c19.trans b19) e20 fun σ1 H2 hK h4 => ?_
            show ceP CE.normal _ _ _ σ1 H2
            rw [ceP_n, ceP_n]
            obtain ⟨d1, d2, d6, d8, d10, d12, d16, d17, d18, d19⟩ := hK
            refine post σ1 H2 (d19.trans (c19.trans b19)) ?_
            rw [ems, List.set_set] at h4
            refine kk _ H2 (ps ++ [p]) va' (nv.set k (if ((Q14.fresh sl c j).step sl g.M (Int.ofNat k)).2.2 then nilP else ptr p 0)) (d1.trans (c1.trans b1)) (d2.trans (c2.trans b2)) (d6.trans (c6.trans b6)) (d8.trans (c8.trans b8)) (d10.trans (c10.trans b10)) (d12.trans (c12.trans b12)) (d16.trans (c16.trans b16)) (d17.trans (c17.trans b17)) (d18.trans c18) rfl ((hnw.mono p).set k ?_) (by simp [hps]) (h4.ent ee)
            cases ((Q14.fresh sl c j).step sl g.M (Int.ofNat k)).2.2 with
            | true => exact rfl
            | false => exact ⟨p, ep, rfl⟩
        · rw [codeW_cut2 2 1, l14ranB2_W]
          refine AsBool.mk (Cd.t (leZ_t (by omega)) ?_)
          rw [ceP_x, ceP_x]
          refine Cd.t (eqN_self 1) ?_
          rw [ceP_n]
          refine idle _ ?_ (Keep.trans vK' ⟨rfl, rfl, rfl, rfl, rfl, rfl, rfl, rfl, rfl, rfl⟩)
          have e : cs[a]? = none := List.getElem?_eq_none (by omega)
          simp only [R14.pick, ecs, enw, eat, e]
    · refine Cd.t (leZ_t (by omega)) ?_
      rw [ceP_n, codeW_cut2 2 1, l14ranB2_W]
      refine AsBool.mk (Cd.t rfl ?_)
      rw [ceP_x, ceP_x]
      refine Cd.t (eqN_self 1) ?_
      rw [ceP_n]
      refine idle _ ?_ (Keep.trans vK' ⟨rfl, rfl, rfl, rfl, rfl, rfl, rfl, rfl, rfl, rfl⟩)
      have e : calls[k]? = none := List.getElem?_eq_none (by omega)
      simp only [R14.pick, e]
end Go.Proofs.YtocphcgcpjcfjaaGreat

set_option linter.unusedVariables false
set_option linter.unusedSimpArgs false
namespace Go.Proofs.YtocphcgcpjcfjaaGreat
open Go Go.CM
attribute [local irreducible] AsBool AsWant AsNat AsInt AsCnt AsPtr AsSlc AsLen AsStr AsAgg AsTup AsFn AsIfc Nth Sc NotNil IsNil Must Cd codeW funW Sat SatL wrapN subM mkRow ltZ leZ ltN leN
variable {con : CallT}
set_option maxRecDepth 100000 in
/-- Two traces that are the same; the first is let go. -/
theorem sameAcs_ok (hc : Con con lives) {L R1 R2 : List HP} {H : CH} {x y : Value} {e e' : Nat} {l : List Acs} {K : KP} (hs : Sat L H) (hp : Pull L (TrAt x e l) R1) (hq : Pull R1 (TrAt y e' l) R2) (hl : l.length ≤ 1000000000) (hvl : ∀ a ∈ l, a.vals.length ≤ 1000000000) (k : ∀ H1, Sat (TrAt y e' l :: R2) H1 → K (.bool true) H1) :
    Call1 Tryz.prog con 75 [x, y] H K := by
  refine call_of (hc _ _ _ rfl) ?_
  rw [sameAcs_W]
  have hs0 := hs.takes (.cons hp (.cons hq .nil))
  simp only [List.cons_append, List.nil_append] at hs0
  obtain ⟨h1, h2, s1, s2, d, ⟨vs, hvs, hva⟩, hR⟩ := hs0.opens Pull.here
  have hsa := Sat.merge s1 s2 d hva hR
  have hsb : Sat (TrAt y e' l :: (Vec x e 8 (List.zipWith encA l vs) :: valsL l vs ++ R2)) H := by
    refine hsa.pull ?_
    have pu : ∀ (L1 : List HP), Pull (L1 ++ (TrAt y e' l :: R2)) (TrAt y e' l) (L1 ++ R2) := fun L1 => by
      induction L1 with
      | nil => exact Pull.here
      | cons A L1 ih => exact Pull.there ih
    exact pu _
  obtain ⟨g1, g2, t1, t2, d2, ⟨ws, hws, hb⟩, hR2⟩ := hsb.opens Pull.here
  have hs1 := Sat.merge t1 t2 d2 hb hR2
  have hV : Has (Vec y e' 8 (List.zipWith encA l ws) :: valsL l ws ++ (Vec x e 8 (List.zipWith encA l vs) :: valsL l vs ++ R2)) (Vec x e 8 (List.zipWith encA l vs)) := Has.app Has.vec
  have hW : Has (Vec y e' 8 (List.zipWith encA l ws) :: valsL l ws ++ (Vec x e 8 (List.zipWith encA l vs) :: valsL l vs ++ R2)) (Vec y e' 8 (List.zipWith encA l ws)) := Has.vec
  have hNv : ∀ (i : Nat) (c : Acs) (v : Value), l[i]? = some c → vs[i]? = some v → Has (Vec y e' 8 (List.zipWith encA l ws) :: valsL l ws ++ (Vec x e 8 (List.zipWith encA l vs) :: valsL l vs ++ R2)) (Nums v c.vals) := fun i c v h1 h2 => Has.app (Has.skip (Has.vals h1 h2))
  have hNw : ∀ (i : Nat) (c : Acs) (v : Value), l[i]? = some c → ws[i]? = some v → Has (Vec y e' 8 (List.zipWith encA l ws) :: valsL l ws ++ (Vec x e 8 (List.zipWith encA l vs) :: valsL l vs ++ R2)) (Nums v c.vals) := fun i c v h1 h2 => Has.skip (Has.vals h1 h2)
  have hend : ∀ {H1}, Sat (Vec y e' 8 (List.zipWith encA l ws) :: valsL l ws ++ (Vec x e 8 (List.zipWith encA l vs) :: valsL l vs ++ R2)) H1 → Sat (TrAt y e' l :: R2) H1 := fun h => by
    have dr : ∀ (L1 : List HP) {R : List HP} {h : PH}, SatL (L1 ++ R) h → SatL R h := fun L1 => by
      induction L1 with
      | nil => exact fun h => h
      | cons A L1 ih => exact fun h => ih (SatL.drop h)
    have h2 : Sat (TrAt y e' l :: (Vec x e 8 (List.zipWith encA l vs) :: valsL l vs ++ R2)) _ := Sat.close (L1 := Vec y e' 8 (List.zipWith encA l ws) :: valsL l ws) h fun g a => ⟨ws, hws, a⟩
    exact Sat.mk (SatL.under (fun g a => dr _ a) (Sat.out h2))
  generalize (Vec y e' 8 (List.zipWith encA l ws) :: valsL l ws ++ (Vec x e 8 (List.zipWith encA l vs) :: valsL l vs ++ R2)) = L' at hs1 hV hW hNv hNw hend
  have lv : (List.zipWith encA l vs).length = l.length := by rw [List.length_zipWith, hvs, Nat.min_self]
  have lw : (List.zipWith encA l ws).length = l.length := by rw [List.length_zipWith, hws, Nat.min_self]
  obtain ⟨px, ex⟩ := (hs1.has hV).shape
  obtain ⟨py, ey⟩ := (hs1.has hW).shape
  rw [lv] at ex
  rw [lw] at ey
  subst ex; subst ey
  repeat (refine gO ?_; intros)
  refine Cd.f (by rw [eqZ_self]; rfl) ?_
  refine LoopC.ind (n := 300) (by kernel_rfl) (fun (i : Nat) σ H => σ 0 = .slice px l.length l.length ∧ σ 1 = .slice py l.length l.length ∧ σ 5 = iN i ∧ i ≤ l.length ∧ Sat L' H) (fun i => l.length - i) (fun i σ H hI => ?_) 0 _ _ ⟨rfl, rfl, rfl, Nat.zero_le _, hs1⟩
  obtain ⟨e0, e1, e5, hi, hs2⟩ := hI
  rw [sameAcsL_W]
  simp only [e0, e1, e5]
  repeat (refine gO ?_; intros)
  rcases Nat.lt_or_ge i l.length with hlt | hge
  · refine Cd.t (ltZ_t (by omega)) ?_
    obtain ⟨a, ha⟩ : ∃ a, l[i]? = some a := ⟨_, List.getElem?_eq_getElem hlt⟩
    obtain ⟨v, hv⟩ : ∃ v, vs[i]? = some v := ⟨_, List.getElem?_eq_getElem (by omega)⟩
    obtain ⟨w, hw⟩ : ∃ w, ws[i]? = some w := ⟨_, List.getElem?_eq_getElem (by omega)⟩
    have hne : l ≠ [] := by rintro rfl; simp at hlt
    have ox : ∃ b, Value.slice px l.length l.length = slc b 0 l.length l.length := by
      rcases (hs2.has hV).2 with ⟨e1, e2⟩ | ⟨b, _, e2, _⟩
      · have e3 : l.length = 0 := by injection e1
        omega
      · rw [lv] at e2; exact ⟨b, e2⟩
    have oy : ∃ b, Value.slice py l.length l.length = slc b 0 l.length l.length := by
      rcases (hs2.has hW).2 with ⟨e1, e2⟩ | ⟨b, _, e2, _⟩
      · have e3 : l.length = 0 := by injection e1
        omega
      · rw [lw] at e2; exact ⟨b, e2⟩
    obtain ⟨bx, ox⟩ := ox
    obtain ⟨by_, oy⟩ := oy
    cases ox
    cases oy
    repeat (refine gO ?_; intros)
    refine Must.mk (ltN_t hlt) ?_
    refine ldTr hs2 hV rfl ha hv (j := 0) (by simp) (by omega) rfl ?_
    repeat (refine gO ?_; intros)
    refine Must.mk (ltN_t hlt) ?_
    refine ldTr hs2 hW rfl ha hw (j := 0) (by simp) (by omega) rfl ?_
    repeat (refine gO ?_; intros)
    refine Cd.f (by rw [eqZ_self]; rfl) ?_
    repeat (refine gO ?_; intros)
    refine Must.mk (ltN_t hlt) ?_
    refine ldTr hs2 hV rfl ha hv (j := 1) (by simp) (by omega) rfl ?_
    repeat (refine gO ?_; intros)
    refine Must.mk (ltN_t hlt) ?_
    refine ldTr hs2 hW rfl ha hw (j := 1) (by simp) (by omega) rfl ?_
    repeat (refine gO ?_; intros)
    refine Cd.f (by rw [eqN_self]; rfl) ?_
    repeat (refine gO ?_; intros)
    refine Must.mk (ltN_t hlt) ?_
    refine ldTr hs2 hV rfl ha hv (j := 2) (by simp) (by omega) rfl ?_
    repeat (refine gO ?_; intros)
    refine Must.mk (ltN_t hlt) ?_
    refine ldTr hs2 hW rfl ha hw (j := 2) (by simp) (by omega) rfl ?_
    repeat (refine gO ?_; intros)
    refine Cd.f (by rw [eqN_self]; rfl) ?_
    repeat (refine gO ?_; intros)
    refine Must.mk (ltN_t hlt) ?_
    refine ldTr hs2 hV rfl ha hv (j := 3) (by simp) (by omega) rfl ?_
    repeat (refine gO ?_; intros)
    refine Must.mk (ltN_t hlt) ?_
    refine ldTr hs2 hW rfl ha hw (j := 3) (by simp) (by omega) rfl ?_
    repeat (refine gO ?_; intros)
    refine Cd.f (by rw [eqN_self]; rfl) ?_
    repeat (refine gO ?_; intros)
    refine Must.mk (ltN_t hlt) ?_
    refine ldTr hs2 hV rfl ha hv (j := 4) (by simp) (by omega) rfl ?_
    repeat (refine gO ?_; intros)
    refine Must.mk (ltN_t hlt) ?_
    refine ldTr hs2 hW rfl ha hw (j := 4) (by simp) (by omega) rfl ?_
    repeat (refine gO ?_; intros)
    refine Cd.f (by rw [eqN_self]; rfl) ?_
    repeat (refine gO ?_; intros)
    refine Must.mk (ltN_t hlt) ?_
    refine ldTr hs2 hV rfl ha hv (j := 6) (by simp) (by omega) rfl ?_
    repeat (refine gO ?_; intros)
    refine Must.mk (ltN_t hlt) ?_
    refine ldTr hs2 hW rfl ha hw (j := 6) (by simp) (by omega) rfl ?_
    repeat (refine gO ?_; intros)
    refine Cd.f (by rw [eqN_self]; rfl) ?_
    repeat (refine gO ?_; intros)
    refine Must.mk (ltN_t hlt) ?_
    refine ldTr hs2 hV rfl ha hv (j := 7) (by simp) (by omega) rfl ?_
    repeat (refine gO ?_; intros)
    refine Must.mk (ltN_t hlt) ?_
    refine ldTr hs2 hW rfl ha hw (j := 7) (by simp) (by omega) rfl ?_
    repeat (refine gO ?_; intros)
    refine Cd.f (by rw [eqB_self]; rfl) ?_
    repeat (refine gO ?_; intros)
    refine Must.mk (ltN_t hlt) ?_
    refine ldTr hs2 hV rfl ha hv (j := 5) (by simp) (by omega) rfl ?_
    repeat (refine gO ?_; intros)
    refine Must.mk (ltN_t hlt) ?_
    refine ldTr hs2 hW rfl ha hw (j := 5) (by simp) (by omega) rfl ?_
    repeat (refine gO ?_; intros)
    refine sameU_ok hc hs2 (l := a.vals) (hNv i a v ha hv) (hNw i a w ha hw) (hvl a (List.mem_of_getElem? ha)) ?_
    repeat (refine gO ?_; intros)
    refine inR_nat (n := i + 1) (by omega) ?_
    show ∃ y, _ ∧ _
    exact ⟨i + 1, by omega, e0, e1, rfl, hlt, hs2⟩
  · refine Cd.f (ltZ_f (by omega)) ?_
    show Cd _ _ _
    refine Cd.t (eqN_self 0) ?_
    exact k _ (hend hs2)
end Go.Proofs.YtocphcgcpjcfjaaGreat

set_option linter.unusedVariables false
set_option linter.unusedSimpArgs false
namespace Go.Proofs.YtocphcgcpjcfjaaGreat
open Go Go.CM
theorem slots_eq (H : CH) (a0 a1 a3 b0 b1 b3 : Nat) (a2 b2 : Int) : ceq Tryz.prog H 10000 29 (.agg ⟨[u64 a0, u64 a1, i64 a2, u64 a3]⟩) (.agg ⟨[u64 b0, u64 b1, i64 b2, u64 b3]⟩) = some ((Int.ofNat a0 == Int.ofNat b0) && ((Int.ofNat a1 == Int.ofNat b1) && ((a2 == b2) && ((Int.ofNat a3 == Int.ofNat b3) && true)))) := by
  have e : ceq Tryz.prog H 10000 29 (.agg ⟨[u64 a0, u64 a1, i64 a2, u64 a3]⟩) (.agg ⟨[u64 b0, u64 b1, i64 b2, u64 b3]⟩) = brk (Int.ofNat a0 == Int.ofNat b0) (brk (Int.ofNat a1 == Int.ofNat b1) (brk (a2 == b2) (brk (Int.ofNat a3 == Int.ofNat b3) (some true)))) := by kernel_rfl
  rw [e, brk_eq, brk_eq, brk_eq, brk_eq]
theorem slots_guard : Tryz.prog.eqGuardType Tryz.prog.depth 29 = false := by kernel_rfl
theorem slots_self (H : CH) (a0 a1 a3 : Nat) (a2 : Int) : ceq Tryz.prog H 10000 29 (.agg ⟨[u64 a0, u64 a1, i64 a2, u64 a3]⟩) (.agg ⟨[u64 a0, u64 a1, i64 a2, u64 a3]⟩) = some true := by
  rw [slots_eq]; simp
attribute [local irreducible] AsBool AsWant AsNat AsInt AsCnt AsPtr AsSlc AsLen AsStr AsAgg AsTup AsFn AsIfc Nth Sc NotNil IsNil Must Cd codeW funW Sat SatL wrapN subM mkRow ltZ leZ ltN leN
variable {con : CallT}
noncomputable def elemT (t : Nat) : Nat := match Tryz.prog.underlying t with | some (.slice e) => e | _ => 0
theorem el_at14 : elemOk Tryz.prog 24 (elemT 24) 1 8 = true := by kernel_rfl
theorem zero_q : (zeroOf Tryz.prog 96).map cellsF = some [nilP] := by kernel_rfl
theorem zero_at14 : (zeroOf Tryz.prog (elemT 24)).map cellsF = some [iN 0] := by kernel_rfl
theorem rep1 (n : Nat) (v : Value) : (List.replicate n [v]).flatten = List.replicate n v := by
  induction n with
  | zero => rfl
  | succ n ih => rw [List.replicate_succ, List.replicate_succ, List.flatten_cons, ih]; rfl
/-- The memory with a camera at 399, and the slots. -/
def mem14 : Mem := (mem0 400).store (Int.negSucc 0) 399 1
def slots14 (n : Int) (most : Nat) : SlotsS × Nat × Mem := mkSlots 399 n most mem14 (Int.negSucc 0)
theorem fine_alloc14 {M : Mem} (h : Fine M) (th : Int) {vals : List Nat} (hv : ∀ x ∈ vals, x < 18446744073709551616) (hl : vals.length ≤ 1000000000) : Fine (M.alloc th vals) := by
  have hb : ∀ (v cs : List Nat) (o : Nat), (∀ x ∈ v, x < 18446744073709551616) → (∀ x ∈ cs, x < 18446744073709551616) → ∀ x ∈ ovN v cs o, x < 18446744073709551616 := fun v => by
    induction v with
    | nil => exact fun cs o _ h => h
    | cons y r ih =>
      intro cs o h1 h2
      refine ih (cs.set o y) (o + 1) (fun x hx => h1 x (List.mem_cons_of_mem _ hx)) fun x hx => ?_
      rcases List.mem_or_eq_of_mem_set hx with h | rfl
      · exact h2 x h
      · exact h1 x (List.mem_cons_self ..)
  unfold Mem.alloc
  split
  · exact ⟨fun x hx => hb vals M.cells M.free hv h.bd x hx, fine_note (M := { M with cells := _, free := _ }) h.vals hl⟩
  · exact ⟨h.bd, fine_note h.vals hl⟩
theorem alloc_len14 (M : Mem) (th : Int) (vals : List Nat) : (M.alloc th vals).tr.length = M.tr.length + 1 := by
  simp only [Mem.alloc, Mem.note]
  split <;> simp
theorem mkSlots_fine14 {cam : Nat} {n : Int} {most : Nat} {M : Mem} (h : Fine M) (th : Int) : Fine (mkSlots cam n most M th).2.2 ∧ (mkSlots cam n most M th).2.2.tr.length ≤ M.tr.length + 1 := by
  unfold mkSlots
  split
  · exact ⟨h, Nat.le_succ _⟩
  · rename_i c
    have hz : ∀ x ∈ List.replicate c 0, x < 18446744073709551616 := fun x hx => by rw [List.eq_of_mem_replicate hx]; omega
    by_cases h1 : c < 1
    · simp only [if_pos h1]; exact ⟨h, Nat.le_succ _⟩
    simp only [if_neg h1]
    by_cases h2 : 256 < c
    · simp only [if_pos h2]; exact ⟨h, Nat.le_succ _⟩
    simp only [if_neg h2]
    by_cases h3 : most < 1
    · simp only [if_pos h3]; exact ⟨h, Nat.le_succ _⟩
    simp only [if_neg h3]
    by_cases h4 : 1099511627776 < most
    · simp only [if_pos h4]; exact ⟨h, Nat.le_succ _⟩
    simp only [if_neg h4]
    have := fine_alloc14 h th hz (by simp; omega)
    have h5 := alloc_len14 M th (List.replicate c 0)
    split
    · exact ⟨this, by show (M.alloc th (List.replicate c 0)).tr.length ≤ _; omega⟩
    · exact ⟨this, by show (M.alloc th (List.replicate c 0)).tr.length ≤ _; omega⟩
theorem fine14 : Fine mem14 := (Nxt.store (mem0 400) (Int.negSucc 0) 399 (by omega)).fine (fine0 400)
theorem slots14_fine (n : Int) (most : Nat) : Fine (slots14 n most).2.2 ∧ (slots14 n most).2.2.tr.length ≤ 10 := by
  have h := mkSlots_fine14 (cam := 399) (n := n) (most := most) fine14 (Int.negSucc 0)
  have h2 : mem14.tr.length = 1 := qst (mem0 400) (Int.negSucc 0) 399 1
  exact ⟨h.1, by have := h.2; show (mkSlots 399 n most mem14 (Int.negSucc 0)).2.2.tr.length ≤ 10; omega⟩
def g14 (M : Mem) (calls : List (List C14)) : R14 := ⟨M, List.replicate calls.length none, List.replicate calls.length 0, []⟩
theorem wf14 (sl : SlotsS) {M : Mem} (h : Fine M) (calls : List (List C14)) : WF14 sl calls (g14 M calls) := by
  have hn : ∀ (k b : Nat), (g14 M calls).now[k]? = some (some b) → False := fun k b h => by
    simp only [g14, List.getElem?_replicate] at h
    split at h <;> simp at h
  refine ⟨by simp [g14], by simp [g14], h, fun k cs a _ h2 => ?_, fun k b h => (hn k b h).elim, fun k k' b h _ => (hn k b h).elim⟩
  simp only [g14, List.getElem?_replicate] at h2
  split at h2
  · cases h2; exact Nat.zero_le _
  · cases h2
/-- The run of both, from its start. -/
noncomputable def run14 (n : Int) (most : Nat) (calls : List (List C14)) (stores : Bool) (picks : List Int) (j : Nat) : R14 := r14At (slots14 n most).1 calls stores picks (g14 (slots14 n most).2.2 calls) j
set_option maxRecDepth 100000 in
theorem l14ran_ok (hc : Con con lives) {n0 : Int} {most : Nat} {calls : List (List C14)} (hc64 : Calls64b calls) {stores : Bool} {picks : List Int} {xv xw : Value} {R : List HP} {H : CH} {K : KP}
    (hl1 : calls.length ≤ 1048576) (hl2 : ∀ cs ∈ calls, cs.length ≤ 1048576) (hpc : picks.length ≤ 1048576) (hs : Sat (Thr14 xv calls :: IntsR xw picks :: R) H)
    (k0 : (slots14 n0 most).2.1 ≠ 0 → ∀ H1, Sat (Thr14 xv calls :: IntsR xw picks :: R) H1 → K (.tuple ⟨[snil, nilP, slA (slots14 n0 most).1, .bool true]⟩) H1)
    (k1 : (slots14 n0 most).2.1 = 0 → ∀ va ps m H1, ps.length = (run14 n0 most calls stores picks picks.length).all.length →
      Sat (MemP m (run14 n0 most calls stores picks picks.length).M :: Vec va 96 1 (ps.map fun p => [ptr p 0]) :: SatL (List.zipWith (QAt (slots14 n0 most).1) ps (run14 n0 most calls stores picks picks.length).all) :: Thr14 xv calls :: IntsR xw picks :: R) H1 →
      K (.tuple ⟨[va, ptr m 0, slA (slots14 n0 most).1, .bool true]⟩) H1) :
    Call1 Tryz.prog con 23 [.agg ⟨[i64 n0, u64 most, xv, xw]⟩, .bool stores] H K := by
  obtain ⟨pxv, cxv, exv⟩ := (hs.has has_thr14).len
  obtain ⟨pxw, cxw, exw⟩ := (hs.has (Has.skip has_ints)).len
  have hcx : isCell xv = true := by rw [exv]; rfl
  have hcw : isCell xw = true := by rw [exw]; rfl
  refine call_of (hc _ _ _ rfl) ?_
  rw [l14ran_W]
  refine na fun p1 H2 h2 => ?_
  refine na fun p3 H4 h4 => ?_
  refine arenaNew_ok hc h4 (by omega) (by omega) fun m H6 h6 => ?_
  repeat (refine gO ?_; intros)
  refine refNew_ok hc h6 (by omega) (by omega) fun r H12 h12 => ?_
  repeat (refine gO ?_; intros)
  refine memView_ok hc h12 fun q H24 h24 => ?_
  refine viewStore_ok hc h24 pp pp (by omega) (by show 0 < _; omega) fun H26 h26 => ?_
  refine refStore_ok hc h26 pp (by show 0 < _; omega) fun H28 h28 => ?_
  have hM : (mem0 400).store (Int.negSucc 0) 399 1 = mem14 := rfl
  rw [hM] at h28
  have h29 : Sat (MemP m mem14 :: RefP r mem14 :: Own p3 [u64 0, u64 0, i64 (Int.ofNat 0), u64 0] :: Own p1 [i64 n0, u64 most, xv, xw] :: Thr14 xv calls :: IntsR xw picks :: R) H28 := h28.ent ee
  clear h28 h26 h24 h12 h6 h4 h2
  have hmt : mem14.tr.length = 1 := qst (mem0 400) (Int.negSucc 0) 399 1
  refine na fun pc H30 h30 => ?_
  refine memView_ok hc h30 fun q2 H32 h32 => ?_
  repeat (refine gO ?_; intros)
  refine annMake_ok (n := n0) hc h32 pp pp (by omega) (by omega) fun nn' H36 _ h36 => ?_
  have e : mkSlots 399 n0 most mem14 (Int.negSucc 0) = slots14 n0 most := rfl
  have hsf := slots14_fine n0 most
  unfold run14 at k1
  generalize slots14 n0 most = s at *
  rw [e] at h36
  rw [e]
  obtain ⟨⟨cam, first, count, ms⟩, er, M⟩ := s
  simp only at k0 k1 h36 hsf
  obtain ⟨hf, ht⟩ := hsf
  repeat (refine gO ?_; intros)
  refine stN (by assumption) (Nat.le_of_ble_eq_true rfl) rfl fun H46 h46 => ?_
  repeat (refine gO ?_; intros)
  refine rMake_ok (n := n0) hc h46 pp (by omega) fun H54 h54 => ?_
  rw [e] at h54
  rw [e]
  simp only at h54 ⊢
  repeat (refine gO ?_; intros)
  refine stN (by assumption) (Nat.le_of_ble_eq_true rfl) rfl fun H66 h66 => ?_
  repeat (refine gO ?_; intros)
  refine Cd.f (by rw [eqZ_self]; rfl) ?_
  repeat (refine gO ?_; intros)
  refine OpN.neAgg (a := ⟨[u64 cam, u64 first, i64 count, u64 ms]⟩) (c := ⟨[u64 cam, u64 first, i64 count, u64 ms]⟩) rfl rfl slots_guard (slots_self _ _ _ _ _) ?_
  repeat (refine gO ?_; intros)
  by_cases her : er = 0
  · subst her
    refine Cd.f (by rw [eqZ_self]; rfl) ?_
    repeat (refine gO ?_; intros)
    refine AsLen.eq exv ?_
    refine mkS h66 el_q zero_q (Nat.le_refl _) (by omega) (by omega) fun bn H111 h111 => ?_
    repeat (refine gO ?_; intros)
    refine AsLen.eq exv ?_
    refine mkS h111 el_at14 zero_at14 (Nat.le_refl _) (by omega) (by omega) fun ba H115 h115 => ?_
    rw [rep1, rep1] at h115
    have hrep : List.replicate calls.length (iN 0) = (List.replicate calls.length 0).map iN := by rw [List.map_replicate]
    rw [hrep] at h115
    have hst : Sat (MemP m M :: RefP r M :: Row bn 96 0 true (List.replicate calls.length nilP) :: Row ba (elemT 24) 0 true ((List.replicate calls.length 0).map iN) :: Vec snil 96 1 (([] : List Nat).map fun p => [ptr p 0]) :: SatL (List.zipWith (QAt ⟨cam, first, count, ms⟩) [] []) :: Own pc [u64 cam, u64 first, i64 count, u64 ms] :: Own p1 [i64 n0, u64 most, xv, xw] :: Thr14 xv calls :: IntsR xw picks :: Own p3 [u64 0, u64 0, i64 (Int.ofNat 0), u64 0] :: R) H115 := (Sat.none h115).nilV.ent ee
    clear h115 h111 h66 h54 h46 h36
    have hnw0 : Now2 [] (List.replicate calls.length none) (List.replicate calls.length nilP) := ⟨by simp, fun k x v h1 h2 => by
      have e1 := List.eq_of_mem_replicate (List.mem_of_getElem? h1)
      have e2 := List.eq_of_mem_replicate (List.mem_of_getElem? h2)
      subst e1 e2
      exact rfl⟩
    refine LoopC.indP (n := 300) (id := 0) (fun σ H => σ 6 = ptr p3 0 ∧ σ 8 = ptr m 0 ∧ σ 10 = ptr r 0 ∧ σ 12 = ptr pc 0 ∧ ∃ va ps, σ 18 = va ∧ ps.length = (r14At ⟨cam, first, count, ms⟩ calls stores picks (g14 M calls) picks.length).all.length ∧
        Sat (MemP m (r14At ⟨cam, first, count, ms⟩ calls stores picks (g14 M calls) picks.length).M :: RefP r (r14At ⟨cam, first, count, ms⟩ calls stores picks (g14 M calls) picks.length).M :: Vec va 96 1 (ps.map fun p => [ptr p 0]) :: SatL (List.zipWith (QAt ⟨cam, first, count, ms⟩) ps (r14At ⟨cam, first, count, ms⟩ calls stores picks (g14 M calls) picks.length).all) :: Own pc [u64 cam, u64 first, i64 count, u64 ms] :: Thr14 xv calls :: IntsR xw picks :: Own p3 [u64 0, u64 0, i64 (Int.ofNat 0), u64 0] :: R) H) (by kernel_rfl)
      (fun (j : Nat) σ H => j ≤ picks.length ∧ σ 1 = .bool stores ∧ σ 2 = ptr p1 0 ∧ σ 6 = ptr p3 0 ∧ σ 8 = ptr m 0 ∧ σ 10 = ptr r 0 ∧ σ 12 = ptr pc 0 ∧ σ 16 = slc bn 0 calls.length calls.length ∧ σ 17 = slc ba 0 calls.length calls.length ∧ σ 19 = iN j ∧ ∃ va ps nv, σ 18 = va ∧ Now2 ps (r14At ⟨cam, first, count, ms⟩ calls stores picks (g14 M calls) j).now nv ∧ ps.length = (r14At ⟨cam, first, count, ms⟩ calls stores picks (g14 M calls) j).all.length ∧
        Sat (MemP m (r14At ⟨cam, first, count, ms⟩ calls stores picks (g14 M calls) j).M :: RefP r (r14At ⟨cam, first, count, ms⟩ calls stores picks (g14 M calls) j).M :: Row bn 96 0 true nv :: Row ba (elemT 24) 0 true ((r14At ⟨cam, first, count, ms⟩ calls stores picks (g14 M calls) j).at_.map iN) :: Vec va 96 1 (ps.map fun p => [ptr p 0]) :: SatL (List.zipWith (QAt ⟨cam, first, count, ms⟩) ps (r14At ⟨cam, first, count, ms⟩ calls stores picks (g14 M calls) j).all) :: Own pc [u64 cam, u64 first, i64 count, u64 ms] :: Own p1 [i64 n0, u64 most, xv, xw] :: Thr14 xv calls :: IntsR xw picks :: Own p3 [u64 0, u64 0, i64 (Int.ofNat 0), u64 0] :: R) H)
      (fun j => picks.length - j) (fun j σ H hI => ?_) (fun σ H hP => ?_) 0 _ _ ⟨Nat.zero_le _, rfl, rfl, rfl, rfl, rfl, rfl, rfl, rfl, rfl, snil, [], _, rfl, hnw0, rfl, hst⟩
    · obtain ⟨hj, a1, a2, a6, a8, a10, a12, a16, a17, a19, va, ps, nv, a18, hnw, hps, hs2⟩ := hI
      by_cases hlt : j < picks.length
      · obtain ⟨t, et⟩ : ∃ t, picks[j]? = some t := ⟨_, List.getElem?_eq_getElem hlt⟩
        have hw0 := wf14 ⟨cam, first, count, ms⟩ hf calls
        have hz := r14At_sz hc64 (stores := stores) (picks := picks) hw0 j
        have hW := r14At_wf hc64 (stores := stores) (picks := picks) hw0 j
        have hz1 : (g14 M calls).all.length = 0 := rfl
        have hz2 : (g14 M calls).M.tr.length ≤ 10 := ht
        have hsu := r14At_succ (sl := ⟨cam, first, count, ms⟩) (calls := calls) (stores := stores) (g := g14 M calls) et
        refine ran_pick (n := calls.length) (p3 := p3) hc hc64 hW rfl hl1 hl2 hnw hps hlt hpc et (by omega) (by omega) hs2 a1 a2 a6 a8 a10 a12 a16 a17 a18 a19 fun σ1 H1 ps' va' nv' b1 b2 b6 b8 b10 b12 b16 b17 b18 b19 hnw' hps' h1 => ?_
        rw [← hsu] at hnw' hps' h1
        show ∃ y, _ ∧ _
        exact ⟨j + 1, by omega, hlt, b1, b2, b6, b8, b10, b12, b16, b17, b19, va', ps', nv', b18, hnw', hps', h1⟩
      · obtain rfl : j = picks.length := by omega
        rw [ran_lp, codeW_cut 2, l14ranA_W, a2, a19]
        repeat (refine gO ?_; intros)
        refine AsLen.eq exw ?_
        repeat (refine gO ?_; intros)
        refine Cd.f (ltZ_f (Nat.le_refl _)) ?_
        rw [ceP_x]
        show _ = _ ∧ _
        exact ⟨rfl, a6, a8, a10, a12, va, ps, a18, hps, hs2.ent ee⟩
    · obtain ⟨a6, a8, a10, a12, va, ps, a18, hps, hs2⟩ := hP
      show Cd _ _ _
      refine Cd.t (eqN_self 0) ?_
      have hw0 := wf14 ⟨cam, first, count, ms⟩ hf calls
      have hz := r14At_sz hc64 (stores := stores) (picks := picks) hw0 picks.length
      have hW := r14At_wf hc64 (stores := stores) (picks := picks) hw0 picks.length
      have hz2 : (g14 M calls).M.tr.length ≤ 10 := ht
      have k1 := k1 rfl va ps m
      generalize r14At ⟨cam, first, count, ms⟩ calls stores picks (g14 M calls) picks.length = g at *
      rw [a6, a8, a10, a12, a18]
      have hs4 : Sat (RefP r g.M :: MemP m g.M :: Own pc [u64 cam, u64 first, i64 count, u64 ms] :: Own p3 [u64 0, u64 0, i64 (Int.ofNat 0), u64 0] :: Vec va 96 1 (ps.map fun p => [ptr p 0]) :: SatL (List.zipWith (QAt ⟨cam, first, count, ms⟩) ps g.all) :: Thr14 xv calls :: IntsR xw picks :: R) H := hs2.ent ee
      obtain ⟨f1, f2, u1, u2, d, ⟨bl, tr, ⟨hn, hfr⟩, hin⟩, hR⟩ := hs4.opens Pull.here
      have hs5 := Sat.merge u1 u2 d hin hR
      simp only [List.cons_append, List.nil_append] at hs5
      obtain ⟨g1, g2, t1, t2, d2, hT', _⟩ := hs5.opens (A := TrAt tr tA g.M.tr) (.there (.there .here))
      obtain ⟨pt, rfl⟩ := hT'.shape
      clear hs4 hs2
      repeat (refine gO ?_; intros)
      refine memTraceK_ok hc hs5 pp (by omega) hW.fine.vals fun x H9 h9 => ?_
      repeat (refine gO ?_; intros)
      refine sameAcs_ok hc h9 pp pp (by omega) hW.fine.vals fun H10 h10 => ?_
      repeat (refine gO ?_; intros)
      refine stN h10 (Nat.le_of_ble_eq_true rfl) rfl fun H134 h134 => ?_
      repeat (refine gO ?_; intros)
      refine k1 _ hps (Sat.ent h134 ee)
  · refine Cd.t (by rw [eqZ_f her]; rfl) ?_
    repeat (refine gO ?_; intros)
    refine stN h66 (Nat.le_of_ble_eq_true rfl) rfl fun H103 h103 => ?_
    repeat (refine gO ?_; intros)
    exact k0 her _ (h103.ent ee)
end Go.Proofs.YtocphcgcpjcfjaaGreat

set_option linter.unusedVariables false
set_option linter.unusedSimpArgs false
namespace Go.Proofs.YtocphcgcpjcfjaaGreat
open Go Go.CM
attribute [local irreducible] AsBool AsWant AsNat AsInt AsCnt AsPtr AsSlc AsLen AsStr AsAgg AsTup AsFn AsIfc Nth Sc NotNil IsNil Must Cd codeW funW Sat SatL wrapN subM mkRow ltZ leZ ltN leN
variable {con : CallT}
end Go.Proofs.YtocphcgcpjcfjaaGreat

set_option linter.unusedVariables false
set_option linter.unusedSimpArgs false
namespace Go.Proofs.YtocphcgcpjcfjaaGreat
open Go Go.CM
attribute [local irreducible] AsBool AsWant AsNat AsInt AsCnt AsPtr AsSlc AsLen AsStr AsAgg AsTup AsFn AsIfc Nth Sc NotNil IsNil Must Cd codeW funW Sat SatL wrapN subM mkRow ltZ leZ ltN leN
variable {con : CallT}
theorem holds_mem (sl : SlotsS) (h : Nat) (M : Mem) : hHolds sl h M = decide (h ∈ liveL sl M) := by
  rw [Bool.eq_iff_iff, decide_eq_true_iff, liveL_mem]
  unfold hHolds hThere hOk hWord
  have hc := cnt_le sl.count
  simp only [Bool.and_eq_true, decide_eq_true_eq]
  constructor
  · rintro ⟨⟨⟨h1, h2, h3⟩, h4⟩, h5, h6⟩
    have e5 : kindW (M.peek (addM sl.first (h % 65536 - 1))) = 3 := Nat.eq_of_beq_eq_true h5
    have e6 : genW (M.peek (addM sl.first (h % 65536 - 1))) = h / 65536 := Nat.eq_of_beq_eq_true h6
    exact ⟨h % 65536 - 1, h4, e5, by rw [e6]; unfold hnd; omega⟩
  · rintro ⟨i, h1, h2, h3⟩
    have hg := genW_lt (M.peek (addM sl.first i))
    have e1 : h % 65536 = i + 1 := by rw [h3]; unfold hnd; omega
    have e2 : h / 65536 = genW (M.peek (addM sl.first i)) := by rw [h3]; unfold hnd; omega
    rw [e1, e2, Nat.add_sub_cancel]
    exact ⟨⟨⟨by omega, by omega, hg⟩, h1⟩, eqN_t h2, eqN_self _⟩
/-- Two lists, one behind the other, in a row of their own. -/
theorem app_two {L : List HP} {H : CH} {p : Nat} {xw w : Value} {others l : List Nat} {K : Value → KP} (hs : Sat (Row p tU 0 true [] :: L) H) (ho : Has L (Nums xw others)) (hl : Has L (Vec w tU 1 (rowsU l))) (h1 : others.length ≤ 2000000) (h2 : l.length ≤ 1000000)
    (kk : ∀ v38 v40 H1, Sat (Nums v40 (others ++ l) :: L) H1 → K v38 v40 H1) :
    App Tryz.prog tUS tUS H (slc p 0 0 0) xw fun v38 H39 => App Tryz.prog tUS tUS H39 v38 w (K v38) := by
  have st2 : ∀ (v38 : Value) (H39 : CH), others = [] → v38 = slc p 0 0 0 → Sat (Row p tU 0 true [] :: L) H39 → App Tryz.prog tUS tUS H39 v38 w (K v38) := fun v38 H39 he e h39 => by
    subst e he
    cases l with
    | nil =>
      obtain rfl := vec_nil (h39.has (Has.skip hl))
      refine app_zero el_u64 sl_u64 rfl ?_
      exact kk _ _ H39 (h39.imp fun g r => .inr ⟨p, 0, 0, tU, 0, true, [], rfl, Nat.le_refl _, Nat.le_refl _, rfl, r⟩)
    | cons x l' =>
      obtain ⟨b, ev, _⟩ := (h39.has (Has.skip hl)).slot (i := 0) (row := [u64 x]) rfl
      rw [rowsU_len] at ev
      subst ev
      refine app_clone (new := rowsU (x :: l')) h39 el_u64 (by omega) sl_u64 (hl.vecSrc rfl) (by simp) (rowsU_one _) (by simp at h2 ⊢; omega) (by simp) fun v' H2 h3 => ?_
      exact kk _ _ H2 (h3.imp fun g a => Vec.nums a)
  rcases (hs.has (Has.skip ho)).shape with ⟨rfl, rfl⟩ | ⟨b, o, c, rfl⟩
  · refine app_zero el_u64 sl_u64 rfl ?_
    exact st2 _ _ rfl rfl hs
  · rcases Nat.eq_zero_or_pos others.length with h0 | hpos
    · have hl0 : others = [] := List.eq_nil_of_length_eq_zero h0
      subst hl0
      refine app_none hs el_u64 sl_u64 (Src.skip (ho.src rfl)) ?_
      exact st2 _ _ rfl rfl hs
    · refine app_clone (new := rowsU others) hs el_u64 (by omega) sl_u64 (by rw [rowsU_flat]; exact ho.src rfl) (by simp) (rowsU_one _) (by omega) hpos fun v' H2 h3 => ?_
      cases l with
      | nil =>
        obtain rfl := vec_nil (h3.has (Has.skip hl))
        obtain ⟨y, ey⟩ : ∃ y, others[0]? = some y := ⟨_, List.getElem?_eq_getElem hpos⟩
        obtain ⟨bw, ew, _⟩ := (h3.has Has.vec).slot (i := 0) (row := [u64 y]) (by rw [List.getElem?_map, ey]; rfl)
        rw [rowsU_len] at ew
        subst ew
        refine app_zero el_u64 sl_u64 rfl ?_
        refine kk _ _ H2 (h3.imp fun g a => ?_)
        rw [List.append_nil]
        exact Vec.nums a
      | cons x l' =>
        obtain ⟨b, ev, _⟩ := (h3.has (Has.skip hl)).slot (i := 0) (row := [u64 x]) rfl
        rw [rowsU_len] at ev
        subst ev
        refine app_vec (new := rowsU (x :: l')) h3 Pull.here el_u64 (by omega) sl_u64 (Src.skip (hl.vecSrc rfl)) (by simp) (rowsU_one _) (by simp at h2 ⊢; omega) (by rw [rowsU_flat]; exact isCell_u64 _) fun v2 H3 h4 => ?_
        rw [← rowsU_app] at h4
        exact kk _ _ H3 (h4.imp fun g a => Vec.nums a)
/-- The inner loop: is it there, and do all rise? -/
theorem liveB_ok (hc : Con con lives) {L : List HP} {H : CH} {x i c : Nat} {pa : Option Addr} {w va : Value} {l asked : List Nat} {σ : TF} {Q : KX} (hs : Sat L H) (hL : Has L (Vec w tU 1 (rowsU l))) (hA : Has L (Nums va asked)) (hinc : IncL l) (hl : l.length ≤ 256) (hx : asked[i]? = some x) (hal : asked.length ≤ 2000000)
    (e6 : σ 6 = σ 6) (e9 : σ 9 = w) (e10 : σ 10 = va) (e11 : σ 11 = iN i) (e12 : σ 12 = .bool false) (e13 : σ 13 = iN 0)
    (k : ∀ σ1, σ1 6 = σ 6 → σ1 7 = σ 7 → σ1 9 = w → σ1 10 = va → σ1 11 = iN i → σ1 12 = .bool (decide (x ∈ l)) → Q (.exit 2) σ1 H) :
    LoopC Tryz.prog con (lpAt Tryz.prog 6 1) σ H Q := by
  have hil : i < asked.length := (List.getElem?_eq_some_iff.1 hx).1
  have hxg : asked.getD i 0 = x := by rw [List.getD_eq_getElem?_getD, hx]; rfl
  obtain ⟨pw, ew⟩ := (hs.has hL).shape
  rw [rowsU_len] at ew
  have oa : ∃ b o c', va = slc b o asked.length c' := by
    rcases (hs.has hA).shape with ⟨_, h4⟩ | ⟨b, o, c', h3⟩
    · rw [h4] at hil; simp at hil
    · exact ⟨b, o, c', h3⟩
  obtain ⟨ba, oo, ca, eva⟩ := oa
  refine LoopC.indP (n := 300) (id := 2) (fun σ1 H1 => H1 = H ∧ σ1 6 = σ 6 ∧ σ1 7 = σ 7 ∧ σ1 9 = w ∧ σ1 10 = va ∧ σ1 11 = iN i ∧ σ1 12 = .bool (decide (x ∈ l))) (by kernel_rfl)
    (fun (n : Nat) σ1 H1 => n ≤ l.length ∧ H1 = H ∧ σ1 6 = σ 6 ∧ σ1 7 = σ 7 ∧ σ1 9 = w ∧ σ1 10 = va ∧ σ1 11 = iN i ∧ σ1 12 = .bool (decide (x ∈ l.take n)) ∧ σ1 13 = iN n)
    (fun n => l.length - n) (fun n σ1 H1 hI => ?_) (fun σ1 H1 hP => ?_) 0 _ _ ⟨Nat.zero_le _, rfl, rfl, rfl, e9, e10, e11, by rw [e12]; simp, e13⟩
  · obtain ⟨hn, rfl, a6, a7, a9, a10, a11, a12, a13⟩ := hI
    rw [hLiveLawB_W]
    refine AsLen.eq (a9.trans ew) ?_
    rw [a11, a13]
    repeat (refine gO ?_; intros)
    by_cases h : n < l.length
    · refine Cd.t (ltZ_t h) ?_
      obtain ⟨y, ey⟩ : ∃ y, l[n]? = some y := ⟨_, List.getElem?_eq_getElem h⟩
      have hry : (rowsU l)[n]? = some [u64 y] := by rw [List.getElem?_map, ey]; rfl
      obtain ⟨b, ev, _⟩ := (hs.has hL).slot hry
      rw [rowsU_len] at ev
      refine AsSlc.eq (a9.trans ev) ?_
      repeat (refine gO ?_; intros)
      refine Must.mk (ltN_t (by omega)) ?_
      refine ldVec hs hL ev hry (j := 0) (by show 0 + n * 1 = _; omega) (by omega) rfl ?_
      refine AsSlc.eq (a10.trans eva) ?_
      repeat (refine gO ?_; intros)
      refine Must.mk (ltN_t hil) ?_
      refine ldSrc hs (hA.src eva) (by rw [show Nat.mul i 1 = i from Nat.mul_one i]; rfl) (map_get _ hil) ?_
      rw [hxg]
      repeat (refine gO ?_; intros)
      have et : l.take (n + 1) = l.take n ++ [y] := by rw [List.take_add_one, ey]; rfl
      have hmem : (x ∈ l.take (n + 1)) ↔ (y = x ∨ x ∈ l.take n) := by
        rw [et, List.mem_append, List.mem_singleton]
        constructor
        · rintro (q | q)
          · exact .inr q
          · exact .inl q.symm
        · rintro (q | q)
          · exact .inr q.symm
          · exact .inl q
      have hprev : 0 < n → ∃ z, l[n - 1]? = some z ∧ z < y := fun h0 => by
        refine ⟨l[n - 1], List.getElem?_eq_getElem (by omega), ?_⟩
        have e2 := (List.getElem?_eq_some_iff.1 ey).2
        rw [← e2]
        exact List.pairwise_iff_getElem.1 hinc (n - 1) n (by omega) h (by omega)
      by_cases hyx : y = x
      · have ed : Value.bool true = .bool (decide (x ∈ l.take (n + 1))) := by rw [decide_eq_true (hmem.2 (.inl hyx))]
        refine Cd.t (eqN_t hyx) ?_
        repeat (refine gO ?_; intros)
        by_cases h0 : 0 < n
        · refine Cd.t (ltZ_t h0) ?_
          repeat (refine gO ?_; intros)
          rw [subInt (by omega)]
          refine inR_nat (by omega) ?_
          obtain ⟨z, ez, hz⟩ := hprev h0
          have hrz : (rowsU l)[n - 1]? = some [u64 z] := by rw [List.getElem?_map, ez]; rfl
          refine AsSlc.eq (a9.trans ev) ?_
          repeat (refine gO ?_; intros)
          refine Must.mk (ltN_t (by omega)) ?_
          refine ldVec hs hL ev hrz (j := 0) (by show 0 + (n - 1) * 1 = _; omega) (by omega) rfl ?_
          refine AsSlc.eq (a9.trans ev) ?_
          repeat (refine gO ?_; intros)
          refine Must.mk (ltN_t (by omega)) ?_
          refine ldVec hs hL ev hry (j := 0) (by show 0 + n * 1 = _; omega) (by omega) rfl ?_
          repeat (refine gO ?_; intros)
          refine Cd.f (leN_f hz) ?_
          repeat (refine gO ?_; intros)
          try rw [addInt]
          refine inR_nat (by omega) ?_
          repeat (refine gO ?_; intros)
          show ∃ y, _ ∧ _
          exact ⟨n + 1, by omega, h, rfl, a6, a7, a9, a10, a11, ed, rfl⟩
        · refine Cd.f (ltZ_f (by omega)) ?_
          repeat (refine gO ?_; intros)
          try rw [addInt]
          refine inR_nat (by omega) ?_
          repeat (refine gO ?_; intros)
          show ∃ y, _ ∧ _
          exact ⟨n + 1, by omega, h, rfl, a6, a7, a9, a10, a11, ed, rfl⟩
      · have ed : Value.bool (decide (x ∈ l.take n)) = .bool (decide (x ∈ l.take (n + 1))) := by
          congr 1
          exact decide_eq_decide.2 ⟨fun q => hmem.2 (.inr q), fun q => (hmem.1 q).resolve_left hyx⟩
        have ed2 := a12.trans ed
        refine Cd.f (eqN_f hyx) ?_
        repeat (refine gO ?_; intros)
        by_cases h0 : 0 < n
        · refine Cd.t (ltZ_t h0) ?_
          repeat (refine gO ?_; intros)
          rw [subInt (by omega)]
          refine inR_nat (by omega) ?_
          obtain ⟨z, ez, hz⟩ := hprev h0
          have hrz : (rowsU l)[n - 1]? = some [u64 z] := by rw [List.getElem?_map, ez]; rfl
          refine AsSlc.eq (a9.trans ev) ?_
          repeat (refine gO ?_; intros)
          refine Must.mk (ltN_t (by omega)) ?_
          refine ldVec hs hL ev hrz (j := 0) (by show 0 + (n - 1) * 1 = _; omega) (by omega) rfl ?_
          refine AsSlc.eq (a9.trans ev) ?_
          repeat (refine gO ?_; intros)
          refine Must.mk (ltN_t (by omega)) ?_
          refine ldVec hs hL ev hry (j := 0) (by show 0 + n * 1 = _; omega) (by omega) rfl ?_
          repeat (refine gO ?_; intros)
          refine Cd.f (leN_f hz) ?_
          repeat (refine gO ?_; intros)
          try rw [addInt]
          refine inR_nat (by omega) ?_
          repeat (refine gO ?_; intros)
          show ∃ y, _ ∧ _
          exact ⟨n + 1, by omega, h, rfl, a6, a7, a9, a10, a11, ed2, rfl⟩
        · refine Cd.f (ltZ_f (by omega)) ?_
          repeat (refine gO ?_; intros)
          try rw [addInt]
          refine inR_nat (by omega) ?_
          repeat (refine gO ?_; intros)
          show ∃ y, _ ∧ _
          exact ⟨n + 1, by omega, h, rfl, a6, a7, a9, a10, a11, ed2, rfl⟩
    · refine Cd.f (ltZ_f (by omega)) ?_
      show _ = _ ∧ _
      have e : n = l.length := by omega
      rw [e, List.take_length] at a12
      exact ⟨rfl, rfl, a6, a7, a9, a10, a11, a12⟩
  · obtain ⟨rfl, a6, a7, a9, a10, a11, a12⟩ := hP
    exact k σ1 a6 a7 a9 a10 a11 a12
end Go.Proofs.YtocphcgcpjcfjaaGreat

set_option linter.unusedVariables false
set_option linter.unusedSimpArgs false
namespace Go.Proofs.YtocphcgcpjcfjaaGreat
open Go Go.CM
attribute [local irreducible] AsBool AsWant AsNat AsInt AsCnt AsPtr AsSlc AsLen AsStr AsAgg AsTup AsFn AsIfc Nth Sc NotNil IsNil Must Cd codeW funW Sat SatL wrapN subM mkRow ltZ leZ ltN leN
variable {con : CallT}
theorem holds_peek (sl : SlotsS) (h : Nat) {M M' : Mem} (e : ∀ a, M'.peek a = M.peek a) : hHolds sl h M' = hHolds sl h M := by unfold hHolds hWord; rw [e]
theorem look_peek (s : AskS) (M : Mem) (th : Int) (a : Nat) : (s.look M th).2.peek a = M.peek a := by
  unfold AskS.look
  cases hThere s.sl s.h <;> rfl
set_option maxRecDepth 100000 in
theorem liveA_ok (hc : Con con lives) (sl : SlotsS) {M : Mem} {R : List HP} {H : CH} {m p : Nat} {w va : Value} {l asked : List Nat} {σ : TF} {Q : KX} (hs : Sat (MemP m M :: Own p [u64 sl.cam, u64 sl.first, i64 sl.count, u64 sl.most] :: Vec w tU 1 (rowsU l) :: Nums va asked :: R) H)
    (hle : l = liveL sl M) (hf : Fine M) (ht : M.tr.length ≤ 100000000) (hal : asked.length ≤ 2000000) (h64 : ∀ x ∈ asked, x < 18446744073709551616)
    (e6 : σ 6 = ptr m 0) (e7 : σ 7 = ptr p 0) (e9 : σ 9 = w) (e10 : σ 10 = va) (e11 : σ 11 = iN 0) (k : ∀ σ1 H1, Q (.exit 0) σ1 H1) :
    LoopC Tryz.prog con (lpAt Tryz.prog 6 0) σ H Q := by
  have hinc : IncL l := by rw [hle]; exact liveL_inc sl M
  have hl : l.length ≤ 256 := by rw [hle]; exact liveL_len sl M
  obtain ⟨pa, ca, eva⟩ := (hs.has (Has.skip (Has.skip (Has.skip Has.nums)))).len
  refine LoopC.indP (n := 300) (id := 0) (fun σ1 H1 => True) (by kernel_rfl)
    (fun (i : Nat) σ1 H1 => i ≤ asked.length ∧ σ1 6 = ptr m 0 ∧ σ1 7 = ptr p 0 ∧ σ1 9 = w ∧ σ1 10 = va ∧ σ1 11 = iN i ∧ ∃ M', (∀ a, M'.peek a = M.peek a) ∧ Fine M' ∧ M'.tr.length ≤ 100000000 + i ∧ Sat (MemP m M' :: Own p [u64 sl.cam, u64 sl.first, i64 sl.count, u64 sl.most] :: Vec w tU 1 (rowsU l) :: Nums va asked :: R) H1)
    (fun i => asked.length - i) (fun i σ1 H1 hI => ?_) (fun σ1 H1 hP => k σ1 H1) 0 _ _ ⟨Nat.zero_le _, e6, e7, e9, e10, e11, M, fun _ => rfl, hf, by omega, hs⟩
  obtain ⟨hi, a6, a7, a9, a10, a11, M', hpk, hf', ht', hs1⟩ := hI
  rw [hLiveLawA_W]
  refine AsLen.eq (a10.trans eva) ?_
  rw [a11]
  repeat (refine gO ?_; intros)
  by_cases h : i < asked.length
  · refine Cd.t (ltZ_t h) ?_
    obtain ⟨x, ex⟩ : ∃ x, asked[i]? = some x := ⟨_, List.getElem?_eq_getElem h⟩
    have hx64 := h64 x (List.mem_of_getElem? ex)
    have hxg : asked.getD i 0 = x := by rw [List.getD_eq_getElem?_getD, ex]; rfl
    have hA : Has (MemP m M' :: Own p [u64 sl.cam, u64 sl.first, i64 sl.count, u64 sl.most] :: Vec w tU 1 (rowsU l) :: Nums va asked :: R) (Nums va asked) := Has.skip (Has.skip (Has.skip Has.nums))
    refine liveB_ok hc (c := 0) (pa := none) hs1 (Has.skip (Has.skip Has.vec)) hA hinc hl ex hal rfl a9 a10 a11 rfl rfl fun σ2 b6 b7 b9 b10 b11 b12 => ?_
    refine Cd.t (eqN_self 2) ?_
    have oa : ∃ b o c', va = slc b o asked.length c' := by
      rcases (hs1.has hA).shape with ⟨_, h4⟩ | ⟨b, o, c', h3⟩
      · rw [h4] at h; simp at h
      · exact ⟨b, o, c', h3⟩
    obtain ⟨ba, oo, cc, evb⟩ := oa
    have b6 : σ2 6 = ptr m 0 := b6.trans a6
    have b7 : σ2 7 = ptr p 0 := b7.trans a7
    rw [b7]
    repeat (refine gO ?_; intros)
    refine AsSlc.eq (b10.trans evb) ?_
    rw [b11, b12]
    repeat (refine gO ?_; intros)
    refine Must.mk (ltN_t h) ?_
    refine ldSrc hs1 (hA.src evb) (by rw [show Nat.mul i 1 = i from Nat.mul_one i]; rfl) (map_get _ h) ?_
    rw [hxg]
    refine hOpen_ok hc sl hs1 fun po H19 h19 => ?_
    show Call1 _ _ _ [σ2 6, _] _ _
    rw [b6]
    refine memView_ok hc h19 fun v H21 h21 => ?_
    have hst : (ask0 sl x).step M' (Int.ofNat 0) = (ask0 sl x).look M' (Int.ofNat 0) := rfl
    refine hOpenStep_ok hc (ask0 sl x) (ex := []) h21 pp pp pp (by omega) (by omega) hf'.bd hx64 fun n' H23 hn' h23 => ?_
    rw [hst] at h23
    obtain ⟨l1, l2, l3, l4⟩ := look_hd sl x M' (Int.ofNat 0)
    repeat (refine gO ?_; intros)
    refine hOpenErr_ok hc ((ask0 sl x).look M' (Int.ofNat 0)).1 (ex := []) h23 ?_
    have ed : eqZ (Int.ofNat (if (((ask0 sl x).look M' (Int.ofNat 0)).1.dn && !((ask0 sl x).look M' (Int.ofNat 0)).1.hd) = true then 33 else 0)) (Int.ofNat 0) = decide (x ∈ l) := by
      rw [l1, l2, holds_peek sl x hpk, holds_mem, ← hle]
      cases decide (x ∈ l) with
      | true => exact eqZ_self _
      | false => exact eqZ_f (by simp)
    repeat (refine gO ?_; intros)
    rw [ed, eqB_self]
    refine Cd.f rfl ?_
    repeat (refine gO ?_; intros)
    try rw [addInt]
    refine inR_nat (by omega) ?_
    repeat (refine gO ?_; intros)
    have hnx := look_nxt (ask0 sl x) M' (Int.ofNat 0)
    have := hnx.tr
    show ∃ y, _ ∧ _
    exact ⟨i + 1, by omega, h, b6, b7, b9, b10, rfl, _, fun a => (look_peek _ _ _ a).trans (hpk a), hnx.fine hf', by omega, h23.ent ee⟩
  · refine Cd.f (ltZ_f (by omega)) ?_
    show _ = _ ∧ _
    exact ⟨rfl, trivial⟩
theorem hLiveLaw_ok (hc : Con con lives) (hlive : ∀ H, con 22 ⟨[]⟩ H = some (.bool true, H)) {n0 : Int} {most : Nat} {calls : List (List C14)} (hc64 : Calls64b calls) {picks : List Int} {others : List Nat} {xv xw xo : Value} {R : List HP} {H : CH}
    (hl1 : calls.length ≤ 1048576) (hl2 : ∀ cs ∈ calls, cs.length ≤ 1048576) (hpc : picks.length ≤ 1048576) (ho : others.length ≤ 1048576) (ho64 : ∀ x ∈ others, x < 18446744073709551616) (hs : Sat (Thr14 xv calls :: IntsR xw picks :: NumsR xo others :: R) H) :
    Call1 Tryz.prog con 6 [.agg ⟨[i64 n0, u64 most, xv, xw]⟩, xo] H (fun v _ => v = .bool true) := by
  obtain ⟨pxv, cxv, exv⟩ := (hs.has has_thr14).len
  obtain ⟨pxw, cxw, exw⟩ := (hs.has (Has.skip has_ints)).len
  have hcx : isCell xv = true := by rw [exv]; rfl
  have hcw : isCell xw = true := by rw [exw]; rfl
  refine call_of (hc _ _ _ rfl) ?_
  rw [hLiveLaw_W]
  refine na fun p1 H2 h2 => ?_
  refine call_yes (hlive _) ?_
  repeat (refine gO ?_; intros)
  refine l14ran_ok hc hc64 hl1 hl2 hpc (R := Own p1 [i64 n0, u64 most, xv, xw] :: NumsR xo others :: R) (h2.ent ee) (fun _ H1 h1 => ?_) (fun _ va ps m H1 _ h1 => ?_)
  · generalize (slots14 n0 most).1 = s at *
    obtain ⟨cam, first, count, ms⟩ := s
    repeat (refine gO ?_; intros)
    refine stN (by assumption) (Nat.le_of_ble_eq_true rfl) rfl fun H46 h46 => ?_
    repeat (refine gO ?_; intros)
    rfl
  · have hsf := slots14_fine n0 most
    have hW := r14At_wf hc64 (stores := true) (picks := picks) (wf14 (slots14 n0 most).1 hsf.1 calls) picks.length
    have hz := r14At_sz hc64 (stores := true) (picks := picks) (wf14 (slots14 n0 most).1 hsf.1 calls) picks.length
    have hz2 : (g14 (slots14 n0 most).2.2 calls).M.tr.length ≤ 10 := hsf.2
    change WF14 _ _ (run14 n0 most calls true picks picks.length) at hW
    change (run14 n0 most calls true picks picks.length).all.length ≤ _ ∧ (run14 n0 most calls true picks picks.length).M.tr.length ≤ _ at hz
    generalize run14 n0 most calls true picks picks.length = g at *
    generalize (slots14 n0 most).1 = s at *
    obtain ⟨cam, first, count, ms⟩ := s
    repeat (refine gO ?_; intros)
    refine stN (by assumption) (Nat.le_of_ble_eq_true rfl) rfl fun H27 h27 => ?_
    repeat (refine gO ?_; intros)
    refine hLive_ok hc ⟨cam, first, count, ms⟩ h27 pp hW.fine.bd fun w H35 h35 => ?_
    refine nwR h35 fun p36 H37 h37 => ?_
    have hll := liveL_len ⟨cam, first, count, ms⟩ g.M
    have h38 : Sat (Row p36 tU 0 true [] :: NumsR xo others :: Vec w tU 1 (rowsU (liveL ⟨cam, first, count, ms⟩ g.M)) :: MemP m g.M :: Own _ [u64 cam, u64 first, i64 count, u64 ms] :: R) H37 := h37.ent ee
    refine app_two h38 (fun g a => (has_nr g a).nums) (Has.skip Has.vec) (by omega) (by omega) fun v38 v40 H41 h41 => ?_
    refine liveA_ok hc ⟨cam, first, count, ms⟩ (M := g.M) (asked := others ++ liveL ⟨cam, first, count, ms⟩ g.M) (h41.ent ee) rfl hW.fine (by omega) (by simp; omega) (fun x hx => ?_) rfl rfl rfl rfl rfl fun σ1 H1 => ?_
    · rcases List.mem_append.1 hx with h | h
      · exact ho64 x h
      · exact hdsN_lt (cnt_le _) ((srt_mem fun x h => hdsN_lt (cnt_le _) h).1 h)
    · show Cd _ _ _
      refine Cd.t (eqN_self 0) ?_
      rfl
end Go.Proofs.YtocphcgcpjcfjaaGreat

