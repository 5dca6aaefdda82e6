/- What the functions do to the memories and procs that they are given: their contracts. The conditions stand in each. -/
import Derived.Test.YtocphcgcpjcfjaaGreatDec
import Derived.Test.YtocphcgcpjcfjaaGreatDecA
import Derived.Test.YtocphcgcpjcfjaaGreatCmF
import Derived.Sort.AssemblyPlain
set_option linter.unusedVariables false
set_option linter.unusedSimpArgs false

set_option linter.unusedVariables false
set_option linter.unusedSimpArgs false
namespace Go.Proofs.YtocphcgcpjcfjaaGreat
open Go Go.CM
abbrev lives : List Nat := [10, 22]
abbrev tPl : Nat := 182
abbrev tA : Nat := 188
abbrev tU : Nat := 22
abbrev tAS : Nat := 126
abbrev tUS : Nat := 39
abbrev MemP (m : Nat) (M : Mem) : HP := MemAt tPl tA tU m M
abbrev RefP (m : Nat) (M : Mem) : HP := RefAt tA tU m M
attribute [local irreducible] AsBool AsWant AsNat AsInt AsCnt AsPtr AsSlc AsLen AsStr AsAgg AsTup AsFn AsIfc Nth Sc NotNil IsNil Must Cd codeW funW Sat SatL wrapN subM mkRow ltZ leZ ltN leN
variable {con : CallT}
theorem el_acc : elemOk Tryz.prog tAS tA 8 80 = true := by kernel_rfl
theorem el_u64 : elemOk Tryz.prog tUS tU 1 8 = true := by kernel_rfl
theorem sl_acc : ∃ e, Tryz.prog.underlying tAS = some (.slice e) := ⟨tA, by kernel_rfl⟩
theorem sl_u64 : ∃ e, Tryz.prog.underlying tUS = some (.slice e) := ⟨tU, by kernel_rfl⟩
theorem off1 (a : Nat) : Nat.add 0 (Nat.mul a 1) = a := by show 0 + a * 1 = a; omega
theorem map_get (l : List Nat) {a : Nat} (h : a < l.length) : (l.map u64)[a]? = some (u64 (l.getD a 0)) := by
  rw [List.getElem?_map, List.getElem?_eq_getElem h, List.getD_eq_getElem?_getD, List.getElem?_eq_getElem h]; rfl
theorem plainSize_ok (hc : Con con lives) {L : List HP} {H : CH} {b x c n : Nat} {o : Nat} {f : Value} {K : KP} (hs : Sat L H) [HasCell L b [slc x o n c, f]] (k : K (iN n) H) : Call1 Tryz.prog con 193 [ptr b 0] H K := by
  refine call_of (hc _ _ _ rfl) ?_
  rw [plainSize_W]
  repeat (refine gO ?_; intros)
  exact k
theorem plainLoad_ok (hc : Con con lives) {L : List HP} {H : CH} {b x c n a : Nat} {f v : Value} {cs : List Value} {K : KP} (hs : Sat L H) [HasCell L b [slc x 0 n c, f]] [HasCell L x cs] (ha : a < n) (hv : cs[a]? = some v) (k : K v H) : Call1 Tryz.prog con 191 [ptr b 0, u64 a] H K := by
  refine call_of (hc _ _ _ rfl) ?_
  rw [plainLoad_W]
  repeat (refine gO ?_; intros)
  refine Must.mk (ltN_t ha) (ld hs (by rw [off1]; exact hv) k)
theorem plainStore_ok (hc : Con con lives) {L : List HP} {H : CH} {b x c n a y : Nat} {f : Value} {cs : List Value} {F : List Value → List HP} {K : KP} (hs : Sat L H) [HasCell L b [slc x 0 n c, f]] [HasObj L x cs F] (ha : a < n) (hn : n = cs.length) (k : ∀ H1, Sat (F (cs.set a (u64 y))) H1 → K unit H1) : Call1 Tryz.prog con 194 [ptr b 0, u64 a, u64 y] H K := by
  refine call_of (hc _ _ _ rfl) ?_
  rw [plainStore_W]
  repeat (refine gO ?_; intros)
  refine Must.mk (ltN_t ha) (st hs (by rw [off1]; omega) rfl fun H1 h => k H1 ?_)
  rw [off1] at h
  exact h
theorem memHas_ok (hc : Con con lives) {L R : List HP} {H : CH} {m a : Nat} {M : Mem} {K : KP} (hs : Sat L H) (hp : Pull L (MemP m M) R) (k : K (.bool (ltN a M.cells.length)) H) : Call1 Tryz.prog con 43 [ptr m 0, u64 a] H K := by
  refine call_of (hc _ _ _ rfl) ?_
  rw [memHas_W]
  obtain ⟨h1, h2, s1, s2, d, ⟨bp, bl, tr, ⟨hn, hf⟩, hin⟩, hR⟩ := hs.opens hp
  have hs1 := Sat.merge s1 s2 d hin hR
  simp only [List.cons_append, List.nil_append] at hs1
  repeat (refine gO ?_; intros)
  refine Mth.of (f := 193) (rc := ptr bp 0) (by kernel_rfl) (by kernel_rfl) ?_
  refine plainSize_ok hc hs1 ?_
  repeat (refine gO ?_; intros)
  refine Must.mk (cv_small (by omega)) ?_
  rw [wrapN_small (by omega)]
  exact k
theorem memPeek_ok (hc : Con con lives) {L R : List HP} {H : CH} {m a : Nat} {M : Mem} {K : KP} (hs : Sat L H) (hp : Pull L (MemP m M) R) (k : K (u64 (M.peek a)) H) : Call1 Tryz.prog con 13 [ptr m 0, u64 a] H K := by
  refine call_of (hc _ _ _ rfl) ?_
  rw [memPeek_W]
  refine memHas_ok hc hs hp ?_
  obtain ⟨h1, h2, s1, s2, d, ⟨bp, bl, tr, ⟨hn, hf⟩, hin⟩, hR⟩ := hs.opens hp
  have hs1 := Sat.merge s1 s2 d hin hR
  simp only [List.cons_append, List.nil_append] at hs1
  repeat (refine gO ?_; intros)
  by_cases h : a < M.cells.length
  · refine Cd.f (by rw [ltN_t h]; rfl) ?_
    repeat (refine gO ?_; intros)
    refine Mth.of (f := 191) (rc := ptr bp 0) (by kernel_rfl) (by kernel_rfl) ?_
    exact plainLoad_ok hc hs1 h (map_get _ h) k
  · refine Cd.t (by rw [ltN_f (by omega)]; rfl) ?_
    have e : M.peek a = 0 := by unfold Mem.peek; rw [List.getD_eq_getElem?_getD, List.getElem?_eq_none (by omega)]; rfl
    rw [e] at k
    exact k
theorem note_ok (hc : Con con lives) {L R1 R2 R3 : List HP} {H : CH} {p m n : Nat} {th : Int} {M : Mem} {v0 : Value} {c : Acs} {K : KP} (hs : Sat L H) (hm' : Pull L (MemP m M) R1) (hv : Pull R1 (ViewAt p m th n) R2) (hq : Pull R2 (Nums v0 c.vals) R3)
    (hn : n < 1000000000) (ht : M.tr.length < 1000000000) (hv0 : isCell v0 = true) (k : ∀ H1, Sat (MemP m (M.note { c with th := th }) :: ViewAt p m th (n + 1) :: R3) H1 → K unit H1) :
    Call1 Tryz.prog con 82 [ptr p 0, .agg ⟨[i64 (Int.ofNat 0), u8 c.kind, u64 c.a, u64 c.x, u64 c.y, v0, u64 c.got, .bool c.ok]⟩] H K := by
  refine call_of (hc _ _ _ rfl) ?_
  rw [viewNote_W]
  have hs0 := hs.takes (.cons hm' (.cons hv (.cons hq .nil)))
  simp only [List.cons_append, List.nil_append] at hs0
  obtain ⟨h1, h2, s1, s2, d, ⟨bp, bl, tr, ⟨hn1, hf⟩, hin⟩, hR⟩ := hs0.opens Pull.here
  have hs1 := Sat.merge s1 s2 d hin hR
  simp only [List.cons_append, List.nil_append] at hs1
  obtain ⟨g1, g2, t1, t2, d2, hT, _⟩ := hs1.opens (.there (.there (.there .here)))
  obtain ⟨q, rfl⟩ := hT.shape
  repeat (refine gO ?_; intros)
  refine inR_nat (n := n + 1) (by omega) ?_
  repeat (refine gO ?_; intros)
  refine app_trace (c := { c with th := th }) (v0 := v0) (by assumption) pp pp el_acc (by omega) sl_acc hv0 ht (fun q H1 hs2 => ?_)
  repeat (refine gO ?_; intros)
  refine k _ (Sat.close (L1 := [_, _, _, _]) (Sat.ent (by assumption) ee) fun g a => ⟨bp, bl, _, ⟨hn1, hf⟩, a⟩)
end Go.Proofs.YtocphcgcpjcfjaaGreat

set_option linter.unusedVariables false
set_option linter.unusedSimpArgs false
namespace Go.Proofs.YtocphcgcpjcfjaaGreat
open Go Go.CM
attribute [local irreducible] AsBool AsWant AsNat AsInt AsCnt AsPtr AsSlc AsLen AsStr AsAgg AsTup AsFn AsIfc Nth Sc NotNil IsNil Must Cd codeW funW Sat SatL wrapN subM mkRow ltZ leZ ltN leN
variable {con : CallT}
theorem viewLoad_ok (hc : Con con lives) {L R1 R2 : List HP} {H : CH} {p m n a : Nat} {th : Int} {M : Mem} {K : KP} (hs : Sat L H) (hm : Pull L (MemP m M) R1) (hv : Pull R1 (ViewAt p m th n) R2)
    (hn : n < 1000000000) (ht : M.tr.length < 1000000000) (k : ∀ H1, Sat (MemP m (M.load th a) :: ViewAt p m th (n + 1) :: R2) H1 → K (u64 (M.peek a)) H1) : Call1 Tryz.prog con 105 [ptr p 0, u64 a] H K := by
  refine call_of (hc _ _ _ rfl) ?_
  rw [viewLoad_W]
  have hs0 := hs.takes (.cons hm (.cons hv .nil))
  simp only [List.cons_append, List.nil_append] at hs0
  repeat (refine gO ?_; intros)
  refine memPeek_ok hc hs0 pp ?_
  repeat (refine gO ?_; intros)
  refine note_ok (c := accLd 0 a (M.peek a)) (v0 := snil) hc hs0.nil pp pp pp hn ht rfl fun H1 h => ?_
  exact k _ h
theorem put_oob {M : Mem} {a x : Nat} (h : M.cells.length ≤ a) : M.put a x = M := by
  unfold Mem.put; rw [List.set_eq_of_length_le h]
theorem viewStore_ok (hc : Con con lives) {L R1 R2 : List HP} {H : CH} {p m n a x : Nat} {th : Int} {M : Mem} {K : KP} (hs : Sat L H) (hm : Pull L (MemP m M) R1) (hv : Pull R1 (ViewAt p m th n) R2)
    (hn : n < 1000000000) (ht : M.tr.length < 1000000000) (k : ∀ H1, Sat (MemP m (M.store th a x) :: ViewAt p m th (n + 1) :: R2) H1 → K unit H1) : Call1 Tryz.prog con 66 [ptr p 0, u64 a, u64 x] H K := by
  refine call_of (hc _ _ _ rfl) ?_
  rw [viewStore_W]
  have hs0 := hs.takes (.cons hm (.cons hv .nil))
  simp only [List.cons_append, List.nil_append] at hs0
  repeat (refine gO ?_; intros)
  refine memHas_ok hc hs0 pp ?_
  repeat (refine gO ?_; intros)
  refine Cd.of (fun hlt => ?_) (fun hge => ?_)
  · have hlt' : a < M.cells.length := ltN_iff.1 hlt
    obtain ⟨h1, h2, s1, s2, d, ⟨bp, bl, tr, ⟨hn1, hf⟩, hin⟩, hR⟩ := hs0.opens Pull.here
    have hs1 := Sat.merge s1 s2 d hin hR
    simp only [List.cons_append, List.nil_append] at hs1
    repeat (refine gO ?_; intros)
    refine Mth.of (f := 194) (rc := ptr bp 0) (by kernel_rfl) (by kernel_rfl) ?_
    refine plainStore_ok hc hs1 hlt' (by simp) fun H1 h => ?_
    rw [← List.map_set] at h
    have hs2 : Sat (MemP m (M.put a x) :: ViewAt p m th n :: R2) H1 := Sat.close (L1 := [_, _, _, _]) (h.ent ee) fun g a => ⟨bp, bl, tr, ⟨by rw [put_len]; exact hn1, by rw [put_len]; exact hf⟩, by rw [put_len]; exact a⟩
    refine note_ok (M := M.put a x) (c := accSt 0 a x) (v0 := snil) hc hs2.nil pp pp pp hn ht rfl fun H1 h => ?_
    exact k _ h
  · have hge' : M.cells.length ≤ a := by
      rcases Nat.lt_or_ge a M.cells.length with h | h
      · rw [ltN_t h] at hge; cases hge
      · exact h
    refine note_ok (c := accSt 0 a x) (v0 := snil) hc hs0.nil pp pp pp hn ht rfl fun H1 h => ?_
    refine k _ ?_
    unfold Mem.store
    rw [put_oob hge']
    exact h
theorem plainCas_ok (hc : Con con lives) {L : List HP} {H : CH} {b x c n a y z v : Nat} {f : Value} {cs : List Value} {F : List Value → List HP} {K : KP} (hs : Sat L H) [HasCell L b [slc x 0 n c, f]] [HasObj L x cs F] [HasCell L x cs] (ha : a < n) (hn : n = cs.length) (hv : cs[a]? = some (u64 v))
    (k : v ≠ y → K (.bool false) H) (k2 : v = y → ∀ H1, Sat (F (cs.set a (u64 z))) H1 → K (.bool true) H1) : Call1 Tryz.prog con 189 [ptr b 0, u64 a, u64 y, u64 z] H K := by
  refine call_of (hc _ _ _ rfl) ?_
  rw [plainCas_W]
  repeat (refine gO ?_; intros)
  refine Must.mk (ltN_t ha) (ld hs (by rw [off1]; exact hv) ?_)
  repeat (refine gO ?_; intros)
  by_cases e : v = y
  · refine Cd.f (by rw [eqN_t e]; rfl) ?_
    repeat (refine gO ?_; intros)
    refine Must.mk (ltN_t ha) (st hs (by rw [off1]; omega) rfl fun H1 h => k2 e H1 ?_)
    rw [off1] at h
    exact h
  · exact Cd.t (by rw [eqN_f e]; rfl) (k e)
theorem viewCas_ok (hc : Con con lives) {L R1 R2 : List HP} {H : CH} {p m n a x y : Nat} {th : Int} {M : Mem} {K : KP} (hs : Sat L H) (hm : Pull L (MemP m M) R1) (hv : Pull R1 (ViewAt p m th n) R2)
    (hn : n < 1000000000) (ht : M.tr.length < 1000000000) (k : ∀ H1, Sat (MemP m (M.cas th a x y) :: ViewAt p m th (n + 1) :: R2) H1 → K (.bool (M.swaps a x)) H1) : Call1 Tryz.prog con 110 [ptr p 0, u64 a, u64 x, u64 y] H K := by
  refine call_of (hc _ _ _ rfl) ?_
  rw [viewCas_W]
  have hs0 := hs.takes (.cons hm (.cons hv .nil))
  simp only [List.cons_append, List.nil_append] at hs0
  repeat (refine gO ?_; intros)
  refine memHas_ok hc hs0 pp ?_
  repeat (refine gO ?_; intros)
  refine Cd.of (fun hlt => ?_) (fun hge => ?_)
  · have hlt' : a < M.cells.length := ltN_iff.1 hlt
    obtain ⟨h1, h2, s1, s2, d, ⟨bp, bl, tr, ⟨hn1, hf⟩, hin⟩, hR⟩ := hs0.opens Pull.here
    have hs1 := Sat.merge s1 s2 d hin hR
    simp only [List.cons_append, List.nil_append] at hs1
    repeat (refine gO ?_; intros)
    refine Mth.of (f := 189) (rc := ptr bp 0) (by kernel_rfl) (by kernel_rfl) ?_
    refine plainCas_ok hc hs1 hlt' (by simp) (map_get _ hlt') (fun hne => ?_) (fun he H1 h => ?_)
    · have e : M.swaps a x = false := by unfold Mem.swaps Mem.peek; rw [decide_eq_false hne, Bool.and_false]
      repeat (refine gO ?_; intros)
      refine note_ok (c := accCas 0 a x y false) (v0 := snil) hc hs0.nil pp pp pp hn ht rfl fun H1 h => ?_
      have e2 : M.cas th a x y = M.note { accCas 0 a x y false with th := th } := by unfold Mem.cas; rw [e]; rfl
      rw [← e2] at h
      rw [← e]
      exact k _ h
    · have e : M.swaps a x = true := by unfold Mem.swaps Mem.peek; rw [decide_eq_true hlt', decide_eq_true he]; rfl
      rw [← List.map_set] at h
      have hs2 : Sat (MemP m (M.put a y) :: ViewAt p m th n :: R2) H1 := Sat.close (L1 := [_, _, _, _]) (h.ent ee) fun g a => ⟨bp, bl, tr, ⟨by rw [put_len]; exact hn1, by rw [put_len]; exact hf⟩, by rw [put_len]; exact a⟩
      repeat (refine gO ?_; intros)
      refine note_ok (M := M.put a y) (c := accCas 0 a x y true) (v0 := snil) hc hs2.nil pp pp pp hn ht rfl fun H1 h => ?_
      have e2 : M.cas th a x y = (M.put a y).note { accCas 0 a x y true with th := th } := by unfold Mem.cas; rw [e]; rfl
      rw [← e2] at h
      rw [← e]
      exact k _ h
  · have hge' : M.cells.length ≤ a := by
      rcases Nat.lt_or_ge a M.cells.length with h | h
      · rw [ltN_t h] at hge; cases hge
      · exact h
    have e : M.swaps a x = false := by unfold Mem.swaps; rw [decide_eq_false (by omega)]; rfl
    refine note_ok (c := accCas 0 a x y false) (v0 := snil) hc hs0.nil pp pp pp hn ht rfl fun H1 h => ?_
    have e2 : M.cas th a x y = M.note { accCas 0 a x y false with th := th } := by unfold Mem.cas; rw [e]; rfl
    rw [← e2] at h
    rw [← e]
    exact k _ h
theorem memView_ok (hc : Con con lives) {L : List HP} {H : CH} {m : Nat} {th : Int} {K : KP} (hs : Sat L H) (k : ∀ p H1, Sat (ViewAt p m th 0 :: L) H1 → K (ptr p 0) H1) : Call1 Tryz.prog con 17 [ptr m 0, i64 th] H K := by
  refine call_of (hc _ _ _ rfl) ?_
  rw [memView_W]
  exact nw hs k
def mem0 (n : Nat) : Mem := { cells := List.replicate n 0, free := 1, tr := [] }
theorem zero_u : (zeroOf Tryz.prog tU).map cellsF = some [u64 0] := by kernel_rfl
theorem rep_u (n : Nat) : (List.replicate n [u64 0]).flatten = (List.replicate n 0).map u64 := by
  induction n with
  | zero => rfl
  | succ n ih => rw [List.replicate_succ, List.replicate_succ, List.flatten_cons, List.map_cons, ih]; rfl
theorem arenaNew_ok (hc : Con con lives) {L : List HP} {H : CH} {n : Nat} {K : KP} (hs : Sat L H) (h1 : 128 ≤ n) (h2 : n ≤ 4194304) (k : ∀ m H1, Sat (MemP m (mem0 n) :: L) H1 → K (.tuple ⟨[ptr m 0, iN 0]⟩) H1) : Call1 Tryz.prog con 35 [iN n, .bool false] H K := by
  refine call_of (hc _ _ _ rfl) ?_
  rw [arenaNew_W]
  refine Cd.f (ltZ_f (by omega)) ?_
  refine Cd.f (ltZ_f (by omega)) ?_
  repeat (refine gO ?_; intros)
  refine mkS hs el_u64 zero_u (Nat.le_refl n) (by omega) (by omega) fun b H1 h => ?_
  rw [rep_u] at h
  refine Sc.mk rfl ?_
  refine nw h fun bp H2 h2 => nw h2 fun m H3 h3 => ?_
  refine k _ _ (Sat.close (L1 := [Own m [.iface tPl (ptr bp 0), .bool false, snil], Own bp [slc b 0 n n, iN 1], Row b tU 0 true ((List.replicate n 0).map u64), TrAt snil tA []]) (Sat.ent (Sat.nilT (e := tA) h3) ee) fun g a => ⟨bp, b, snil, ⟨by simp [mem0]; omega, by simp [mem0]; omega⟩, by simpa only [mem0, List.length_replicate] using a⟩)
theorem refNew_ok (hc : Con con lives) {L : List HP} {H : CH} {n : Nat} {K : KP} (hs : Sat L H) (h1 : 128 ≤ n) (h2 : n ≤ 4194304) (k : ∀ m H1, Sat (RefP m (mem0 n) :: L) H1 → K (.tuple ⟨[ptr m 0, iN 0]⟩) H1) : Call1 Tryz.prog con 69 [iN n, .bool false] H K := by
  refine call_of (hc _ _ _ rfl) ?_
  rw [refNew_W]
  refine Cd.f (ltZ_f (by omega)) ?_
  refine Cd.f (ltZ_f (by omega)) ?_
  refine mkS hs el_u64 zero_u (Nat.le_refl n) (by omega) (by omega) fun b H1 h => ?_
  rw [rep_u] at h
  refine Sc.mk rfl ?_
  refine nw h fun m H3 h3 => ?_
  refine k _ _ (Sat.close (L1 := [Own m [slc b 0 n n, iN 1, snil, .bool false], Row b tU 0 true ((List.replicate n 0).map u64), TrAt snil tA []]) (Sat.ent (Sat.nilT (e := tA) h3) ee) fun g a => ⟨b, snil, ⟨by simp [mem0]; omega, by simp [mem0]; omega⟩, by simpa only [mem0, List.length_replicate] using a⟩)
theorem refPeek_ok (hc : Con con lives) {L R : List HP} {H : CH} {m a : Nat} {M : Mem} {K : KP} (hs : Sat L H) (hp : Pull L (RefP m M) R) (k : K (u64 (M.peek a)) H) : Call1 Tryz.prog con 96 [ptr m 0, u64 a] H K := by
  refine call_of (hc _ _ _ rfl) ?_
  rw [refPeek_W]
  obtain ⟨h1, h2, s1, s2, d, ⟨bl, tr, ⟨hn, hf⟩, hin⟩, hR⟩ := hs.opens hp
  have hs1 := Sat.merge s1 s2 d hin hR
  simp only [List.cons_append, List.nil_append] at hs1
  repeat (refine gO ?_; intros)
  refine Must.mk (cv_small (by omega)) ?_
  rw [wrapN_small (by omega)]
  by_cases h : a < M.cells.length
  · refine Cd.f (leN_f h) ?_
    repeat (refine gO ?_; intros)
    refine Must.mk (ltN_t h) (ld hs1 (by rw [off1]; exact map_get _ h) k)
  · refine Cd.t (leN_t (by omega)) ?_
    have e : M.peek a = 0 := by unfold Mem.peek; rw [List.getD_eq_getElem?_getD, List.getElem?_eq_none (by omega)]; rfl
    rw [e] at k
    exact k
theorem refSet_ok (hc : Con con lives) {L R : List HP} {H : CH} {m a x : Nat} {M : Mem} {K : KP} (hs : Sat L H) (hp : Pull L (RefP m M) R) (k : ∀ H1, Sat (RefP m (M.put a x) :: R) H1 → K unit H1) : Call1 Tryz.prog con 88 [ptr m 0, u64 a, u64 x] H K := by
  refine call_of (hc _ _ _ rfl) ?_
  rw [refSet_W]
  obtain ⟨h1, h2, s1, s2, d, ⟨bl, tr, ⟨hn, hf⟩, hin⟩, hR⟩ := hs.opens hp
  have hs1 := Sat.merge s1 s2 d hin hR
  simp only [List.cons_append, List.nil_append] at hs1
  repeat (refine gO ?_; intros)
  refine Must.mk (cv_small (by omega)) ?_
  rw [wrapN_small (by omega)]
  by_cases h : a < M.cells.length
  · refine Cd.t (ltN_t h) ?_
    repeat (refine gO ?_; intros)
    refine Must.mk (ltN_t h) (st hs1 (by rw [off1]; simpa using h) rfl fun H1 h3 => k H1 ?_)
    rw [off1, ← List.map_set] at h3
    exact Sat.close (L1 := [_, _, _]) (h3.ent ee) fun g a => ⟨bl, tr, ⟨by rw [put_len]; exact hn, by rw [put_len]; exact hf⟩, by rw [put_len]; exact a⟩
  · refine Cd.f (ltN_f (by omega)) (k H ?_)
    rw [put_oob (by omega)]
    exact hs.pull hp
theorem refNote_ok (hc : Con con lives) {L R2 R3 : List HP} {H : CH} {m : Nat} {M : Mem} {v0 : Value} {c : Acs} {K : KP} (hs : Sat L H) (hm' : Pull L (RefP m M) R2) (hq : Pull R2 (Nums v0 c.vals) R3)
    (ht : M.tr.length < 1000000000) (hv0 : isCell v0 = true) (k : ∀ H1, Sat (RefP m (M.note c) :: R3) H1 → K unit H1) :
    Call1 Tryz.prog con 89 [ptr m 0, .agg ⟨[i64 c.th, u8 c.kind, u64 c.a, u64 c.x, u64 c.y, v0, u64 c.got, .bool c.ok]⟩] H K := by
  refine call_of (hc _ _ _ rfl) ?_
  rw [refNote_W]
  have hs0 := hs.takes (.cons hm' (.cons hq .nil))
  simp only [List.cons_append, List.nil_append] at hs0
  obtain ⟨h1, h2, s1, s2, d, ⟨bl, tr, ⟨hn1, hf⟩, hin⟩, hR⟩ := hs0.opens Pull.here
  have hs1 := Sat.merge s1 s2 d hin hR
  simp only [List.cons_append, List.nil_append] at hs1
  obtain ⟨g1, g2, t1, t2, d2, hT, _⟩ := hs1.opens (A := TrAt tr tA M.tr) (.there (.there .here))
  obtain ⟨q, rfl⟩ := hT.shape
  repeat (refine gO ?_; intros)
  refine app_trace (c := c) (v0 := v0) (by assumption) pp pp el_acc (by omega) sl_acc hv0 ht (fun q H1 hs2 => ?_)
  repeat (refine gO ?_; intros)
  refine k _ (Sat.close (L1 := [_, _, _]) (Sat.ent (by assumption) ee) fun g a => ⟨bl, _, ⟨hn1, hf⟩, a⟩)
theorem refLoad_ok (hc : Con con lives) {L R1 : List HP} {H : CH} {m a : Nat} {th : Int} {M : Mem} {K : KP} (hs : Sat L H) (hm : Pull L (RefP m M) R1)
    (ht : M.tr.length < 1000000000) (k : ∀ H1, Sat (RefP m (M.load th a) :: R1) H1 → K (u64 (M.peek a)) H1) : Call1 Tryz.prog con 117 [ptr m 0, i64 th, u64 a] H K := by
  refine call_of (hc _ _ _ rfl) ?_
  rw [refLoad_W]
  have hs0 := hs.pull hm
  refine refPeek_ok hc hs0 pp ?_
  repeat (refine gO ?_; intros)
  refine refNote_ok (c := accLd th a (M.peek a)) (v0 := snil) hc hs0.nil pp pp ht rfl fun H1 h => ?_
  exact k _ h
theorem refStore_ok (hc : Con con lives) {L R1 : List HP} {H : CH} {m a x : Nat} {th : Int} {M : Mem} {K : KP} (hs : Sat L H) (hm : Pull L (RefP m M) R1)
    (ht : M.tr.length < 1000000000) (k : ∀ H1, Sat (RefP m (M.store th a x) :: R1) H1 → K unit H1) : Call1 Tryz.prog con 70 [ptr m 0, i64 th, u64 a, u64 x] H K := by
  refine call_of (hc _ _ _ rfl) ?_
  rw [refStore_W]
  have hs0 := hs.pull hm
  refine refSet_ok hc hs0 pp fun H1 h => ?_
  refine refNote_ok (M := M.put a x) (c := accSt th a x) (v0 := snil) hc h.nil pp pp ht rfl fun H1 h => ?_
  exact k _ h
end Go.Proofs.YtocphcgcpjcfjaaGreat

set_option linter.unusedVariables false
set_option linter.unusedSimpArgs false
namespace Go.Proofs.YtocphcgcpjcfjaaGreat
open Go Go.CM
attribute [local irreducible] AsBool AsWant AsNat AsInt AsCnt AsPtr AsSlc AsLen AsStr AsAgg AsTup AsFn AsIfc Nth Sc NotNil IsNil Must Cd codeW funW Sat SatL wrapN subM mkRow ltZ leZ ltN leN
variable {con : CallT}
theorem cloneN_ok (hc : Con con lives) {L : List HP} {H : CH} {v : Value} {l : List Nat} {K : KP} (hs : Sat L H) (hq : Has L (Nums v l)) (hl : l.length ≤ 1000000000) (k : ∀ v' H1, isCell v' = true → Sat (Nums v' l :: L) H1 → K v' H1) : Call1 Tryz.prog con 45 [v] H K := by
  refine call_of (hc _ _ _ rfl) ?_
  rw [cloneN_W]
  rcases (hs.has hq).shape with ⟨rfl, rfl⟩ | ⟨b, o, c, rfl⟩
  · repeat (refine gO ?_; intros)
    exact k _ _ rfl hs.nil
  · refine IsNil.slc (Cd.f rfl ?_)
    refine nwR hs fun p H1 h1 => ?_
    rcases Nat.eq_zero_or_pos l.length with h0 | hpos
    · have hl0 : l = [] := List.eq_nil_of_length_eq_zero h0
      subst hl0
      refine app_none h1 el_u64 sl_u64 (Src.skip (hq.src rfl)) ?_
      exact k _ _ rfl (h1.imp fun g r => .inr ⟨p, 0, 0, tU, 0, true, [], rfl, Nat.le_refl _, Nat.le_refl _, rfl, r⟩)
    · refine app_clone (new := l.map fun x => [u64 x]) h1 el_u64 (by omega) sl_u64 (by rw [flat1]; exact hq.src rfl) (by simp) (by simp) hl hpos fun v' H2 h2 => ?_
      have h3 : Sat (Nums v' l :: L) H2 := h2.imp fun g a => a.nums
      refine k _ _ ?_ h3
      obtain ⟨p, c, rfl⟩ := (h3.has Has.nums).len
      rfl
theorem cloneA_ok (hc : Con con lives) {L : List HP} {H : CH} {v : Value} {e : Nat} {l : List (List Value)} {K : KP} (hs : Sat L H) (hq : Has L (Vec v e 8 l)) (hl : l.length ≤ 1000000000) (k : ∀ v' H1, Sat (Vec v' tA 8 l :: L) H1 → K v' H1) : Call1 Tryz.prog con 98 [v] H K := by
  refine call_of (hc _ _ _ rfl) ?_
  rw [cloneA_W]
  rcases (hs.has hq) with ⟨h8, ⟨rfl, rfl⟩ | ⟨b, h1, rfl, h3⟩⟩
  · repeat (refine gO ?_; intros)
    exact k _ _ (hs.nilV)
  · refine IsNil.slc (Cd.f rfl ?_)
    refine nwR hs fun p H1 h1 => ?_
    have hpos : 0 < l.length := by cases l with | nil => contradiction | cons _ _ => simp
    exact app_clone (new := l) h1 el_acc (by omega) sl_acc (hq.vecSrc rfl) rfl h8 hl hpos k
theorem memTraceK_ok (hc : Con con lives) {L R : List HP} {H : CH} {m : Nat} {M : Mem} {K : KP} (hs : Sat L H) (hp : Pull L (MemP m M) R) (hl : M.tr.length ≤ 1000000000) (hvl : ∀ a ∈ M.tr, a.vals.length ≤ 1000000000)
    (k : ∀ x H1, Sat (TrAt x tA M.tr :: MemP m M :: R) H1 → K x H1) : Call1 Tryz.prog con 76 [ptr m 0] H K := by
  refine call_of (hc _ _ _ rfl) ?_
  rw [memTrace_W]
  obtain ⟨h1, h2, s1, s2, d, ⟨bp, bl, tr, ⟨hn, hf⟩, hin⟩, hR⟩ := hs.opens hp
  have hs1 := Sat.merge s1 s2 d hin hR
  simp only [List.cons_append, List.nil_append] at hs1
  have hs2 : Sat (TrAt tr tA M.tr :: Own m [.iface tPl (ptr bp 0), .bool false, tr] :: Own bp [slc bl 0 M.cells.length M.cells.length, iN M.free] :: Row bl tU 0 true (M.cells.map u64) :: R) H := hs1.ent ee
  obtain ⟨g1, g2, t1, t2, d2, ⟨vs, hvs, hva⟩, hR2⟩ := hs2.opens Pull.here
  have hs3 := Sat.merge t1 t2 d2 hva hR2
  have hV : Has (Vec tr tA 8 (List.zipWith encA M.tr vs) :: valsL M.tr vs ++ (Own m [.iface tPl (ptr bp 0), .bool false, tr] :: Own bp [slc bl 0 M.cells.length M.cells.length, iN M.free] :: Row bl tU 0 true (M.cells.map u64) :: R)) (Vec tr tA 8 (List.zipWith encA M.tr vs)) := Has.vec
  have hN : ∀ (i : Nat) (c : Acs) (v : Value), M.tr[i]? = some c → vs[i]? = some v → Has (Vec tr tA 8 (List.zipWith encA M.tr vs) :: valsL M.tr vs ++ (Own m [.iface tPl (ptr bp 0), .bool false, tr] :: Own bp [slc bl 0 M.cells.length M.cells.length, iN M.free] :: Row bl tU 0 true (M.cells.map u64) :: R)) (Nums v c.vals) := fun i c v h1 h2 => Has.skip (Has.vals h1 h2)
  have hC : HasCell (Vec tr tA 8 (List.zipWith encA M.tr vs) :: valsL M.tr vs ++ (Own m [.iface tPl (ptr bp 0), .bool false, tr] :: Own bp [slc bl 0 M.cells.length M.cells.length, iN M.free] :: Row bl tU 0 true (M.cells.map u64) :: R)) m [.iface tPl (ptr bp 0), .bool false, tr] := by
    have dr : ∀ (L1 : List HP), HasCell (L1 ++ (Own m [.iface tPl (ptr bp 0), .bool false, tr] :: Own bp [slc bl 0 M.cells.length M.cells.length, iN M.free] :: Row bl tU 0 true (M.cells.map u64) :: R)) m [.iface tPl (ptr bp 0), .bool false, tr] := fun L1 => by
      induction L1 with
      | nil => exact HasCell.obj
      | cons A L1 ih => exact @HasCell.skip A m _ _ ih
    exact dr _
  have hend : ∀ {H1} {A : List HP}, Sat (A ++ (Vec tr tA 8 (List.zipWith encA M.tr vs) :: valsL M.tr vs ++ (Own m [.iface tPl (ptr bp 0), .bool false, tr] :: Own bp [slc bl 0 M.cells.length M.cells.length, iN M.free] :: Row bl tU 0 true (M.cells.map u64) :: R))) H1 → Sat (A ++ (MemP m M :: R)) H1 := fun {H1} {A} h => by
    have un : ∀ (A : List HP) {L R : List HP} {h : PH}, (∀ h, SatL L h → SatL R h) → SatL (A ++ L) h → SatL (A ++ R) h := fun A => by
      induction A with
      | nil => exact fun f a => f _ a
      | cons B A ih => exact fun f a => SatL.under (fun g => ih f) a
    have fin : ∀ h, SatL (Vec tr tA 8 (List.zipWith encA M.tr vs) :: valsL M.tr vs ++ (Own m [.iface tPl (ptr bp 0), .bool false, tr] :: Own bp [slc bl 0 M.cells.length M.cells.length, iN M.free] :: Row bl tU 0 true (M.cells.map u64) :: R)) h → SatL (MemP m M :: R) h := fun h a => by
      have b : SatL (TrAt tr tA M.tr :: (Own m [.iface tPl (ptr bp 0), .bool false, tr] :: Own bp [slc bl 0 M.cells.length M.cells.length, iN M.free] :: Row bl tU 0 true (M.cells.map u64) :: R)) h := SatL.close (L1 := Vec tr tA 8 (List.zipWith encA M.tr vs) :: valsL M.tr vs) a fun g a => ⟨vs, hvs, a⟩
      have en : Ent (TrAt tr tA M.tr :: (Own m [.iface tPl (ptr bp 0), .bool false, tr] :: Own bp [slc bl 0 M.cells.length M.cells.length, iN M.free] :: Row bl tU 0 true (M.cells.map u64) :: R)) ([Own m [.iface tPl (ptr bp 0), .bool false, tr], Own bp [slc bl 0 M.cells.length M.cells.length, iN M.free], Row bl tU 0 true (M.cells.map u64), TrAt tr tA M.tr] ++ R) := ee
      exact SatL.close (en h b) fun g a => ⟨bp, bl, tr, ⟨hn, hf⟩, a⟩
    exact Sat.mk (un A fin (Sat.out h))
  generalize (Vec tr tA 8 (List.zipWith encA M.tr vs) :: valsL M.tr vs ++ (Own m [.iface tPl (ptr bp 0), .bool false, tr] :: Own bp [slc bl 0 M.cells.length M.cells.length, iN M.free] :: Row bl tU 0 true (M.cells.map u64) :: R)) = L' at hs3 hV hN hC hend
  refine ld hs3 rfl ?_
  have lv : (List.zipWith encA M.tr vs).length = M.tr.length := by rw [List.length_zipWith, hvs, Nat.min_self]
  refine cloneA_ok hc hs3 hV (by rw [lv]; exact hl) fun x H1 h1 => ?_
  obtain ⟨px, ex⟩ := (h1.has Has.vec).shape
  rw [lv] at ex
  subst ex
  repeat (refine gO ?_; intros)
  refine LoopC.ind (n := 100) (by kernel_rfl) (fun (i : Nat) σ H => σ 3 = .slice px M.tr.length M.tr.length ∧ σ 13 = iN M.tr.length ∧ σ 14 = iN i ∧ i ≤ M.tr.length ∧ ∃ ws : List Value, ws.length = M.tr.length ∧ (∀ j, i ≤ j → ws[j]? = vs[j]?) ∧ Sat (Vec (.slice px M.tr.length M.tr.length) tA 8 (List.zipWith encA M.tr ws) :: (valsL (M.tr.take i) (ws.take i) ++ L')) H)
    (fun i => M.tr.length - i) (fun i σ H hI => ?_) 0 _ _ ⟨rfl, rfl, rfl, Nat.zero_le _, vs, hvs, fun _ _ => rfl, by rw [List.take_zero]; exact h1⟩
  obtain ⟨e3, e13, e14, hi, ws, hws, hwv, hs4⟩ := hI
  rw [memTraceL_W]
  simp only [e3, e13, e14]
  repeat (refine gO ?_; intros)
  have lw : ∀ us : List Value, us.length = M.tr.length → (List.zipWith encA M.tr us).length = M.tr.length := fun us h => by rw [List.length_zipWith, h, Nat.min_self]
  rcases Nat.lt_or_ge i M.tr.length with hlt | hge
  · refine Cd.t (ltZ_t (by omega)) ?_
    obtain ⟨a, ha⟩ : ∃ a, M.tr[i]? = some a := ⟨_, List.getElem?_eq_getElem hlt⟩
    obtain ⟨v, hv⟩ : ∃ v, vs[i]? = some v := ⟨_, List.getElem?_eq_getElem (by omega)⟩
    have hw : ws[i]? = some v := (hwv i (Nat.le_refl _)).trans hv
    obtain ⟨f1, f2, u1, u2, d4, ⟨q1, ⟨q2, q3⟩ | ⟨b, q2, q3, q4⟩⟩, q5⟩ := hs4.opens Pull.here
    · have e3 : M.tr.length = 0 := by injection q2
      omega
    rw [lw ws hws] at q3
    cases q3
    have hs5 : Sat (Row b tA 8 true (List.zipWith encA M.tr ws).flatten :: (valsL (M.tr.take i) (ws.take i) ++ L')) H := Sat.merge (L1 := [_]) u1 u2 d4 (SatL.one q4) q5
    repeat (refine gO ?_; intros)
    refine Must.mk (ltN_t hlt) ?_
    refine ldTr hs4 Has.vec rfl ha hw (j := 5) (by simp) (by omega) rfl ?_
    refine cloneN_ok hc hs5 (Has.skip (Has.app (hN i a v ha hv))) (hvl a (List.mem_of_getElem? ha)) fun v' H6 hv' h6 => ?_
    repeat (refine gO ?_; intros)
    refine Must.mk (ltN_t hlt) (Sc.mk hv' ?_)
    refine st h6 (by rw [flat_len (zip_len _ _), lw ws hws]; show 0 + i * 8 + 5 < M.tr.length * 8; omega) hv' fun H7 h7 => ?_
    rw [show Nat.add (Nat.add 0 (Nat.mul i 8)) 5 = i * 8 + 5 from by show 0 + i * 8 + 5 = _; omega, flat_set (zip_len _ _) i 5 _ v' (zip_get ha hw) (by omega)] at h7
    have e1 : (List.zipWith encA M.tr ws).set i ((encA a v).set 5 v') = List.zipWith encA M.tr (ws.set i v') := by
      apply List.ext_getElem?
      intro j
      rw [List.getElem?_set, List.getElem?_zipWith, List.getElem?_zipWith, List.getElem?_set]
      by_cases hj : i = j
      · subst hj
        rw [if_pos rfl, if_pos rfl, if_pos (by rw [lw ws hws]; exact hlt), if_pos (by omega), ha]
        rfl
      · rw [if_neg hj, if_neg hj]
    rw [e1] at h7
    repeat (refine gO ?_; intros)
    refine inR_nat (n := i + 1) (by omega) ?_
    show ∃ y, _ ∧ _
    refine ⟨i + 1, by omega, e3, e13, rfl, hlt, ws.set i v', by simp [hws], fun j hj => ?_, ?_⟩
    · rw [List.getElem?_set, if_neg (by omega)]; exact hwv j (by omega)
    · have h8 : Sat (Vec (slc b 0 M.tr.length M.tr.length) tA 8 (List.zipWith encA M.tr (ws.set i v')) :: Nums v' a.vals :: (valsL (M.tr.take i) (ws.take i) ++ L')) H7 := (h7.ent (by repeat (first | exact Ent.refl _ | apply Ent.cons pp | refine Ent.drop ?_))).imp fun g r => ⟨zip_len _ _, .inr ⟨b, by
          intro h0; have := lw (ws.set i v') (by simp [hws]); rw [h0] at this; simp at this; omega, by rw [lw _ (by simp [hws])], r⟩⟩
      have e2 : valsL (M.tr.take (i + 1)) ((ws.set i v').take (i + 1)) = valsL (M.tr.take i) (ws.take i) ++ [Nums v' a.vals] := by
        have t1 : M.tr.take (i + 1) = M.tr.take i ++ [a] := by rw [List.take_add_one, ha]; rfl
        have t2 : (ws.set i v').take (i + 1) = ws.take i ++ [v'] := by
          rw [List.take_add_one, List.getElem?_set, if_pos rfl, if_pos (by omega), List.take_set_of_le (Nat.le_refl _)]; rfl
        rw [t1, t2]
        exact zip_snoc _ (by simp; omega) a v'
      rw [e2, List.append_assoc]
      refine h8.ent ?_
      refine Ent.cons Pull.here ?_
      have mv : ∀ (L1 : List HP) {A : HP} {R : List HP}, Ent (A :: (L1 ++ R)) (L1 ++ ([A] ++ R)) := fun L1 => by
        induction L1 with
        | nil => exact fun {A R} => Ent.refl _
        | cons B L1 ih => exact fun {A R} => Ent.cons (Pull.there Pull.here) ih
      exact mv _
  · refine Cd.f (ltZ_f (by omega)) ?_
    show Cd _ _ _
    refine Cd.t (eqN_self 0) ?_
    have hie : i = M.tr.length := by omega
    subst hie
    rw [List.take_length, List.take_of_length_le (by omega)] at hs4
    have h9 : Sat ((Vec (.slice px M.tr.length M.tr.length) tA 8 (List.zipWith encA M.tr ws) :: valsL M.tr ws) ++ (MemP m M :: R)) H := hend hs4
    have e : (upd σ 15 (.bool (ltZ (Int.ofNat M.tr.length) (Int.ofNat M.tr.length)))) 3 = .slice px M.tr.length M.tr.length := e3
    show K ((upd σ 15 _) 3) H
    rw [e]
    exact k _ _ (h9.close fun g a => ⟨ws, hws, a⟩)
end Go.Proofs.YtocphcgcpjcfjaaGreat

set_option linter.unusedVariables false
set_option linter.unusedSimpArgs false
namespace Go.Proofs.YtocphcgcpjcfjaaGreat
open Go Go.CM
attribute [local irreducible] AsBool AsWant AsNat AsInt AsCnt AsPtr AsSlc AsLen AsStr AsAgg AsTup AsFn AsIfc Nth Sc NotNil IsNil Must Cd codeW funW Sat SatL wrapN subM mkRow ltZ leZ ltN leN
variable {con : CallT}
theorem plainAlloc_ok (hc : Con con lives) {R : List HP} {H : CH} {bp bl fr : Nat} {cells vals : List Nat} {v : Value} {K : KP} (hs : Sat (Own bp [slc bl 0 cells.length cells.length, iN fr] :: Row bl tU 0 true (cells.map u64) :: R) H)
    (hn : cells.length ≤ 4194304) (hf : fr ≤ cells.length) (hv : Has R (Nums v vals)) (hl : vals.length ≤ 1000000000) (hp : 0 < vals.length)
    (k0 : cells.length - fr < vals.length → K (u64 0) H) (k1 : vals.length ≤ cells.length - fr → ∀ H1, Sat (Own bp [slc bl 0 cells.length cells.length, iN (fr + vals.length)] :: Row bl tU 0 true ((ovN vals cells fr).map u64) :: R) H1 → K (u64 fr) H1) :
    Call1 Tryz.prog con 188 [ptr bp 0, v] H K := by
  refine call_of (hc _ _ _ rfl) ?_
  rw [plainAlloc_W]
  rcases (hs.has (Has.skip (Has.skip hv))).shape with ⟨rfl, rfl⟩ | ⟨b, o, c, rfl⟩
  · simp at hp
  repeat (refine gO ?_; intros)
  rw [subInt hf]
  refine inR_nat (by omega) ?_
  refine Cd.of (fun h => ?_) (fun h => ?_)
  · refine k0 ?_
    exact ltZ_e h
  · have hle : vals.length ≤ cells.length - fr := ltZ_n h
    repeat (refine gO ?_; intros)
    have hs2 : Sat (Row bl tU 0 true (cells.map u64) :: Own bp [slc bl 0 cells.length cells.length, iN fr] :: R) H := hs.ent ee
    refine slcR hs2 el_u64 hf (Nat.le_refl _) fun o' ho' => ?_
    obtain rfl := ho' (by omega)
    refine cpy (n := vals.length) hs el_u64 (Nat.min_eq_left (by omega)) (Src.skip (Src.skip (hv.src rfl))) (by simp) (by simp; omega) (isCell_u64 _) fun H1 h1 => ?_
    rw [Nat.mul_one, ovw_map] at h1
    repeat (refine gO ?_; intros)
    rw [addInt]
    refine inR_nat (by omega) ?_
    refine stB h1 rfl rfl fun H2 h2 => ?_
    repeat (refine gO ?_; intros)
    refine Must.mk (cv_small (by omega)) ?_
    rw [wrapN_small (by omega)]
    exact k1 hle _ h2
theorem viewAlloc_ok (hc : Con con lives) {L R1 R2 : List HP} {H : CH} {p m n : Nat} {th : Int} {M : Mem} {v : Value} {vals : List Nat} {K : KP} (hs : Sat L H) (hm : Pull L (MemP m M) R1) (hv : Pull R1 (ViewAt p m th n) R2) (hq : Has R2 (Nums v vals)) (hl : vals.length ≤ 1000000000)
    (hn : n < 1000000000) (ht : M.tr.length < 1000000000) (k : ∀ H1, Sat (MemP m (M.alloc th vals) :: ViewAt p m th (n + 1) :: R2) H1 → K (u64 (M.room vals)) H1) : Call1 Tryz.prog con 36 [ptr p 0, v] H K := by
  refine call_of (hc _ _ _ rfl) ?_
  rw [viewAlloc_W]
  have hs0 := hs.takes (.cons hm (.cons hv .nil))
  simp only [List.cons_append, List.nil_append] at hs0
  have tail : ∀ {a : Nat} {M' : Mem} {H1 : CH} {K' : KP}, Sat (MemP m M' :: ViewAt p m th n :: R2) H1 → M'.tr.length < 1000000000 → (∀ H2, Sat (MemP m (M'.note (accNew th a vals)) :: ViewAt p m th (n + 1) :: R2) H2 → K' (u64 a) H2) →
      Call1 Tryz.prog con 45 [v] H1 fun v8 H9 => Sc (u64 a) (Sc v8 (Call1 Tryz.prog con 82 [ptr p 0, .agg ⟨[i64 (Int.ofNat 0), u8 5, u64 a, u64 0, u64 0, v8, u64 0, .bool false]⟩] H9 fun v10 H11 => K' (u64 a) H11)) := by
    intro a M' H1 K' h1 ht' k'
    refine cloneN_ok hc h1 (Has.skip (Has.skip hq)) hl fun v' H2 hc' h2 => ?_
    refine Sc.mk rfl (Sc.mk hc' ?_)
    exact note_ok (th := th) (M := M') (c := accNew 0 a vals) (v0 := v') hc h2 pp pp pp hn ht' hc' fun H3 h3 => k' _ h3
  obtain ⟨pv, cv, rfl⟩ := (hs0.has (Has.skip (Has.skip hq))).len
  repeat (refine gO ?_; intros)
  refine Cd.of (fun h => ?_) (fun h => ?_)
  · have hpos : 0 < vals.length := ltZ_e h
    obtain ⟨h1, h2, s1, s2, d, ⟨bp, bl, tr, ⟨hn1, hf1⟩, hin⟩, hR⟩ := hs0.opens Pull.here
    have hs1 := Sat.merge s1 s2 d hin hR
    simp only [List.cons_append, List.nil_append] at hs1
    repeat (refine gO ?_; intros)
    refine Mth.of (f := 188) (rc := ptr bp 0) (by kernel_rfl) (by kernel_rfl) ?_
    have hs2 : Sat (Own bp [slc bl 0 M.cells.length M.cells.length, iN M.free] :: Row bl tU 0 true (M.cells.map u64) :: Own m [.iface tPl (ptr bp 0), .bool false, tr] :: TrAt tr tA M.tr :: ViewAt p m th n :: R2) H := hs1.ent ee
    refine plainAlloc_ok hc hs2 hn1 hf1 (Has.skip (Has.skip (Has.skip hq))) hl hpos (fun hlt => ?_) (fun hle H3 h3 => ?_)
    · have hno : ¬ (0 < vals.length ∧ vals.length ≤ M.cells.length - M.free) := by omega
      have e1 := room_f hno
      rw [alloc_f hno, e1] at k
      exact tail hs0 ht k
    · rw [alloc_t hpos hle, room_t hpos hle] at k
      have h4 : Sat (MemP m (M.take vals) :: ViewAt p m th n :: R2) H3 := Sat.close (L1 := [Own m [.iface tPl (ptr bp 0), .bool false, tr], Own bp [slc bl 0 M.cells.length M.cells.length, iN (M.free + vals.length)], Row bl tU 0 true ((ovN vals M.cells M.free).map u64), TrAt tr tA M.tr]) (h3.ent ee) fun g a => ⟨bp, bl, tr, ⟨by show (ovN vals M.cells M.free).length ≤ _; rw [ovN_len]; exact hn1, by show M.free + vals.length ≤ (ovN vals M.cells M.free).length; rw [ovN_len]; omega⟩, by show SatL [_, Own bp [slc bl 0 (ovN vals M.cells M.free).length (ovN vals M.cells M.free).length, iN (M.free + vals.length)], _, _] g; rw [ovN_len]; exact a⟩
      exact tail h4 ht k
  · have h0 : vals.length = 0 := by
      have := ltZ_n h
      omega
    have hno : ¬ (0 < vals.length ∧ vals.length ≤ M.cells.length - M.free) := by omega
    rw [alloc_f hno, room_f hno] at k
    have := tail (a := 0) (K' := K) hs0 ht k
    refine cloneN_ok hc hs0 (Has.skip (Has.skip hq)) hl fun v' H2 hc' h2 => ?_
    refine Sc.mk hc' ?_
    exact note_ok (th := th) (M := M) (c := accNew 0 0 vals) (v0 := v') hc h2 pp pp pp hn ht hc' fun H3 h3 => k _ h3
theorem refLeft_ok (hc : Con con lives) {L R : List HP} {H : CH} {m : Nat} {M : Mem} {K : KP} (hs : Sat L H) (hp : Pull L (RefP m M) R) (k : M.free ≤ M.cells.length → M.cells.length ≤ 4194304 → K (iN (M.cells.length - M.free)) H) : Call1 Tryz.prog con 112 [ptr m 0] H K := by
  refine call_of (hc _ _ _ rfl) ?_
  rw [refLeft_W]
  obtain ⟨h1, h2, s1, s2, d, ⟨bl, tr, ⟨hn, hf⟩, hin⟩, hR⟩ := hs.opens hp
  have hs1 := Sat.merge s1 s2 d hin hR
  simp only [List.cons_append, List.nil_append] at hs1
  repeat (refine gO ?_; intros)
  rw [subInt hf]
  refine inR_nat (by omega) ?_
  exact k hf hn
theorem refAlloc_ok (hc : Con con lives) {L R : List HP} {H : CH} {m : Nat} {th : Int} {M : Mem} {v : Value} {vals : List Nat} {K : KP} (hs : Sat L H) (hp : Pull L (RefP m M) R) (hq : Has R (Nums v vals)) (hl : vals.length ≤ 1000000000)
    (ht : M.tr.length < 1000000000) (k : ∀ H1, Sat (RefP m (M.alloc th vals) :: R) H1 → K (u64 (M.room vals)) H1) : Call1 Tryz.prog con 90 [ptr m 0, i64 th, v] H K := by
  refine call_of (hc _ _ _ rfl) ?_
  rw [refAlloc_W]
  have hs0 := hs.pull hp
  have app : ∀ {M' : Mem} {H1 : CH} {K' : KP}, Sat (RefP m M' :: R) H1 → (∀ v' H2, isCell v' = true → Sat (Nums v' vals :: RefP m M' :: R) H2 → K' v' H2) → App Tryz.prog tUS tUS H1 (.slice none 0 0) v K' := by
    intro M' H1 K' h1 k'
    have h2 := h1.nilV (e := tU) (s := 1)
    rcases (h1.has (Has.skip hq)).shape with ⟨rfl, rfl⟩ | ⟨b, o, c, rfl⟩
    · exact App.of (v := snil) (H1 := H1) (by kernel_rfl) (k' _ _ rfl h1.nil)
    · refine app_vec (x := .slice none 0 0) (new := vals.map fun x => [u64 x]) h2 pp el_u64 (by omega) sl_u64 (by rw [flat1]; exact Src.skip (Src.skip (hq.src rfl))) (by simp) (by simp) (by simpa using hl) (by rw [flat1]; exact isCell_u64 _) fun v' H2 h3 => ?_
      rw [List.nil_append] at h3
      have h4 : Sat (Nums v' vals :: RefP m M' :: R) H2 := h3.imp fun g a => a.nums
      obtain ⟨p, c', rfl⟩ := (h4.has Has.nums).len
      exact k' _ _ rfl h4
  have tail : ∀ {a : Nat} {M' : Mem} {H1 : CH} {K' : KP}, a < 9223372036854775808 → Sat (RefP m M' :: R) H1 → M'.tr.length < 1000000000 → (∀ H2, Sat (RefP m (M'.note (accNew th a vals)) :: R) H2 → K' (u64 a) H2) →
      App Tryz.prog tUS tUS H1 (.slice none 0 0) v fun v26 H27 => Must (cvOk .i64 (Int.ofNat a)) (Sc v26 (Call1 Tryz.prog con 89 [ptr m 0, .agg ⟨[i64 th, u8 5, u64 (wrapN .u64 (Int.ofNat a)), u64 0, u64 0, v26, u64 0, .bool false]⟩] H27 fun v28 H29 => Must (cvOk .i64 (Int.ofNat a)) (K' (u64 (wrapN .u64 (Int.ofNat a))) H29))) := by
    intro a M' H1 K' ha h1 ht' k'
    refine app h1 fun v' H2 hc' h2 => ?_
    refine Must.mk (cv_small ha) (Sc.mk hc' ?_)
    rw [wrapN_small (by omega)]
    exact refNote_ok (M := M') (c := accNew th a vals) (v0 := v') hc h2 pp pp ht' hc' fun H3 h3 => Must.mk (cv_small ha) (k' _ h3)
  obtain ⟨pv, cv, ev⟩ := (hs0.has (Has.skip hq)).len
  have eL : ∀ {K : Nat → Prop}, K vals.length → AsLen v K := fun {K} h => by rw [ev]; exact AsLen.mk h
  refine eL ?_
  refine Cd.of (fun h => ?_) (fun h => ?_)
  · have hpos : 0 < vals.length := ltZ_e h
    refine eL ?_
    refine refLeft_ok hc hs0 pp fun hfree hcells => ?_
    repeat (refine gO ?_; intros)
    refine Cd.of (fun h => ?_) (fun h => ?_)
    · have hle : vals.length ≤ M.cells.length - M.free := leZ_e h
      rw [alloc_t hpos hle, room_t hpos hle] at k
      obtain ⟨h1, h2, s1, s2, d, ⟨bl, tr, ⟨hn1, hf1⟩, hin⟩, hR⟩ := hs0.opens Pull.here
      have hs1 := Sat.merge s1 s2 d hin hR
      simp only [List.cons_append, List.nil_append] at hs1
      refine ld hs1 rfl (ld hs1 rfl (eL (AsInt.mk ?_)))
      rw [addInt]
      refine inR_nat (by omega) ?_
      refine stB hs1 rfl rfl fun H2 h2 => ?_
      refine LoopC.indP (n := 100) (id := 0) (fun σ H => σ 0 = ptr m 0 ∧ σ 1 = i64 th ∧ σ 2 = v ∧ σ 7 = iN M.free ∧ Sat (RefP m (M.take vals) :: R) H) (by kernel_rfl)
        (fun (i : Nat) σ H => σ 0 = ptr m 0 ∧ σ 1 = i64 th ∧ σ 2 = v ∧ σ 7 = iN M.free ∧ σ 8 = iN i ∧ i ≤ vals.length ∧ ∃ cs : List Nat, cs.length = M.cells.length ∧ ovN (vals.drop i) cs (M.free + i) = ovN vals M.cells M.free ∧
          Sat (Own m [slc bl 0 M.cells.length M.cells.length, iN (M.free + vals.length), tr, .bool false] :: Row bl tU 0 true (cs.map u64) :: TrAt tr tA M.tr :: R) H) (fun i => vals.length - i) (fun i σ H hI => ?_) (fun σ H hP => ?_) 0 _ _
        ⟨rfl, rfl, rfl, rfl, rfl, Nat.zero_le _, M.cells, rfl, rfl, h2⟩
      · obtain ⟨e0, e1, e2, e7, e8, hi, cs, hcs, hov, hs2⟩ := hI
        rw [refAllocL_W]
        simp only [e0, e1, e2, e7, e8]
        refine eL ?_
        repeat (refine gO ?_; intros)
        by_cases hlt : i < vals.length
        · refine Cd.t (ltZ_t hlt) ?_
          repeat (refine gO ?_; intros)
          rw [addInt]
          refine inR_nat (by omega) ?_
          have eS : ∃ b o c, v = slc b o vals.length c := by
            rcases (hs2.has (Has.skip (Has.skip (Has.skip hq)))).shape with ⟨_, h4⟩ | ⟨b, o, c, h⟩
            · rw [h4] at hlt; simp at hlt
            · exact ⟨b, o, c, h⟩
          obtain ⟨b, o, c, e3⟩ := eS
          have hsrc := hq.src e3
          rw [e3]
          repeat (refine gO ?_; intros)
          refine Must.mk (ltN_t hlt) ?_
          refine ldSrc hs2 (Src.skip (Src.skip (Src.skip hsrc))) (by rw [show Nat.mul i 1 = i from Nat.mul_one i]; rfl) (map_get _ hlt) ?_
          repeat (refine gO ?_; intros)
          refine Must.mk (ltN_t (by omega)) ?_
          refine Sc.mk rfl (st hs2 (by rw [off1]; simp [hcs]; omega) rfl fun H5 h5 => ?_)
          rw [off1, ← List.map_set] at h5
          repeat (refine gO ?_; intros)
          rw [show Int.add (Int.ofNat i) (Int.ofNat 1) = Int.ofNat (i + 1) from rfl]
          refine inR_nat (n := i + 1) (by omega) ?_
          show ∃ y, _ ∧ _
          refine ⟨i + 1, by omega, e0, e1, e2.trans e3, e7, rfl, hlt, cs.set (M.free + i) (vals.getD i 0), by simp [hcs], ?_, h5⟩
          rw [← hov, List.drop_eq_getElem_cons hlt, ovN, List.getD_eq_getElem?_getD, List.getElem?_eq_getElem hlt]
          rfl
        · refine Cd.f (ltZ_f (by omega)) ?_
          show _ = _ ∧ _
          have : i = vals.length := by omega
          subst this
          rw [List.drop_of_length_le (Nat.le_refl _)] at hov
          simp only [ovN] at hov
          subst hov
          exact ⟨rfl, e0, e1, e2, e7, Sat.close (L1 := [_, _, _]) (hs2.ent ee) fun g a => ⟨bl, tr, ⟨by show (ovN vals M.cells M.free).length ≤ _; rw [ovN_len]; exact hn1, by show M.free + vals.length ≤ (ovN vals M.cells M.free).length; rw [ovN_len]; omega⟩, by show SatL [Own m [slc bl 0 (ovN vals M.cells M.free).length (ovN vals M.cells M.free).length, iN (M.free + vals.length), tr, .bool false], _, _] g; rw [ovN_len]; exact a⟩⟩
      · obtain ⟨e0, e1, e2, e7, hs2⟩ := hP
        show Cd _ _ _
        refine Cd.t (eqN_self 0) ?_
        simp only [e0, e1, e2, e7]
        refine app hs2 fun v' H2 hc' h2 => ?_
        refine AsInt.mk (Must.mk (cv_small (by omega)) (Sc.mk rfl (Sc.mk hc' ?_)))
        rw [wrapN_small (by omega)]
        exact refNote_ok (M := M.take vals) (c := accNew th M.free vals) (v0 := v') hc h2 pp pp ht hc' fun H3 h3 => AsInt.mk (Must.mk (cv_small (by omega)) (by rw [wrapN_small (by omega)]; exact k _ h3))
    · have hno : ¬ (0 < vals.length ∧ vals.length ≤ M.cells.length - M.free) := by
        have := leZ_n h
        omega
      rw [alloc_f hno, room_f hno] at k
      exact tail (a := 0) (by omega) hs0 ht k
  · have hno : ¬ (0 < vals.length ∧ vals.length ≤ M.cells.length - M.free) := by
      have := ltZ_n h
      omega
    rw [alloc_f hno, room_f hno] at k
    exact tail (a := 0) (by omega) hs0 ht k
end Go.Proofs.YtocphcgcpjcfjaaGreat

set_option linter.unusedVariables false
set_option linter.unusedSimpArgs false
namespace Go.Proofs.YtocphcgcpjcfjaaGreat
open Go Go.CM
attribute [local irreducible] AsBool AsWant AsNat AsInt AsCnt AsPtr AsSlc AsLen AsStr AsAgg AsTup AsFn AsIfc Nth Sc NotNil IsNil Must Cd codeW funW Sat SatL wrapN subM mkRow ltZ leZ ltN leN
variable {con : CallT}
theorem refCas_ok (hc : Con con lives) {L R : List HP} {H : CH} {m a x y : Nat} {th : Int} {M : Mem} {K : KP} (hs : Sat L H) (hp : Pull L (RefP m M) R) (ht : M.tr.length < 1000000000)
    (k : ∀ H1, Sat (RefP m (M.cas th a x y) :: R) H1 → K (.bool (M.swaps a x)) H1) : Call1 Tryz.prog con 140 [ptr m 0, i64 th, u64 a, u64 x, u64 y] H K := by
  refine call_of (hc _ _ _ rfl) ?_
  rw [refCas_W]
  have hs0 := hs.pull hp
  obtain ⟨h1, h2, s1, s2, d, ⟨bl, tr, ⟨hn1, hf1⟩, hin⟩, hR⟩ := hs0.opens Pull.here
  have hs1 := Sat.merge s1 s2 d hin hR
  simp only [List.cons_append, List.nil_append] at hs1
  repeat (refine gO ?_; intros)
  refine Must.mk (cv_small (by omega)) ?_
  rw [wrapN_small (by omega)]
  by_cases hlt : a < M.cells.length
  · refine Cd.t (ltN_t hlt) ?_
    repeat (refine gO ?_; intros)
    refine Must.mk (ltN_t hlt) (ld hs1 (by rw [off1]; exact map_get _ hlt) ?_)
    repeat (refine gO ?_; intros)
    by_cases e : M.peek a = x
    · have es : M.swaps a x = true := by unfold Mem.swaps; rw [decide_eq_true hlt, decide_eq_true e]; rfl
      have e2 : M.cas th a x y = (M.put a y).note (accCas th a x y true) := by unfold Mem.cas; rw [es]; rfl
      rw [e2, es] at k
      refine Cd.t (eqN_t e) ?_
      refine refSet_ok hc hs0 pp fun H1 h1 => ?_
      rw [show eqN (M.cells.getD a 0) x = true from eqN_t e]
      exact refNote_ok (M := M.put a y) (c := accCas th a x y true) (v0 := snil) hc h1.nil pp pp ht rfl fun H1 h => k _ h
    · have es : M.swaps a x = false := by unfold Mem.swaps; rw [decide_eq_false e, Bool.and_false]
      have e2 : M.cas th a x y = M.note (accCas th a x y false) := by unfold Mem.cas; rw [es]; rfl
      rw [e2, es] at k
      refine Cd.f (eqN_f e) ?_
      rw [show eqN (M.cells.getD a 0) x = false from eqN_f e]
      exact refNote_ok (c := accCas th a x y false) (v0 := snil) hc hs0.nil pp pp ht rfl fun H1 h => k _ h
  · have es : M.swaps a x = false := by unfold Mem.swaps; rw [decide_eq_false hlt]; rfl
    have e2 : M.cas th a x y = M.note (accCas th a x y false) := by unfold Mem.cas; rw [es]; rfl
    rw [e2, es] at k
    refine Cd.f (ltN_f (by omega)) ?_
    exact refNote_ok (c := accCas th a x y false) (v0 := snil) hc hs0.nil pp pp ht rfl fun H1 h => k _ h
end Go.Proofs.YtocphcgcpjcfjaaGreat

set_option linter.unusedVariables false
set_option linter.unusedSimpArgs false
namespace Go.Proofs.YtocphcgcpjcfjaaGreat
open Go Go.CM
attribute [local irreducible] AsBool AsWant AsNat AsInt AsCnt AsPtr AsSlc AsLen AsStr AsAgg AsTup AsFn AsIfc Nth Sc NotNil IsNil Must Cd codeW funW Sat SatL wrapN subM mkRow ltZ leZ ltN leN
variable {con : CallT}
theorem slot_eq (H : CH) (a0 a1 a2 b0 b1 b2 : Nat) : ceq Tryz.prog H 10000 157 (.agg ⟨[u8 a0, u64 a1, u64 a2]⟩) (.agg ⟨[u8 b0, u64 b1, u64 b2]⟩) = some (eqN a0 b0 && (eqN a1 b1 && (eqN a2 b2 && true))) := by
  have e : ceq Tryz.prog H 10000 157 (.agg ⟨[u8 a0, u64 a1, u64 a2]⟩) (.agg ⟨[u8 b0, u64 b1, u64 b2]⟩) = brk (Int.ofNat a0 == Int.ofNat b0) (brk (Int.ofNat a1 == Int.ofNat b1) (brk (Int.ofNat a2 == Int.ofNat b2) (some true))) := by kernel_rfl
  rw [e, eqInt, eqInt, eqInt, brk_eq, brk_eq, brk_eq]
theorem slot_guard : Tryz.prog.eqGuardType Tryz.prog.depth 157 = false := by kernel_rfl
abbrev unpackL (w : Nat) : List Value := [u8 (kindW w), u64 (genW w), u64 (stampW w)]
theorem wordUnpack_ok (hc : Con con lives) {L : List HP} {H : CH} {w : Nat} {K : KP} (hs : Sat L H) (hw : w < 18446744073709551616) (k : ∀ H1, Sat L H1 → K (.agg ⟨unpackL w⟩) H1) : Call1 Tryz.prog con 100 [u64 w] H K := by
  refine call_of (hc _ _ _ rfl) ?_
  rw [wordUnpack_W]
  repeat (refine gO ?_; intros)
  refine CInt.and hw (by omega) (and3 w) ?_
  repeat (refine gO ?_; intros)
  refine CInt.and (by show w / 4 < _; omega) (by omega) (and20 _) ?_
  repeat (refine gO ?_; intros)
  rename_i p1 H2 h2
  refine stN h2 (Nat.le_of_ble_eq_true rfl) rfl fun H6 h6 => ?_
  repeat (refine gO ?_; intros)
  have e : unpackL w = [u8 (Nat.mod (w % 4) 256), u64 (w / 4 % 1048576), u64 (w / 4194304)] := by
    unfold unpackL kindW genW stampW
    rw [show Nat.mod (w % 4) 256 = w % 4 from Nat.mod_eq_of_lt (by omega)]
  have := k H6 (h6.ent ee)
  rw [e] at this
  exact this
theorem rUnpack_ok (hc : Con con lives) {L : List HP} {H : CH} {w : Nat} {K : KP} (hs : Sat L H) (hw : w < 18446744073709551616) (k : ∀ H1, Sat L H1 → K (.agg ⟨unpackL w⟩) H1) : Call1 Tryz.prog con 95 [u64 w] H K := by
  refine call_of (hc _ _ _ rfl) ?_
  rw [rUnpack_W]
  repeat (refine gO ?_; intros)
  rename_i p1 H2 h2
  refine stN h2 (Nat.le_of_ble_eq_true rfl) rfl fun H6 h6 => ?_
  repeat (refine gO ?_; intros)
  have e : unpackL w = [u8 (Nat.mod (Nat.mod w 4) 256), u64 (Nat.mod (Nat.mod (Nat.div w 4) 18446744073709551616) 1048576), u64 (Nat.mod (Nat.div (Nat.mod (Nat.div w 4) 18446744073709551616) 1048576) 18446744073709551616)] := by
    unfold unpackL kindW genW stampW
    have h1 : Nat.mod (Nat.mod w 4) 256 = w % 4 := by show w % 4 % 256 = _; omega
    have h2 : Nat.mod (Nat.mod (Nat.div w 4) 18446744073709551616) 1048576 = w / 4 % 1048576 := by show w / 4 % 18446744073709551616 % 1048576 = _; omega
    have h3 : Nat.mod (Nat.div (Nat.mod (Nat.div w 4) 18446744073709551616) 1048576) 18446744073709551616 = w / 4194304 := by show w / 4 % 18446744073709551616 / 1048576 % 18446744073709551616 = _; omega
    rw [h1, h2, h3]
  have := k H6 (h6.ent ee)
  rw [e] at this
  exact this
theorem wordPack_ok (hc : Con con lives) {L : List HP} {H : CH} {c g : Nat} {K : KP} (hs : Sat L H) (h3 : c ≤ 3) (hg : g < 1048576) (k : ∀ H1, Sat L H1 → K (.tuple ⟨[u64 (c + 4 * g), iN 0]⟩) H1) : Call1 Tryz.prog con 137 [.agg ⟨[u8 c, u64 g, u64 0]⟩] H K := by
  refine call_of (hc _ _ _ rfl) ?_
  rw [wordPack_W]
  repeat (refine gO ?_; intros)
  refine Cd.f (ltN_f h3) ?_
  repeat (refine gO ?_; intros)
  refine Cd.f (leN_f hg) ?_
  repeat (refine gO ?_; intros)
  refine Must.mk (ltN_t (by omega)) ?_
  repeat (refine gO ?_; intros)
  refine CInt.or (m := c + 4 * g) (by omega) (Nat.mod_lt _ (by omega)) ?_ (by omega) ?_
  · rw [show Nat.mod (Nat.mul g 4) 18446744073709551616 = g * 4 from Nat.mod_eq_of_lt (by show g * 4 < _; omega)]
    exact or4 (by omega)
  repeat (refine gO ?_; intros)
  refine CInt.or (m := c + 4 * g) (by omega) (Nat.mod_lt _ (by omega)) (Nat.or_zero _) (by omega) ?_
  exact k _ (Sat.ent (by assumption) ee)
theorem wordPack1_ok (hc : Con con lives) {L : List HP} {H : CH} {K : KP} (hs : Sat L H) (k : ∀ H1, Sat L H1 → K (.tuple ⟨[u64 4194304, iN 0]⟩) H1) : Call1 Tryz.prog con 137 [.agg ⟨[u8 0, u64 0, u64 1]⟩] H K := by
  refine call_of (hc _ _ _ rfl) ?_
  rw [wordPack_W]
  repeat (refine gO ?_; intros)
  refine Must.mk (ltN_t (by omega)) ?_
  repeat (refine gO ?_; intros)
  refine CInt.or (m := 0) (by omega) (by decide) (by decide) (by omega) ?_
  repeat (refine gO ?_; intros)
  refine CInt.or (m := 4194304) (by omega) (by decide) (by decide) (by omega) ?_
  exact k _ (Sat.ent (by assumption) ee)
theorem annPack_ok (hc : Con con lives) {L : List HP} {H : CH} {c g t : Nat} {K : KP} (hs : Sat L H) (h3 : c ≤ 3) (k : ∀ H1, Sat L H1 → K (u64 (slotW c g t)) H1) : Call1 Tryz.prog con 111 [.agg ⟨[u8 c, u64 g, u64 t]⟩] H K := by
  refine call_of (hc _ _ _ rfl) ?_
  rw [annPack_W]
  repeat (refine gO ?_; intros)
  refine wordPack_ok hc (by assumption) h3 (Nat.mod_lt _ (by omega)) fun H7 h7 => ?_
  refine AsTup.mk (Nth.mk rfl (AsTup.mk (Nth.mk rfl ?_)))
  refine wordPack1_ok hc h7 fun H13 h13 => ?_
  refine AsTup.mk (Nth.mk rfl (AsTup.mk (Nth.mk rfl ?_)))
  repeat (refine gO ?_; intros)
  have e : slotW c g t = Nat.mod (Nat.add (c + 4 * (Nat.mod g 1048576)) (Nat.mod (Nat.mul 4194304 t) 18446744073709551616)) 18446744073709551616 := by
    show _ = (c + 4 * (g % 1048576) + (4194304 * t) % 18446744073709551616) % 18446744073709551616
    unfold slotW
    rw [Nat.mul_comm t, Nat.add_mod_mod]
  rw [← e]
  exact k _ (h13.ent ee)
theorem rWord_ok (hc : Con con lives) {L : List HP} {H : CH} {c g t : Nat} {K : KP} (hs : Sat L H) (h3 : c ≤ 3) (k : ∀ H1, Sat L H1 → K (u64 (slotW c g t)) H1) : Call1 Tryz.prog con 151 [.agg ⟨[u8 c, u64 g, u64 t]⟩] H K := by
  refine call_of (hc _ _ _ rfl) ?_
  rw [rWord_W]
  repeat (refine gO ?_; intros)
  refine Must.mk (ltN_t (by omega)) ?_
  repeat (refine gO ?_; intros)
  have e : slotW c g t = Nat.mod (Nat.add (Nat.mod (Nat.add (Nat.mod c 4) (Nat.mod (Nat.mul 4 (Nat.mod g 1048576)) 18446744073709551616)) 18446744073709551616) (Nat.mod (Nat.mul (Nat.mod (Nat.mul t 4) 18446744073709551616) 1048576) 18446744073709551616)) 18446744073709551616 := by
    show _ = ((c % 4 + 4 * (g % 1048576) % 18446744073709551616) % 18446744073709551616 + (t * 4 % 18446744073709551616 * 1048576) % 18446744073709551616) % 18446744073709551616
    unfold slotW
    omega
  rw [← e]
  exact k _ (Sat.ent (by assumption) ee)
theorem rWord13_ok (hc : Con con lives) {L : List HP} {H : CH} {c g t : Nat} {K : KP} (hs : Sat L H) (h3 : c ≤ 3) (k : ∀ H1, Sat L H1 → K (u64 (slotW c g t)) H1) : Call1 Tryz.prog con 141 [u8 c, u64 g, u64 t] H K := by
  refine call_of (hc _ _ _ rfl) ?_
  rw [rWord13_W]
  exact rWord_ok hc hs h3 k
def hOk (h : Nat) : Bool := decide (1 ≤ h % 65536) && (decide (h % 65536 ≤ 256) && decide (h / 65536 < 1048576))
theorem wordHandle_ok (hc : Con con lives) {H : CH} {i g : Nat} {K : KP} (hi : i < 256) (hg : g < 1048576) (k : K (.tuple ⟨[u64 (i + 1 + g * 65536), iN 0]⟩) H) : Call1 Tryz.prog con 78 [iN i, u64 g] H K := by
  refine call_of (hc _ _ _ rfl) ?_
  rw [wordHandle_W]
  refine Cd.f (ltZ_f (by omega)) (Cd.f (leZ_f hi) (Cd.f (leN_f hg) (Must.mk (cv_small (by omega)) ?_)))
  have e : Nat.mod (Nat.add (Nat.mod (Nat.add (wrapN .u64 (Int.ofNat i)) 1) 18446744073709551616) (Nat.mod (Nat.mul 65536 g) 18446744073709551616)) 18446744073709551616 = i + 1 + g * 65536 := by
    rw [wrapN_small (by omega)]
    show ((i + 1) % 18446744073709551616 + 65536 * g % 18446744073709551616) % 18446744073709551616 = _
    omega
  rw [e]
  exact k
theorem wordUnhandle_ok (hc : Con con lives) {H : CH} {h : Nat} {K : KP} (hh : h < 18446744073709551616) (kf : hOk h = false → K (.tuple ⟨[iN 0, u64 0, iN 33]⟩) H) (kt : hOk h = true → K (.tuple ⟨[iN (h % 65536 - 1), u64 (h / 65536), iN 0]⟩) H) :
    Call1 Tryz.prog con 104 [u64 h] H K := by
  refine call_of (hc _ _ _ rfl) ?_
  rw [wordUnhandle_W]
  have e1 : IntKind.wrap .i64 (Int.ofNat (Nat.mod h 65536)) = Int.ofNat (h % 65536) := wrapI_small (by show h % 65536 < _; omega)
  have e2 : Nat.mod (Nat.div h 65536) 18446744073709551616 = h / 65536 := Nat.mod_eq_of_lt (by show h / 65536 < _; omega)
  rw [e1, e2]
  by_cases h0 : h % 65536 = 0
  · have e3 : Int.sub (Int.ofNat (h % 65536)) (Int.ofNat 1) = Int.negSucc 0 := by rw [h0]; rfl
    rw [e3]
    have hf : hOk h = false := by unfold hOk; rw [decide_eq_false (by omega)]; rfl
    refine ⟨⟨by decide, by decide⟩, ?_⟩
    refine call_of (hc _ _ _ rfl) ?_
    rw [wordHandle_W]
    refine Cd.t ltZ_neg ?_
    refine AsTup.mk (Nth.mk rfl (AsTup.mk (Nth.mk rfl (AsInt.mk (Cd.t rfl (kf hf))))))
  · rw [subInt (by omega)]
    refine inR_nat (by omega) ?_
    refine call_of (hc _ _ _ rfl) ?_
    rw [wordHandle_W]
    refine Cd.f (ltZ_f (by omega)) ?_
    by_cases h1 : 256 ≤ h % 65536 - 1
    · have hf : hOk h = false := by unfold hOk; rw [decide_eq_false (show ¬ h % 65536 ≤ 256 by omega)]; simp
      exact Cd.t (leZ_t h1) (AsTup.mk (Nth.mk rfl (AsTup.mk (Nth.mk rfl (AsInt.mk (Cd.t rfl (kf hf)))))))
    refine Cd.f (leZ_f (by omega)) ?_
    by_cases h2 : 1048576 ≤ h / 65536
    · have hf : hOk h = false := by unfold hOk; rw [decide_eq_false (show ¬ h / 65536 < 1048576 by omega)]; simp
      exact Cd.t (leN_t h2) (AsTup.mk (Nth.mk rfl (AsTup.mk (Nth.mk rfl (AsInt.mk (Cd.t rfl (kf hf)))))))
    refine Cd.f (leN_f (by omega)) (Must.mk (cv_small (by omega)) ?_)
    have e : Nat.mod (Nat.add (Nat.mod (Nat.add (wrapN .u64 (Int.ofNat (h % 65536 - 1))) 1) 18446744073709551616) (Nat.mod (Nat.mul 65536 (h / 65536)) 18446744073709551616)) 18446744073709551616 = h := by
      rw [wrapN_small (by omega)]
      show ((h % 65536 - 1 + 1) % 18446744073709551616 + 65536 * (h / 65536) % 18446744073709551616) % 18446744073709551616 = _
      omega
    rw [e]
    have ht : hOk h = true := by unfold hOk; rw [decide_eq_true (show 1 ≤ h % 65536 by omega), decide_eq_true (show h % 65536 ≤ 256 by omega), decide_eq_true (show h / 65536 < 1048576 by omega)]; rfl
    exact AsTup.mk (Nth.mk rfl (AsTup.mk (Nth.mk rfl (AsInt.mk (Cd.f rfl (AsNat.mk (Cd.f (by rw [eqN_self]; rfl) (kt ht))))))))
theorem rUnhandle_ok (hc : Con con lives) {H : CH} {h : Nat} {K : KP} (hh : h < 18446744073709551616) (kf : hOk h = false → K (.tuple ⟨[iN 0, u64 0, iN 33]⟩) H) (kt : hOk h = true → K (.tuple ⟨[iN (h % 65536 - 1), u64 (h / 65536), iN 0]⟩) H) :
    Call1 Tryz.prog con 20 [u64 h] H K := by
  refine call_of (hc _ _ _ rfl) ?_
  rw [rUnhandle_W]
  have e1 : IntKind.wrap .i64 (Int.ofNat (Nat.mod h 65536)) = Int.ofNat (h % 65536) := wrapI_small (by show h % 65536 < _; omega)
  have e2 : Nat.mod (Nat.div h 65536) 18446744073709551616 = h / 65536 := Nat.mod_eq_of_lt (by show h / 65536 < _; omega)
  rw [e1, e2]
  by_cases h0 : h % 65536 < 1
  · have hf : hOk h = false := by unfold hOk; rw [decide_eq_false (by omega)]; rfl
    exact Cd.t (ltN_t h0) (kf hf)
  refine Cd.f (ltN_f (show 1 ≤ h % 65536 by omega)) ?_
  by_cases h1 : 256 < h % 65536
  · have hf : hOk h = false := by unfold hOk; rw [decide_eq_false (show ¬ h % 65536 ≤ 256 by omega)]; simp
    exact Cd.t (ltN_t h1) (kf hf)
  refine Cd.f (ltN_f (show h % 65536 ≤ 256 by omega)) ?_
  by_cases h2 : 1048576 ≤ h / 65536
  · have hf : hOk h = false := by unfold hOk; rw [decide_eq_false (show ¬ h / 65536 < 1048576 by omega)]; simp
    exact Cd.t (leN_t h2) (kf hf)
  refine Cd.f (leN_f (by omega)) ?_
  rw [subInt (by omega)]
  refine inR_nat (by omega) ?_
  have ht : hOk h = true := by unfold hOk; rw [decide_eq_true (show 1 ≤ h % 65536 by omega), decide_eq_true (show h % 65536 ≤ 256 by omega), decide_eq_true (show h / 65536 < 1048576 by omega)]; rfl
  exact kt ht
structure SlotsS where
  cam : Nat
  first : Nat
  count : Int
  most : Nat
def cnt (z : Int) : Nat := match z with | .ofNat k => if 256 < k then 256 else k | .negSucc _ => 0
theorem cnt_le (z : Int) : cnt z ≤ 256 := by
  unfold cnt
  split
  · split <;> omega
  · omega
abbrev slA (s : SlotsS) : Value := .agg ⟨[u64 s.cam, u64 s.first, i64 s.count, u64 s.most]⟩
theorem annCount_ok (hc : Con con lives) (s : SlotsS) {L : List HP} {H : CH} {K : KP} (hs : Sat L H) (k : ∀ H1, Sat L H1 → K (iN (cnt s.count)) H1) : Call1 Tryz.prog con 99 [.agg ⟨[u64 s.cam, u64 s.first, i64 s.count, u64 s.most]⟩] H K := by
  refine call_of (hc _ _ _ rfl) ?_
  rw [annCount_W]
  repeat (refine gO ?_; intros)
  have k' := k _ (Sat.ent (by assumption) ee)
  obtain ⟨cam, first, count, most⟩ := s
  revert k'
  unfold cnt
  cases count with
  | negSucc n =>
    intro k'
    exact Cd.f (ltZ_ns _ _) (Cd.f (ltZ_ns _ _) k')
  | ofNat n =>
    intro k'
    simp only at k'
    by_cases h : 256 < n
    · rw [if_pos h] at k'
      exact Cd.t (ltZ_t h) k'
    · rw [if_neg h] at k'
      refine Cd.f (ltZ_f (by omega)) (Cd.of (fun _ => k') fun h0 => ?_)
      have := ltZ_n h0
      have e : n = 0 := by omega
      subst e
      exact k'
theorem rCount_ok (hc : Con con lives) (s : SlotsS) {L : List HP} {H : CH} {K : KP} (hs : Sat L H) (k : ∀ H1, Sat L H1 → K (iN (cnt s.count)) H1) : Call1 Tryz.prog con 138 [.agg ⟨[u64 s.cam, u64 s.first, i64 s.count, u64 s.most]⟩] H K := by
  refine call_of (hc _ _ _ rfl) ?_
  rw [rCount_W]
  repeat (refine gO ?_; intros)
  have k' := k _ (Sat.ent (by assumption) ee)
  obtain ⟨cam, first, count, most⟩ := s
  revert k'
  unfold cnt
  cases count with
  | negSucc n =>
    intro k'
    refine Cd.t ltZ_neg k'
  | ofNat n =>
    intro k'
    simp only at k'
    refine Cd.f (ltZ_f (Nat.zero_le _)) ?_
    refine ld (by assumption) rfl (AsInt.mk ?_)
    by_cases h : 256 < n
    · rw [if_pos h] at k'
      exact Cd.t (ltZ_t h) k'
    · rw [if_neg h] at k'
      exact Cd.f (ltZ_f (by omega)) (ld (by assumption) rfl k')
theorem annCell_ok (hc : Con con lives) (s : SlotsS) {i : Nat} {L : List HP} {H : CH} {K : KP} (hs : Sat L H) (hi : i < 1000000000) (k : ∀ H1, Sat L H1 → K (u64 (addM s.first i)) H1) : Call1 Tryz.prog con 101 [.agg ⟨[u64 s.cam, u64 s.first, i64 s.count, u64 s.most]⟩, iN i] H K := by
  refine call_of (hc _ _ _ rfl) ?_
  rw [annCell_W]
  repeat (refine gO ?_; intros)
  refine Must.mk (cv_small (by omega)) ?_
  repeat (refine gO ?_; intros)
  rw [wrapN_small (by omega)]
  exact k _ (Sat.ent (by assumption) ee)
end Go.Proofs.YtocphcgcpjcfjaaGreat

set_option linter.unusedVariables false
set_option linter.unusedSimpArgs false
namespace Go.Proofs.YtocphcgcpjcfjaaGreat
open Go Go.CM
attribute [local irreducible] AsBool AsWant AsNat AsInt AsCnt AsPtr AsSlc AsLen AsStr AsAgg AsTup AsFn AsIfc Nth Sc NotNil IsNil Must Cd codeW funW Sat SatL wrapN subM mkRow ltZ leZ ltN leN
variable {con : CallT}
structure SnapS where
  sl : SlotsS
  at_ : Nat
  i : Nat
  w : Nat
  gen : Nat
  t : Nat
  ok : Bool
  err : Nat
def SnapS.cell (s : SnapS) : Nat := addM s.sl.first s.i
def SnapS.on (s : SnapS) : SnapS := if s.i + 1 < cnt s.sl.count then { s with i := s.i + 1, at_ := 0 } else { s with i := s.i + 1, at_ := 8, err := 32 }
def SnapS.step (s : SnapS) (M : Mem) (th : Int) : SnapS × Mem :=
  match s.at_ with
  | 0 => if cnt s.sl.count = 0 then ({ s with at_ := 8, err := 32 }, M) else
      (if kindW (M.peek s.cell) ≠ 0 ∨ 1048575 ≤ genW (M.peek s.cell) then ({ s with w := M.peek s.cell, gen := genW (M.peek s.cell) } : SnapS).on else { s with w := M.peek s.cell, gen := genW (M.peek s.cell), at_ := 1 }, M.load th s.cell)
  | 1 => (if M.swaps s.cell s.w then { s with at_ := 2 } else s.on, M.cas th s.cell s.w (slotW 1 s.gen 0))
  | 2 => ({ s with t := M.peek s.sl.cam, at_ := 3 }, M.load th s.sl.cam)
  | 3 => ({ s with at_ := 4 }, M.store th s.cell (slotW 2 s.gen s.t))
  | 4 => ({ s with t := M.peek s.sl.cam, at_ := if s.sl.most ≤ M.peek s.sl.cam then 7 else 5 }, M.load th s.sl.cam)
  | 5 => ({ s with at_ := 6 }, M.cas th s.sl.cam s.t (addM s.t 1))
  | 6 => ({ s with at_ := 8, ok := true }, M.store th s.cell (slotW 3 s.gen s.t))
  | _ => ({ s with at_ := 8, err := 31 }, M.store th s.cell (slotW 0 s.gen 0))
def snapC (a : Nat) (s : SnapS) (g : Nat) : List Value := [u64 s.sl.cam, u64 s.sl.first, i64 s.sl.count, u64 s.sl.most, iN a, iN s.i, u64 s.w, u64 g, u64 s.t, u8 (if s.ok then 3 else 0), u64 (if s.ok then s.gen else 0), u64 (if s.ok then s.t else 0), iN s.err]
def SnapS.Ok (s : SnapS) : Prop := s.at_ < 8 ∧ s.ok = false ∧ s.err = 0 ∧ s.gen < 1048576 ∧ s.i < 256
def JG (s : SnapS) (g : Nat) : Prop := (1 ≤ s.at_ ∧ s.at_ < 8) ∨ s.ok = true → g = s.gen
def snap0 (sl : SlotsS) : SnapS := ⟨sl, 0, 0, 0, 0, 0, false, 0⟩
theorem newSnap_ok (hc : Con con lives) (s : SlotsS) {L : List HP} {H : CH} {K : KP} (hs : Sat L H) (k : ∀ p H1, Sat (Own p (snapC 0 (snap0 s) 0) :: L) H1 → K (ptr p 0) H1) : Call1 Tryz.prog con 38 [.agg ⟨[u64 s.cam, u64 s.first, i64 s.count, u64 s.most]⟩] H K := by
  refine call_of (hc _ _ _ rfl) ?_
  rw [newSnap_W]
  repeat (refine gO ?_; intros)
  exact k _ _ (Sat.ent (by assumption) ee)
theorem snapSlot_ok (hc : Con con lives) (s : SnapS) {a g : Nat} {L R : List HP} {H : CH} {p : Nat} {K : KP} (hs : Sat L H) (hp : Pull L (Own p (snapC a s g)) R) (hi : s.i < 256) (k : ∀ H1, Sat (Own p (snapC a s g) :: R) H1 → K (u64 s.cell) H1) : Call1 Tryz.prog con 149 [ptr p 0] H K := by
  refine call_of (hc _ _ _ rfl) ?_
  rw [snapSlot_W]
  have hs0 := hs.pull hp
  clear hs hp
  repeat (refine gO ?_; intros)
  exact annCell_ok hc s.sl hs0 (by omega) fun H1 h1 => k _ h1
theorem snapOn_ok (hc : Con con lives) (s : SnapS) {a g : Nat} {L R : List HP} {H : CH} {p : Nat} {K : KP} (hs : Sat L H) (hp : Pull L (Own p (snapC a s g)) R) (hi : s.i < 256) (k : ∀ H1, Sat (Own p (snapC a s.on g) :: R) H1 → K (iN s.on.at_) H1) : Call1 Tryz.prog con 150 [ptr p 0] H K := by
  refine call_of (hc _ _ _ rfl) ?_
  rw [snapOn_W]
  have hs0 := hs.pull hp
  clear hs hp
  unfold SnapS.on at k
  repeat (refine gO ?_; intros)
  rw [addInt]
  refine inR_nat (by omega) ?_
  repeat (refine gO ?_; intros)
  rename_i H3 h3
  refine annCount_ok hc s.sl h3 fun H10 h10 => ?_
  repeat (refine gO ?_; intros)
  by_cases h : s.i + 1 < cnt s.sl.count
  · rw [if_pos h] at k
    exact Cd.t (ltZ_t h) (k _ h10)
  · rw [if_neg h] at k
    refine Cd.f (ltZ_f (by omega)) ?_
    repeat (refine gO ?_; intros)
    exact k _ (Sat.ent (by assumption) ee)
theorem snapSeek_ok (hc : Con con lives) (s : SnapS) {g : Nat} {L R1 R2 R3 : List HP} {H : CH} {p q m n : Nat} {th : Int} {M : Mem} {K : KP} (hs : Sat L H) (hm : Pull L (MemP m M) R1) (hv : Pull R1 (ViewAt q m th n) R2) (hp : Pull R2 (Own p (snapC 0 s g)) R3)
    (hn : n < 1000000000) (ht : M.tr.length < 1000000000) (hb : M.Bd) (hok : s.Ok) (hat : s.at_ = 0) (k : ∀ g' n' H1, n' ≤ n + 1 → JG (s.step M th).1 g' → Sat (Own p (snapC 0 (s.step M th).1 g') :: MemP m (s.step M th).2 :: ViewAt q m th n' :: R3) H1 → K (iN (s.step M th).1.at_) H1) :
    Call1 Tryz.prog con 129 [ptr p 0, ptr q 0] H K := by
  refine call_of (hc _ _ _ rfl) ?_
  rw [snapSeek_W]
  have hs0 := hs.takes (.cons hm (.cons hv (.cons hp .nil)))
  simp only [List.cons_append, List.nil_append] at hs0
  clear hs hm hv hp
  obtain ⟨sl, at_, i, w, gen, t, ok, err⟩ := s
  obtain ⟨h1, h2, h3, h4, h5⟩ := hok
  simp only at h1 h2 h3 h4 h5 hat
  subst h2 h3 hat
  repeat (refine gO ?_; intros)
  refine annCount_ok hc sl hs0 fun H6 h6 => ?_
  repeat (refine gO ?_; intros)
  simp only [SnapS.step] at k
  by_cases hz : cnt sl.count = 0
  · simp only [if_pos hz] at k
    refine Cd.t (eqZ_t hz) ?_
    repeat (refine gO ?_; intros)
    exact k g n _ (by omega) (fun h => by simp at h) (Sat.ent (by assumption) ee)
  simp only [if_neg hz] at k
  refine Cd.f (eqZ_f hz) ?_
  refine snapSlot_ok hc ⟨sl, 0, i, w, gen, t, false, 0⟩ h6 pp h5 fun H10 h10 => ?_
  have hbp := hb.peek (SnapS.cell ⟨sl, 0, i, w, gen, t, false, 0⟩)
  refine viewLoad_ok hc h10 pp pp hn ht fun H12 h12 => ?_
  generalize SnapS.cell ⟨sl, 0, i, w, gen, t, false, 0⟩ = cl at *
  generalize M.peek cl = x at *
  repeat (refine gO ?_; intros)
  rename_i H13 h13
  refine wordUnpack_ok hc h13 hbp fun H16 h16 => ?_
  repeat (refine gO ?_; intros)
  refine stN (by assumption) (Nat.le_of_ble_eq_true rfl) rfl fun H23 h23 => ?_
  repeat (refine gO ?_; intros)
  by_cases hk : kindW x = 0
  · refine Cd.f (by rw [eqN_t hk]; rfl) ?_
    repeat (refine gO ?_; intros)
    by_cases hg : 1048575 ≤ genW x
    · rw [if_pos (Or.inr hg)] at k
      refine Cd.t (leN_t hg) ?_
      refine snapOn_ok hc ⟨sl, 0, i, x, genW x, t, false, 0⟩ (g := g) h23 pp h5 fun H27 h27 => ?_
      refine k g (n + 1) _ (by omega) (fun h => ?_) (h27.ent ee)
      unfold SnapS.on at h
      split at h <;> simp at h
    · rw [if_neg (by omega)] at k
      refine Cd.f (leN_f (by omega)) ?_
      repeat (refine gO ?_; intros)
      exact k (genW x) (n + 1) _ (by omega) (fun _ => rfl) (Sat.ent (by assumption) ee)
  · rw [if_pos (Or.inl hk)] at k
    refine Cd.t (by rw [eqN_f hk]; rfl) ?_
    refine snapOn_ok hc ⟨sl, 0, i, x, genW x, t, false, 0⟩ (g := g) h23 pp h5 fun H27 h27 => ?_
    refine k g (n + 1) _ (by omega) (fun h => ?_) (h27.ent ee)
    unfold SnapS.on at h
    split at h <;> simp at h
theorem snapClaim_ok (hc : Con con lives) (s : SnapS) {g : Nat} {L R1 R2 R3 : List HP} {H : CH} {p q m n : Nat} {th : Int} {M : Mem} {K : KP} (hs : Sat L H) (hm : Pull L (MemP m M) R1) (hv : Pull R1 (ViewAt q m th n) R2) (hp : Pull R2 (Own p (snapC 1 s g)) R3)
    (hn : n < 1000000000) (ht : M.tr.length < 1000000000) (hok : s.Ok) (hat : s.at_ = 1) (hg : JG s g) (k : ∀ g' n' H1, n' ≤ n + 1 → JG (s.step M th).1 g' → Sat (Own p (snapC 1 (s.step M th).1 g') :: MemP m (s.step M th).2 :: ViewAt q m th n' :: R3) H1 → K (iN (s.step M th).1.at_) H1) :
    Call1 Tryz.prog con 130 [ptr p 0, ptr q 0] H K := by
  refine call_of (hc _ _ _ rfl) ?_
  rw [snapClaim_W]
  have hs0 := hs.takes (.cons hm (.cons hv (.cons hp .nil)))
  simp only [List.cons_append, List.nil_append] at hs0
  clear hs hm hv hp
  have hgg := hg (.inl ⟨by omega, by omega⟩)
  obtain ⟨sl, at_, i, w, gen, t, ok, err⟩ := s
  obtain ⟨h1, h2, h3, h4, h5⟩ := hok
  simp only at h1 h2 h3 h4 h5 hat hgg
  subst h2 h3 hat hgg
  simp only [SnapS.step] at k
  refine snapSlot_ok hc ⟨sl, 1, i, w, g, t, false, 0⟩ hs0 pp h5 fun H2 h2 => ?_
  generalize SnapS.cell ⟨sl, 1, i, w, g, t, false, 0⟩ = cl at *
  repeat (refine gO ?_; intros)
  refine annPack_ok hc h2 (by omega) fun H6 h6 => ?_
  refine viewCas_ok hc h6 pp pp hn ht fun H8 h8 => ?_
  repeat (refine gO ?_; intros)
  cases hsw : M.swaps cl w with
  | true =>
    simp only [hsw, if_true] at k
    refine Cd.f rfl ?_
    exact k g (n + 1) _ (by omega) (fun _ => rfl) (h8.ent ee)
  | false =>
    simp only [hsw, Bool.false_eq_true, if_false] at k
    refine Cd.t rfl ?_
    refine snapOn_ok hc ⟨sl, 1, i, w, g, t, false, 0⟩ h8 pp h5 fun H16 h16 => ?_
    refine k g (n + 1) _ (by omega) (fun h => ?_) (h16.ent ee)
    unfold SnapS.on at h
    split at h <;> simp at h
theorem snapLook_ok (hc : Con con lives) (s : SnapS) {g : Nat} {L R1 R2 R3 : List HP} {H : CH} {p q m n : Nat} {th : Int} {M : Mem} {K : KP} (hs : Sat L H) (hm : Pull L (MemP m M) R1) (hv : Pull R1 (ViewAt q m th n) R2) (hp : Pull R2 (Own p (snapC 2 s g)) R3)
    (hn : n < 1000000000) (ht : M.tr.length < 1000000000) (hok : s.Ok) (hat : s.at_ = 2) (hg : JG s g) (k : ∀ g' n' H1, n' ≤ n + 1 → JG (s.step M th).1 g' → Sat (Own p (snapC 2 (s.step M th).1 g') :: MemP m (s.step M th).2 :: ViewAt q m th n' :: R3) H1 → K (iN (s.step M th).1.at_) H1) :
    Call1 Tryz.prog con 131 [ptr p 0, ptr q 0] H K := by
  refine call_of (hc _ _ _ rfl) ?_
  rw [snapLook_W]
  have hs0 := hs.takes (.cons hm (.cons hv (.cons hp .nil)))
  simp only [List.cons_append, List.nil_append] at hs0
  clear hs hm hv hp
  have hgg := hg (.inl ⟨by omega, by omega⟩)
  obtain ⟨sl, at_, i, w, gen, t, ok, err⟩ := s
  obtain ⟨h1, h2, h3, h4, h5⟩ := hok
  simp only at h1 h2 h3 h4 h5 hat hgg
  subst h2 h3 hat hgg
  simp only [SnapS.step] at k
  repeat (refine gO ?_; intros)
  refine viewLoad_ok hc hs0 pp pp hn ht fun H3 h3 => ?_
  repeat (refine gO ?_; intros)
  exact k g (n + 1) _ (by omega) (fun _ => rfl) (Sat.ent (by assumption) ee)
theorem snapTell_ok (hc : Con con lives) (s : SnapS) {g : Nat} {L R1 R2 R3 : List HP} {H : CH} {p q m n : Nat} {th : Int} {M : Mem} {K : KP} (hs : Sat L H) (hm : Pull L (MemP m M) R1) (hv : Pull R1 (ViewAt q m th n) R2) (hp : Pull R2 (Own p (snapC 3 s g)) R3)
    (hn : n < 1000000000) (ht : M.tr.length < 1000000000) (hok : s.Ok) (hat : s.at_ = 3) (hg : JG s g) (k : ∀ g' n' H1, n' ≤ n + 1 → JG (s.step M th).1 g' → Sat (Own p (snapC 3 (s.step M th).1 g') :: MemP m (s.step M th).2 :: ViewAt q m th n' :: R3) H1 → K (iN (s.step M th).1.at_) H1) :
    Call1 Tryz.prog con 132 [ptr p 0, ptr q 0] H K := by
  refine call_of (hc _ _ _ rfl) ?_
  rw [snapTell_W]
  have hs0 := hs.takes (.cons hm (.cons hv (.cons hp .nil)))
  simp only [List.cons_append, List.nil_append] at hs0
  clear hs hm hv hp
  have hgg := hg (.inl ⟨by omega, by omega⟩)
  obtain ⟨sl, at_, i, w, gen, t, ok, err⟩ := s
  obtain ⟨h1, h2, h3, h4, h5⟩ := hok
  simp only at h1 h2 h3 h4 h5 hat hgg
  subst h2 h3 hat hgg
  simp only [SnapS.step] at k
  refine snapSlot_ok hc ⟨sl, 3, i, w, g, t, false, 0⟩ hs0 pp h5 fun H2 h2 => ?_
  repeat (refine gO ?_; intros)
  refine annPack_ok hc h2 (by omega) fun H6 h6 => ?_
  refine viewStore_ok hc h6 pp pp hn ht fun H8 h8 => ?_
  repeat (refine gO ?_; intros)
  exact k g (n + 1) _ (by omega) (fun _ => rfl) (h8.ent ee)
theorem snapClock_ok (hc : Con con lives) (s : SnapS) {g : Nat} {L R1 R2 R3 : List HP} {H : CH} {p q m n : Nat} {th : Int} {M : Mem} {K : KP} (hs : Sat L H) (hm : Pull L (MemP m M) R1) (hv : Pull R1 (ViewAt q m th n) R2) (hp : Pull R2 (Own p (snapC 4 s g)) R3)
    (hn : n < 1000000000) (ht : M.tr.length < 1000000000) (hok : s.Ok) (hat : s.at_ = 4) (hg : JG s g) (k : ∀ g' n' H1, n' ≤ n + 1 → JG (s.step M th).1 g' → Sat (Own p (snapC 4 (s.step M th).1 g') :: MemP m (s.step M th).2 :: ViewAt q m th n' :: R3) H1 → K (iN (s.step M th).1.at_) H1) :
    Call1 Tryz.prog con 133 [ptr p 0, ptr q 0] H K := by
  refine call_of (hc _ _ _ rfl) ?_
  rw [snapClock_W]
  have hs0 := hs.takes (.cons hm (.cons hv (.cons hp .nil)))
  simp only [List.cons_append, List.nil_append] at hs0
  clear hs hm hv hp
  have hgg := hg (.inl ⟨by omega, by omega⟩)
  obtain ⟨sl, at_, i, w, gen, t, ok, err⟩ := s
  obtain ⟨h1, h2, h3, h4, h5⟩ := hok
  simp only at h1 h2 h3 h4 h5 hat hgg
  subst h2 h3 hat hgg
  simp only [SnapS.step] at k
  repeat (refine gO ?_; intros)
  refine viewLoad_ok hc hs0 pp pp hn ht fun H3 h3 => ?_
  repeat (refine gO ?_; intros)
  by_cases h : sl.most ≤ M.peek sl.cam
  · simp only [if_pos h] at k
    refine Cd.t (leN_t h) ?_
    exact k g (n + 1) _ (by omega) (fun _ => rfl) (Sat.ent (by assumption) ee)
  · simp only [if_neg h] at k
    refine Cd.f (leN_f (Nat.lt_of_not_le h)) ?_
    exact k g (n + 1) _ (by omega) (fun _ => rfl) (Sat.ent (by assumption) ee)
theorem snapTurn_ok (hc : Con con lives) (s : SnapS) {g : Nat} {L R1 R2 R3 : List HP} {H : CH} {p q m n : Nat} {th : Int} {M : Mem} {K : KP} (hs : Sat L H) (hm : Pull L (MemP m M) R1) (hv : Pull R1 (ViewAt q m th n) R2) (hp : Pull R2 (Own p (snapC 5 s g)) R3)
    (hn : n < 1000000000) (ht : M.tr.length < 1000000000) (hok : s.Ok) (hat : s.at_ = 5) (hg : JG s g) (k : ∀ g' n' H1, n' ≤ n + 1 → JG (s.step M th).1 g' → Sat (Own p (snapC 5 (s.step M th).1 g') :: MemP m (s.step M th).2 :: ViewAt q m th n' :: R3) H1 → K (iN (s.step M th).1.at_) H1) :
    Call1 Tryz.prog con 134 [ptr p 0, ptr q 0] H K := by
  refine call_of (hc _ _ _ rfl) ?_
  rw [snapTurn_W]
  have hs0 := hs.takes (.cons hm (.cons hv (.cons hp .nil)))
  simp only [List.cons_append, List.nil_append] at hs0
  clear hs hm hv hp
  have hgg := hg (.inl ⟨by omega, by omega⟩)
  obtain ⟨sl, at_, i, w, gen, t, ok, err⟩ := s
  obtain ⟨h1, h2, h3, h4, h5⟩ := hok
  simp only at h1 h2 h3 h4 h5 hat hgg
  subst h2 h3 hat hgg
  simp only [SnapS.step] at k
  repeat (refine gO ?_; intros)
  refine viewCas_ok hc hs0 pp pp hn ht fun H3 h3 => ?_
  exact k g (n + 1) _ (by omega) (fun _ => rfl) (h3.ent ee)
theorem snapHold_ok (hc : Con con lives) (s : SnapS) {g : Nat} {L R1 R2 R3 : List HP} {H : CH} {p q m n : Nat} {th : Int} {M : Mem} {K : KP} (hs : Sat L H) (hm : Pull L (MemP m M) R1) (hv : Pull R1 (ViewAt q m th n) R2) (hp : Pull R2 (Own p (snapC 6 s g)) R3)
    (hn : n < 1000000000) (ht : M.tr.length < 1000000000) (hok : s.Ok) (hat : s.at_ = 6) (hg : JG s g) (k : ∀ g' n' H1, n' ≤ n + 1 → JG (s.step M th).1 g' → Sat (Own p (snapC 6 (s.step M th).1 g') :: MemP m (s.step M th).2 :: ViewAt q m th n' :: R3) H1 → K (iN (s.step M th).1.at_) H1) :
    Call1 Tryz.prog con 135 [ptr p 0, ptr q 0] H K := by
  refine call_of (hc _ _ _ rfl) ?_
  rw [snapHold_W]
  have hs0 := hs.takes (.cons hm (.cons hv (.cons hp .nil)))
  simp only [List.cons_append, List.nil_append] at hs0
  clear hs hm hv hp
  have hgg := hg (.inl ⟨by omega, by omega⟩)
  obtain ⟨sl, at_, i, w, gen, t, ok, err⟩ := s
  obtain ⟨h1, h2, h3, h4, h5⟩ := hok
  simp only at h1 h2 h3 h4 h5 hat hgg
  subst h2 h3 hat hgg
  simp only [SnapS.step] at k
  repeat (refine gO ?_; intros)
  refine stN hs0 (Nat.le_of_ble_eq_true rfl) rfl fun H3 h3 => ?_
  replace h3 : Sat (MemP m M :: ViewAt q m th n :: Own p (snapC 6 ⟨sl, 6, i, w, g, t, true, 0⟩ g) :: R3) H3 := h3
  refine snapSlot_ok hc ⟨sl, 6, i, w, g, t, true, 0⟩ h3 pp h5 fun H5 h5' => ?_
  repeat (refine gO ?_; intros)
  refine annPack_ok (c := 3) (g := g) (t := t) hc h5' (by omega) fun H10 h10 => ?_
  refine viewStore_ok hc h10 pp pp hn ht fun H12 h12 => ?_
  repeat (refine gO ?_; intros)
  exact k g (n + 1) _ (by omega) (fun _ => rfl) (h12.ent ee)
theorem snapGive_ok (hc : Con con lives) (s : SnapS) {g : Nat} {L R1 R2 R3 : List HP} {H : CH} {p q m n : Nat} {th : Int} {M : Mem} {K : KP} (hs : Sat L H) (hm : Pull L (MemP m M) R1) (hv : Pull R1 (ViewAt q m th n) R2) (hp : Pull R2 (Own p (snapC 7 s g)) R3)
    (hn : n < 1000000000) (ht : M.tr.length < 1000000000) (hok : s.Ok) (hat : s.at_ = 7) (hg : JG s g) (k : ∀ g' n' H1, n' ≤ n + 1 → JG (s.step M th).1 g' → Sat (Own p (snapC 7 (s.step M th).1 g') :: MemP m (s.step M th).2 :: ViewAt q m th n' :: R3) H1 → K (iN (s.step M th).1.at_) H1) :
    Call1 Tryz.prog con 136 [ptr p 0, ptr q 0] H K := by
  refine call_of (hc _ _ _ rfl) ?_
  rw [snapGive_W]
  have hs0 := hs.takes (.cons hm (.cons hv (.cons hp .nil)))
  simp only [List.cons_append, List.nil_append] at hs0
  clear hs hm hv hp
  have hgg := hg (.inl ⟨by omega, by omega⟩)
  obtain ⟨sl, at_, i, w, gen, t, ok, err⟩ := s
  obtain ⟨h1, h2, h3, h4, h5⟩ := hok
  simp only at h1 h2 h3 h4 h5 hat hgg
  subst h2 h3 hat hgg
  simp only [SnapS.step] at k
  refine snapSlot_ok hc ⟨sl, 7, i, w, g, t, false, 0⟩ hs0 pp h5 fun H2 h2 => ?_
  repeat (refine gO ?_; intros)
  refine annPack_ok hc h2 (by omega) fun H6 h6 => ?_
  refine viewStore_ok hc h6 pp pp hn ht fun H8 h8 => ?_
  repeat (refine gO ?_; intros)
  exact k g (n + 1) _ (by omega) (fun h => by simp at h) (Sat.ent (by assumption) ee)
theorem annSteps_ok (hc : Con con lives) {L : List HP} {H : CH} {K : KP} (hs : Sat L H) (k : ∀ H1, Sat L H1 → K (.agg ⟨[.func (.func 129) ⟨[]⟩ ⟨[]⟩, .func (.func 130) ⟨[]⟩ ⟨[]⟩, .func (.func 131) ⟨[]⟩ ⟨[]⟩, .func (.func 132) ⟨[]⟩ ⟨[]⟩, .func (.func 133) ⟨[]⟩ ⟨[]⟩, .func (.func 134) ⟨[]⟩ ⟨[]⟩, .func (.func 135) ⟨[]⟩ ⟨[]⟩, .func (.func 136) ⟨[]⟩ ⟨[]⟩]⟩) H1) : Call1 Tryz.prog con 107 [] H K := by
  refine call_of (hc _ _ _ rfl) ?_
  rw [annSteps_W]
  repeat (refine gO ?_; intros)
  rename_i p1 H2 h2
  refine stN h2 (Nat.le_of_ble_eq_true rfl) rfl fun H6 h6 => ?_
  repeat (refine gO ?_; intros)
  exact k _ (h6.ent ee)
theorem snapStep_ok (hc : Con con lives) (s : SnapS) {g : Nat} {L R1 R2 R3 : List HP} {H : CH} {p q m n : Nat} {th : Int} {M : Mem} {K : KP} (hs : Sat L H) (hm : Pull L (MemP m M) R1) (hv : Pull R1 (ViewAt q m th n) R2) (hp : Pull R2 (Own p (snapC s.at_ s g)) R3)
    (hn : n < 1000000000) (ht : M.tr.length < 1000000000) (hb : M.Bd) (hok : s.Ok) (hg : JG s g) (k : ∀ g' n' H1, n' ≤ n + 1 → JG (s.step M th).1 g' → Sat (Own p (snapC (s.step M th).1.at_ (s.step M th).1 g') :: MemP m (s.step M th).2 :: ViewAt q m th n' :: R3) H1 → K (.bool (eqZ (Int.ofNat (s.step M th).1.at_) (Int.ofNat 8))) H1) :
    Call1 Tryz.prog con 84 [ptr p 0, ptr q 0] H K := by
  refine call_of (hc _ _ _ rfl) ?_
  rw [snapStep_W]
  have hs0 := hs.takes (.cons hm (.cons hv (.cons hp .nil)))
  simp only [List.cons_append, List.nil_append] at hs0
  clear hs hm hv hp
  have hok' := hok
  obtain ⟨sl, at_, i, w, gen, t, ok, err⟩ := s
  obtain ⟨h1, h2, h3, h4, h5⟩ := hok
  simp only at h1 h2 h3 h4 h5
  subst h2 h3
  rcases (by omega : at_ = 0 ∨ at_ = 1 ∨ at_ = 2 ∨ at_ = 3 ∨ at_ = 4 ∨ at_ = 5 ∨ at_ = 6 ∨ at_ = 7) with rfl | rfl | rfl | rfl | rfl | rfl | rfl | rfl <;> (refine ld hs0 rfl (AsInt.mk (Cd.t rfl (annSteps_ok hc hs0 fun H4 h4 => ld h4 rfl ?_))))
  · refine OpN.of (v := .func (.func 129) ⟨[]⟩ ⟨[]⟩) (H1 := H4) (by kernel_rfl) ?_
    refine AsFn.mk (Must.mk (by kernel_rfl) ?_)
    refine snapSeek_ok hc ⟨sl, 0, i, w, gen, t, false, 0⟩ (g := g) h4 pp pp pp hn ht hb hok' rfl fun g' n' H12 hn' hg' h12 => ?_
    repeat (refine gO ?_; intros)
    exact k g' n' _ hn' hg' (Sat.ent (by assumption) ee)
  · refine OpN.of (v := .func (.func 130) ⟨[]⟩ ⟨[]⟩) (H1 := H4) (by kernel_rfl) ?_
    refine AsFn.mk (Must.mk (by kernel_rfl) ?_)
    refine snapClaim_ok hc ⟨sl, 1, i, w, gen, t, false, 0⟩ (g := g) h4 pp pp pp hn ht hok' rfl hg fun g' n' H12 hn' hg' h12 => ?_
    repeat (refine gO ?_; intros)
    exact k g' n' _ hn' hg' (Sat.ent (by assumption) ee)
  · refine OpN.of (v := .func (.func 131) ⟨[]⟩ ⟨[]⟩) (H1 := H4) (by kernel_rfl) ?_
    refine AsFn.mk (Must.mk (by kernel_rfl) ?_)
    refine snapLook_ok hc ⟨sl, 2, i, w, gen, t, false, 0⟩ (g := g) h4 pp pp pp hn ht hok' rfl hg fun g' n' H12 hn' hg' h12 => ?_
    repeat (refine gO ?_; intros)
    exact k g' n' _ hn' hg' (Sat.ent (by assumption) ee)
  · refine OpN.of (v := .func (.func 132) ⟨[]⟩ ⟨[]⟩) (H1 := H4) (by kernel_rfl) ?_
    refine AsFn.mk (Must.mk (by kernel_rfl) ?_)
    refine snapTell_ok hc ⟨sl, 3, i, w, gen, t, false, 0⟩ (g := g) h4 pp pp pp hn ht hok' rfl hg fun g' n' H12 hn' hg' h12 => ?_
    repeat (refine gO ?_; intros)
    exact k g' n' _ hn' hg' (Sat.ent (by assumption) ee)
  · refine OpN.of (v := .func (.func 133) ⟨[]⟩ ⟨[]⟩) (H1 := H4) (by kernel_rfl) ?_
    refine AsFn.mk (Must.mk (by kernel_rfl) ?_)
    refine snapClock_ok hc ⟨sl, 4, i, w, gen, t, false, 0⟩ (g := g) h4 pp pp pp hn ht hok' rfl hg fun g' n' H12 hn' hg' h12 => ?_
    repeat (refine gO ?_; intros)
    exact k g' n' _ hn' hg' (Sat.ent (by assumption) ee)
  · refine OpN.of (v := .func (.func 134) ⟨[]⟩ ⟨[]⟩) (H1 := H4) (by kernel_rfl) ?_
    refine AsFn.mk (Must.mk (by kernel_rfl) ?_)
    refine snapTurn_ok hc ⟨sl, 5, i, w, gen, t, false, 0⟩ (g := g) h4 pp pp pp hn ht hok' rfl hg fun g' n' H12 hn' hg' h12 => ?_
    repeat (refine gO ?_; intros)
    exact k g' n' _ hn' hg' (Sat.ent (by assumption) ee)
  · refine OpN.of (v := .func (.func 135) ⟨[]⟩ ⟨[]⟩) (H1 := H4) (by kernel_rfl) ?_
    refine AsFn.mk (Must.mk (by kernel_rfl) ?_)
    refine snapHold_ok hc ⟨sl, 6, i, w, gen, t, false, 0⟩ (g := g) h4 pp pp pp hn ht hok' rfl hg fun g' n' H12 hn' hg' h12 => ?_
    repeat (refine gO ?_; intros)
    exact k g' n' _ hn' hg' (Sat.ent (by assumption) ee)
  · refine OpN.of (v := .func (.func 136) ⟨[]⟩ ⟨[]⟩) (H1 := H4) (by kernel_rfl) ?_
    refine AsFn.mk (Must.mk (by kernel_rfl) ?_)
    refine snapGive_ok hc ⟨sl, 7, i, w, gen, t, false, 0⟩ (g := g) h4 pp pp pp hn ht hok' rfl hg fun g' n' H12 hn' hg' h12 => ?_
    repeat (refine gO ?_; intros)
    exact k g' n' _ hn' hg' (Sat.ent (by assumption) ee)
def SnapS.handle (s : SnapS) : Nat := if s.ok then s.i + 1 + s.gen * 65536 else 0
def SnapS.stamp (s : SnapS) : Nat := if s.ok then s.t else 0
theorem snapHandle_ok (hc : Con con lives) (s : SnapS) {a g : Nat} {L : List HP} {H : CH} {p : Nat} {K : KP} (hs : Sat L H) [HasCell L p (snapC a s g)] (hg : JG s g) (hi : s.ok = true → s.i < 256 ∧ s.gen < 1048576) (k : K (u64 s.handle) H) : Call1 Tryz.prog con 30 [ptr p 0] H K := by
  refine call_of (hc _ _ _ rfl) ?_
  rw [snapHandle_W]
  unfold SnapS.handle at k
  obtain ⟨sl, at_, i, w, gen, t, ok, err⟩ := s
  repeat (refine gO ?_; intros)
  cases ok with
  | false =>
    refine OpN.eqAgg (a := ⟨[u8 0, u64 0, u64 0]⟩) (c := ⟨[u8 0, u64 0, u64 0]⟩) rfl rfl slot_guard (slot_eq H 0 0 0 0 0 0) ?_
    repeat (refine gO ?_; intros)
    exact k
  | true =>
    obtain ⟨hi1, hi2⟩ := hi rfl
    obtain rfl := hg (.inr rfl)
    refine OpN.eqAgg (a := ⟨[u8 3, u64 g, u64 t]⟩) (c := ⟨[u8 0, u64 0, u64 0]⟩) rfl rfl slot_guard (slot_eq H 3 g t 0 0 0) ?_
    repeat (refine gO ?_; intros)
    refine wordHandle_ok hc hi1 hi2 ?_
    refine AsTup.mk (Nth.mk rfl (AsTup.mk (Nth.mk rfl ?_)))
    exact k
theorem snapStamp_ok (hc : Con con lives) (s : SnapS) {a g : Nat} {L : List HP} {H : CH} {p : Nat} {K : KP} (hs : Sat L H) [HasCell L p (snapC a s g)] (k : K (u64 s.stamp) H) : Call1 Tryz.prog con 31 [ptr p 0] H K := by
  refine call_of (hc _ _ _ rfl) ?_
  rw [snapStamp_W]
  exact ld hs rfl k
theorem snapErrno_ok (hc : Con con lives) (s : SnapS) {a g : Nat} {L : List HP} {H : CH} {p : Nat} {K : KP} (hs : Sat L H) [HasCell L p (snapC a s g)] (k : K (iN s.err) H) : Call1 Tryz.prog con 29 [ptr p 0] H K := by
  refine call_of (hc _ _ _ rfl) ?_
  rw [snapErrno_W]
  exact ld hs rfl k
structure LetS where
  sl : SlotsS
  h : Nat
  at_ : Nat
  slot : Nat
  w : Nat
  gen : Nat
  err : Nat
def LetS.there (s : LetS) : Bool := hOk s.h && decide (s.h % 65536 - 1 < cnt s.sl.count)
def LetS.step (s : LetS) (M : Mem) (th : Int) : LetS × Mem :=
  match s.at_ with
  | 0 => if s.there then
      (if kindW (M.peek (addM s.sl.first (s.h % 65536 - 1))) = 3 ∧ genW (M.peek (addM s.sl.first (s.h % 65536 - 1))) = s.h / 65536
        then { s with gen := s.h / 65536, slot := addM s.sl.first (s.h % 65536 - 1), w := M.peek (addM s.sl.first (s.h % 65536 - 1)), at_ := 1 }
        else { s with gen := s.h / 65536, slot := addM s.sl.first (s.h % 65536 - 1), w := M.peek (addM s.sl.first (s.h % 65536 - 1)), at_ := 2, err := 33 }, M.load th (addM s.sl.first (s.h % 65536 - 1)))
      else ({ s with at_ := 2, err := 33 }, M)
  | _ => ({ s with at_ := 2, err := if M.swaps s.slot s.w then s.err else 33 }, M.cas th s.slot s.w (slotW 0 (addM s.gen 1) 0))
def letC (s : LetS) (sn : Bool) : List Value := [u64 s.sl.cam, u64 s.sl.first, i64 s.sl.count, u64 s.sl.most, u64 s.h, u64 s.slot, u64 s.w, u64 s.gen, .bool sn, .bool (decide (s.at_ = 2)), iN s.err]
def LetJ (s : LetS) (sn : Bool) : Prop := (s.at_ = 0 → sn = false) ∧ (s.at_ = 1 → sn = true)
def let0 (sl : SlotsS) (h : Nat) : LetS := ⟨sl, h, 0, 0, 0, 0, 0⟩
theorem newLet_ok (hc : Con con lives) (s : SlotsS) {h : Nat} {L : List HP} {H : CH} {K : KP} (hs : Sat L H) (k : ∀ p H1, Sat (Own p (letC (let0 s h) false) :: L) H1 → K (ptr p 0) H1) : Call1 Tryz.prog con 83 [.agg ⟨[u64 s.cam, u64 s.first, i64 s.count, u64 s.most]⟩, u64 h] H K := by
  refine call_of (hc _ _ _ rfl) ?_
  rw [newLet_W]
  repeat (refine gO ?_; intros)
  exact k _ _ (Sat.ent (by assumption) ee)
theorem letErrno_ok (hc : Con con lives) (s : LetS) {sn : Bool} {L : List HP} {H : CH} {p : Nat} {K : KP} (hs : Sat L H) [HasCell L p (letC s sn)] (k : K (iN s.err) H) : Call1 Tryz.prog con 32 [ptr p 0] H K := by
  refine call_of (hc _ _ _ rfl) ?_
  rw [letErrno_W]
  exact ld hs rfl k
theorem letEnd_ok (hc : Con con lives) (s : LetS) {sn b : Bool} {L R : List HP} {H : CH} {p : Nat} {K : KP} (hs : Sat L H) (hp : Pull L (Own p (letC s sn)) R) (k : ∀ H1, Sat (Own p (letC { s with at_ := 2, err := if b then s.err else 33 } sn) :: R) H1 → K (.bool true) H1) : Call1 Tryz.prog con 109 [ptr p 0, .bool b] H K := by
  refine call_of (hc _ _ _ rfl) ?_
  rw [letEnd_W]
  have hs0 := hs.pull hp
  clear hs hp
  repeat (refine gO ?_; intros)
  cases b with
  | true =>
    repeat (refine gO ?_; intros)
    exact k _ (Sat.ent (by assumption) ee)
  | false =>
    repeat (refine gO ?_; intros)
    exact k _ (Sat.ent (by assumption) ee)
theorem letStep_ok (hc : Con con lives) (s : LetS) {sn : Bool} {L R1 R2 R3 : List HP} {H : CH} {p q m n : Nat} {th : Int} {M : Mem} {K : KP} (hs : Sat L H) (hm : Pull L (MemP m M) R1) (hv : Pull R1 (ViewAt q m th n) R2) (hp : Pull R2 (Own p (letC s sn)) R3)
    (hn : n < 1000000000) (ht : M.tr.length < 1000000000) (hb : M.Bd) (hh : s.h < 18446744073709551616) (hat : s.at_ < 2) (hj : LetJ s sn)
    (k : ∀ sn' n' H1, n' ≤ n + 1 → LetJ (s.step M th).1 sn' → Sat (Own p (letC (s.step M th).1 sn') :: MemP m (s.step M th).2 :: ViewAt q m th n' :: R3) H1 → K (.bool (eqZ (Int.ofNat (s.step M th).1.at_) (Int.ofNat 2))) H1) :
    Call1 Tryz.prog con 86 [ptr p 0, ptr q 0] H K := by
  refine call_of (hc _ _ _ rfl) ?_
  rw [letStep_W]
  have hs0 := hs.takes (.cons hm (.cons hv (.cons hp .nil)))
  simp only [List.cons_append, List.nil_append] at hs0
  clear hs hm hv hp
  obtain ⟨sl, h, at_, slot, w, gen, err⟩ := s
  simp only at hh hat
  rcases (by omega : at_ = 0 ∨ at_ = 1) with rfl | rfl
  · obtain rfl := hj.1 rfl
    simp only [LetS.step] at k
    repeat (refine gO ?_; intros)
    refine wordUnhandle_ok hc hh (fun hf => ?_) (fun htr => ?_)
    · have hth : LetS.there ⟨sl, h, 0, slot, w, gen, err⟩ = false := by unfold LetS.there; rw [hf]; rfl
      simp only [hth, Bool.false_eq_true, if_false] at k
      repeat (refine gO ?_; intros)
      refine letEnd_ok hc ⟨sl, h, 0, slot, w, gen, err⟩ hs0 pp fun H1 h1 => ?_
      exact k false n _ (by omega) ⟨fun h => by simp at h, fun h => by simp at h⟩ (h1.ent ee)
    · repeat (refine gO ?_; intros)
      refine annCount_ok hc sl hs0 fun H36 h36 => ?_
      repeat (refine gO ?_; intros)
      by_cases hlt : h % 65536 - 1 < cnt sl.count
      · have hth : LetS.there ⟨sl, h, 0, slot, w, gen, err⟩ = true := by unfold LetS.there; rw [htr, decide_eq_true hlt]; rfl
        simp only [hth, if_true] at k
        refine Cd.f (leZ_f hlt) ?_
        repeat (refine gO ?_; intros)
        refine annCell_ok hc sl h36 (by omega) fun H46 h46 => ?_
        generalize addM sl.first (h % 65536 - 1) = cl at *
        repeat (refine gO ?_; intros)
        have hbp := hb.peek cl
        rename_i H49 h49
        refine viewLoad_ok hc h49 pp pp hn ht fun H52 h52 => ?_
        generalize M.peek cl = x at *
        repeat (refine gO ?_; intros)
        rename_i H53 h53
        refine wordUnpack_ok hc h53 hbp fun H56 h56 => ?_
        repeat (refine gO ?_; intros)
        refine stN (by assumption) (Nat.le_of_ble_eq_true rfl) rfl fun H63 h63 => ?_
        repeat (refine gO ?_; intros)
        refine OpN.neAgg (a := ⟨[u8 (kindW x), u64 (genW x), u64 (stampW x)]⟩) (c := ⟨[u8 3, u64 (h / 65536), u64 (stampW x)]⟩) rfl rfl slot_guard (slot_eq _ _ _ _ _ _ _) ?_
        rw [eqN_self]
        repeat (refine gO ?_; intros)
        by_cases hkg : kindW x = 3 ∧ genW x = h / 65536
        · simp only [if_pos hkg] at k
          rw [eqN_t hkg.1, eqN_t hkg.2]
          repeat (refine gO ?_; intros)
          exact k true (n + 1) _ (by omega) ⟨fun h => by simp at h, fun _ => rfl⟩ (h63.ent ee)
        · simp only [if_neg hkg] at k
          have e : (eqN (kindW x) 3 && (eqN (genW x) (h / 65536) && (true && true))) = false := by
            by_cases h1 : kindW x = 3
            · rw [eqN_f (fun h2 => hkg ⟨h1, h2⟩)]; simp
            · rw [eqN_f h1]; rfl
          rw [e]
          refine Cd.t rfl ?_
          refine letEnd_ok hc ⟨sl, h, 0, cl, x, h / 65536, err⟩ h63 pp fun H1 h1 => ?_
          exact k true (n + 1) _ (by omega) ⟨fun h => by simp at h, fun h => by simp at h⟩ (h1.ent ee)
      · have hth : LetS.there ⟨sl, h, 0, slot, w, gen, err⟩ = false := by unfold LetS.there; rw [decide_eq_false hlt, Bool.and_false]
        simp only [hth, Bool.false_eq_true, if_false] at k
        refine Cd.t (leZ_t (Nat.le_of_not_lt hlt)) ?_
        refine letEnd_ok hc ⟨sl, h, 0, slot, w, gen, err⟩ h36 pp fun H1 h1 => ?_
        exact k false n _ (by omega) ⟨fun h => by simp at h, fun h => by simp at h⟩ (h1.ent ee)
  · obtain rfl := hj.2 rfl
    simp only [LetS.step] at k
    repeat (refine gO ?_; intros)
    refine annPack_ok hc hs0 (by omega) fun H10 h10 => ?_
    refine viewCas_ok hc h10 pp pp hn ht fun H12 h12 => ?_
    refine letEnd_ok hc ⟨sl, h, 1, slot, w, gen, err⟩ h12 pp fun H14 h14 => ?_
    repeat (refine gO ?_; intros)
    exact k true (n + 1) _ (by omega) ⟨fun h => by simp at h, fun h => by simp at h⟩ (h14.ent ee)
end Go.Proofs.YtocphcgcpjcfjaaGreat

set_option linter.unusedVariables false
set_option linter.unusedSimpArgs false
namespace Go.Proofs.YtocphcgcpjcfjaaGreat
open Go Go.CM
attribute [local irreducible] AsBool AsWant AsNat AsInt AsCnt AsPtr AsSlc AsLen AsStr AsAgg AsTup AsFn AsIfc Nth Sc NotNil IsNil Must Cd codeW funW Sat SatL wrapN subM mkRow ltZ leZ ltN leN
variable {con : CallT}
def ratA (a : Nat) : Nat := match a with | 5 => 6 | 6 => 7 | 7 => 5 | 8 => 9 | a => a
def dsC (s : SnapS) : List Value := [iN (ratA s.at_), u64 s.sl.cam, u64 s.sl.first, i64 s.sl.count, u64 s.sl.most, iN s.i, u64 s.w, u64 s.gen, u64 s.t, u64 s.handle, u64 s.stamp, iN s.err]
def dlC (s : LetS) : List Value := [iN s.at_, u64 s.sl.cam, u64 s.sl.first, i64 s.sl.count, u64 s.sl.most, u64 s.h, u64 s.w, u64 s.gen, u64 s.slot, iN s.err]
theorem rSnapOn_ok (hc : Con con lives) (s : SnapS) {c0 : Value} {rest : List Value} {L R : List HP} {H : CH} {p : Nat} {K : KP} (hs : Sat L H) (hp : Pull L (Own p (c0 :: (dsC s ++ rest))) R) (hok : s.ok = false) (hi : s.i < 256)
    (k : ∀ H1, Sat (Own p (c0 :: (dsC s.on ++ rest)) :: R) H1 → K unit H1) : Call1 Tryz.prog con 139 [ptr p 1] H K := by
  refine call_of (hc _ _ _ rfl) ?_
  rw [rSnapOn_W]
  have hs0 := hs.pull hp
  clear hs hp
  obtain ⟨sl, at_, i, w, gen, t, ok, err⟩ := s
  simp only at hok hi
  subst hok
  simp only [dsC, SnapS.handle, SnapS.stamp, ratA, Bool.false_eq_true, if_false, List.cons_append, List.nil_append] at hs0
  unfold SnapS.on at k
  repeat (refine gO ?_; intros)
  rw [addInt]
  refine inR_nat (by omega) ?_
  repeat (refine gO ?_; intros)
  rename_i H3 h3
  refine rCount_ok hc sl h3 fun H10 h10 => ?_
  repeat (refine gO ?_; intros)
  by_cases h : i + 1 < cnt sl.count
  · simp only [if_pos h] at k
    exact Cd.f (leZ_f h) (k _ h10)
  · simp only [if_neg h] at k
    refine Cd.t (leZ_t (by omega)) ?_
    repeat (refine gO ?_; intros)
    exact k _ (Sat.ent (by assumption) ee)
theorem on_rat (s : SnapS) : eqZ (Int.ofNat (ratA s.on.at_)) (Int.ofNat 9) = eqZ (Int.ofNat s.on.at_) (Int.ofNat 8) := by
  unfold SnapS.on; split <;> kernel_rfl
set_option maxRecDepth 100000 in
theorem rSnapStep_ok (hc : Con con lives) (s : SnapS) {c0 : Value} {rest : List Value} {L R1 R2 : List HP} {H : CH} {p m : Nat} {th : Int} {M : Mem} {K : KP} (hs : Sat L H) (hm : Pull L (RefP m M) R1) (hp : Pull R1 (Own p (c0 :: (dsC s ++ rest))) R2)
    (ht : M.tr.length < 1000000000) (hb : M.Bd) (hok : s.Ok) (k : ∀ H1, Sat (Own p (c0 :: (dsC (s.step M th).1 ++ rest)) :: RefP m (s.step M th).2 :: R2) H1 → K (.bool (eqZ (Int.ofNat (s.step M th).1.at_) (Int.ofNat 8))) H1) :
    Call1 Tryz.prog con 113 [ptr p 1, ptr m 0, i64 th] H K := by
  refine call_of (hc _ _ _ rfl) ?_
  rw [rSnapStep_W]
  have hs0 := hs.takes (.cons hm (.cons hp .nil))
  simp only [List.cons_append, List.nil_append] at hs0
  clear hs hm hp
  obtain ⟨sl, at_, i, w, gen, t, ok, err⟩ := s
  obtain ⟨h1, h2, h3, h4, h5⟩ := hok
  simp only at h1 h2 h3 h4 h5
  subst h2 h3
  rcases (by omega : at_ = 0 ∨ at_ = 1 ∨ at_ = 2 ∨ at_ = 3 ∨ at_ = 4 ∨ at_ = 5 ∨ at_ = 6 ∨ at_ = 7) with rfl | rfl | rfl | rfl | rfl | rfl | rfl | rfl
  · simp only [SnapS.step, SnapS.cell] at k
    simp only [dsC, SnapS.handle, SnapS.stamp, ratA, Bool.false_eq_true, if_false, List.cons_append, List.nil_append] at hs0
    repeat (refine gO ?_; intros)
    refine Must.mk (cv_small (by omega)) ?_
    repeat (refine gO ?_; intros)
    rw [wrapN_small (by omega)]
    refine rCount_ok hc sl hs0 fun H12 h12 => ?_
    repeat (refine gO ?_; intros)
    by_cases hz : cnt sl.count = 0
    · simp only [if_pos hz] at k
      refine Cd.t (eqZ_t hz) ?_
      repeat (refine gO ?_; intros)
      exact k _ (Sat.ent (by assumption) ee)
    simp only [if_neg hz] at k
    refine Cd.f (eqZ_f hz) ?_
    have hbp := hb.peek (addM sl.first i)
    refine refLoad_ok (a := addM sl.first i) hc h12 pp ht fun H17 h17 => ?_
    repeat (refine gO ?_; intros)
    rename_i H18 h18
    refine rUnpack_ok hc h18 hbp fun H21 h21 => ?_
    repeat (refine gO ?_; intros)
    refine stN (by assumption) (Nat.le_of_ble_eq_true rfl) rfl fun H28 h28 => ?_
    repeat (refine gO ?_; intros)
    rename_i H31 h31
    have h32 : Sat (Own p (c0 :: (dsC ⟨sl, 1, i, (M.peek (addM sl.first i)), genW (M.peek (addM sl.first i)), t, false, 0⟩ ++ rest)) :: RefP m (M.load th (addM sl.first i)) :: R2) H31 := h31.ent ee
    have h33 := h31
    clear h31
    by_cases hk : kindW (M.peek (addM sl.first i)) = 0
    · refine Cd.f (by rw [eqN_t hk]; rfl) ?_
      repeat (refine gO ?_; intros)
      by_cases hg : 1048575 ≤ genW (M.peek (addM sl.first i))
      · simp only [hg, or_true, if_true] at k
        refine Cd.t (leN_t hg) ?_
        refine rSnapOn_ok hc ⟨sl, 1, i, (M.peek (addM sl.first i)), genW (M.peek (addM sl.first i)), t, false, 0⟩ h32 pp rfl h5 fun H35 h35 => ?_
        refine ld h35 rfl (AsInt.mk ?_)
        rw [on_rat]
        exact k _ (h35.ent ee)
      · simp only [hk, hg, ne_eq, not_true_eq_false, or_false, if_false] at k
        refine Cd.f (leN_f (by omega)) ?_
        repeat (refine gO ?_; intros)
        exact k _ (h32.ent ee)
    · simp only [hk, ne_eq, not_false_eq_true, true_or, if_true] at k
      refine Cd.t (by rw [eqN_f hk]; rfl) ?_
      refine rSnapOn_ok hc ⟨sl, 1, i, (M.peek (addM sl.first i)), genW (M.peek (addM sl.first i)), t, false, 0⟩ h32 pp rfl h5 fun H35 h35 => ?_
      refine ld h35 rfl (AsInt.mk ?_)
      rw [on_rat]
      exact k _ (h35.ent ee)
  · simp only [SnapS.step, SnapS.cell] at k
    simp only [dsC, SnapS.handle, SnapS.stamp, ratA, Bool.false_eq_true, if_false, List.cons_append, List.nil_append] at hs0
    repeat (refine gO ?_; intros)
    refine Must.mk (cv_small (by omega)) ?_
    repeat (refine gO ?_; intros)
    rw [wrapN_small (by omega)]
    refine rWord13_ok hc hs0 (by omega) fun H50 h50 => ?_
    refine refCas_ok (a := addM sl.first i) hc h50 pp ht fun H52 h52 => ?_
    repeat (refine gO ?_; intros)
    cases hsw : M.swaps (addM sl.first i) w with
    | true =>
      simp only [hsw, if_true] at k
      refine Cd.t rfl ?_
      repeat (refine gO ?_; intros)
      exact k _ (Sat.ent (by assumption) ee)
    | false =>
      simp only [hsw, Bool.false_eq_true, if_false] at k
      refine Cd.f rfl ?_
      refine rSnapOn_ok hc ⟨sl, 1, i, w, gen, t, false, 0⟩ h52 pp rfl h5 fun H35 h35 => ?_
      refine ld h35 rfl (AsInt.mk ?_)
      rw [on_rat]
      exact k _ (h35.ent ee)
  · simp only [SnapS.step, SnapS.cell] at k
    simp only [dsC, SnapS.handle, SnapS.stamp, ratA, Bool.false_eq_true, if_false, List.cons_append, List.nil_append] at hs0
    repeat (refine gO ?_; intros)
    refine Must.mk (cv_small (by omega)) ?_
    repeat (refine gO ?_; intros)
    refine refLoad_ok hc hs0 pp ht fun H17 h17 => ?_
    repeat (refine gO ?_; intros)
    exact k _ (Sat.ent (by assumption) ee)
  · simp only [SnapS.step, SnapS.cell] at k
    simp only [dsC, SnapS.handle, SnapS.stamp, ratA, Bool.false_eq_true, if_false, List.cons_append, List.nil_append] at hs0
    repeat (refine gO ?_; intros)
    refine Must.mk (cv_small (by omega)) ?_
    repeat (refine gO ?_; intros)
    rw [wrapN_small (by omega)]
    refine rWord13_ok hc hs0 (by omega) fun H50 h50 => ?_
    refine refStore_ok (a := addM sl.first i) hc h50 pp ht fun H52 h52 => ?_
    repeat (refine gO ?_; intros)
    exact k _ (Sat.ent (by assumption) ee)
  · simp only [SnapS.step, SnapS.cell] at k
    simp only [dsC, SnapS.handle, SnapS.stamp, ratA, Bool.false_eq_true, if_false, List.cons_append, List.nil_append] at hs0
    repeat (refine gO ?_; intros)
    refine Must.mk (cv_small (by omega)) ?_
    repeat (refine gO ?_; intros)
    refine refLoad_ok hc hs0 pp ht fun H17 h17 => ?_
    repeat (refine gO ?_; intros)
    by_cases h : sl.most ≤ M.peek sl.cam
    · simp only [if_pos h] at k
      refine Cd.t (leN_t h) ?_
      repeat (refine gO ?_; intros)
      exact k _ (Sat.ent (by assumption) ee)
    · simp only [if_neg h] at k
      refine Cd.f (leN_f (Nat.lt_of_not_le h)) ?_
      repeat (refine gO ?_; intros)
      exact k _ (Sat.ent (by assumption) ee)
  · simp only [SnapS.step, SnapS.cell] at k
    simp only [dsC, SnapS.handle, SnapS.stamp, ratA, Bool.false_eq_true, if_false, List.cons_append, List.nil_append] at hs0
    repeat (refine gO ?_; intros)
    refine Must.mk (cv_small (by omega)) ?_
    repeat (refine gO ?_; intros)
    refine refCas_ok hc hs0 pp ht fun H17 h17 => ?_
    repeat (refine gO ?_; intros)
    exact k _ (Sat.ent (by assumption) ee)
  · simp only [SnapS.step, SnapS.cell] at k
    simp only [dsC, SnapS.handle, SnapS.stamp, ratA, Bool.false_eq_true, if_false, List.cons_append, List.nil_append] at hs0
    repeat (refine gO ?_; intros)
    refine Must.mk (cv_small (by omega)) ?_
    repeat (refine gO ?_; intros)
    rw [wrapN_small (by omega)]
    refine rWord13_ok hc hs0 (by omega) fun H50 h50 => ?_
    refine refStore_ok (a := addM sl.first i) hc h50 pp ht fun H52 h52 => ?_
    repeat (refine gO ?_; intros)
    refine Must.mk (cv_small (by omega)) ?_
    repeat (refine gO ?_; intros)
    have e : Nat.mod (Nat.add (Nat.mod (Nat.add (wrapN .u64 (Int.ofNat i)) 1) 18446744073709551616) (Nat.mod (Nat.mul gen 65536) 18446744073709551616)) 18446744073709551616 = i + 1 + gen * 65536 := by
      rw [wrapN_small (by omega)]
      show ((i + 1) % 18446744073709551616 + gen * 65536 % 18446744073709551616) % 18446744073709551616 = _
      omega
    rename_i hz
    rw [e] at hz
    exact k _ (hz.ent ee)
  · simp only [SnapS.step, SnapS.cell] at k
    simp only [dsC, SnapS.handle, SnapS.stamp, ratA, Bool.false_eq_true, if_false, List.cons_append, List.nil_append] at hs0
    repeat (refine gO ?_; intros)
    refine Must.mk (cv_small (by omega)) ?_
    repeat (refine gO ?_; intros)
    rw [wrapN_small (by omega)]
    refine rWord13_ok hc hs0 (by omega) fun H50 h50 => ?_
    refine refStore_ok (a := addM sl.first i) hc h50 pp ht fun H52 h52 => ?_
    repeat (refine gO ?_; intros)
    exact k _ (Sat.ent (by assumption) ee)
end Go.Proofs.YtocphcgcpjcfjaaGreat

set_option linter.unusedVariables false
set_option linter.unusedSimpArgs false
namespace Go.Proofs.YtocphcgcpjcfjaaGreat
open Go Go.CM
attribute [local irreducible] AsBool AsWant AsNat AsInt AsCnt AsPtr AsSlc AsLen AsStr AsAgg AsTup AsFn AsIfc Nth Sc NotNil IsNil Must Cd codeW funW Sat SatL wrapN subM mkRow ltZ leZ ltN leN
variable {con : CallT}
abbrev pre13 (c : Nat → Value) (r : List Value) : List Value := c 0 :: c 1 :: c 2 :: c 3 :: c 4 :: c 5 :: c 6 :: c 7 :: c 8 :: c 9 :: c 10 :: c 11 :: c 12 :: r
set_option maxRecDepth 100000 in
theorem rLetStep_ok (hc : Con con lives) (s : LetS) {c : Nat → Value} {rest : List Value} {L R1 R2 : List HP} {H : CH} {p m : Nat} {th : Int} {M : Mem} {K : KP} (hs : Sat L H) (hm : Pull L (RefP m M) R1) (hp : Pull R1 (Own p (pre13 c (dlC s ++ rest))) R2)
    (ht : M.tr.length < 1000000000) (hb : M.Bd) (hh : s.h < 18446744073709551616) (hat : s.at_ < 2) (k : ∀ H1, Sat (Own p (pre13 c (dlC (s.step M th).1 ++ rest)) :: RefP m (s.step M th).2 :: R2) H1 → K (.bool (eqZ (Int.ofNat (s.step M th).1.at_) (Int.ofNat 2))) H1) :
    Call1 Tryz.prog con 115 [ptr p 13, ptr m 0, i64 th] H K := by
  refine call_of (hc _ _ _ rfl) ?_
  rw [rLetStep_W]
  have hs0 := hs.takes (.cons hm (.cons hp .nil))
  simp only [List.cons_append, List.nil_append] at hs0
  clear hs hm hp
  obtain ⟨sl, h, at_, slot, w, gen, err⟩ := s
  simp only at hh hat
  rcases (by omega : at_ = 0 ∨ at_ = 1) with rfl | rfl
  · simp only [LetS.step] at k
    simp only [dlC, List.cons_append, List.nil_append] at hs0
    repeat (refine gO ?_; intros)
    refine rUnhandle_ok hc hh (fun hf => ?_) (fun htr => ?_)
    · have hth : LetS.there ⟨sl, h, 0, slot, w, gen, err⟩ = false := by unfold LetS.there; rw [hf]; rfl
      simp only [hth, Bool.false_eq_true, if_false] at k
      repeat (refine gO ?_; intros)
      exact k _ (Sat.ent (by assumption) ee)
    · repeat (refine gO ?_; intros)
      refine rCount_ok hc sl hs0 fun H20 h20 => ?_
      repeat (refine gO ?_; intros)
      by_cases hlt : h % 65536 - 1 < cnt sl.count
      · have hth : LetS.there ⟨sl, h, 0, slot, w, gen, err⟩ = true := by unfold LetS.there; rw [htr, decide_eq_true hlt]; rfl
        simp only [hth, if_true] at k
        refine Cd.f (leZ_f hlt) ?_
        repeat (refine gO ?_; intros)
        refine Must.mk (cv_small (by omega)) ?_
        repeat (refine gO ?_; intros)
        have hbp := hb.peek (addM sl.first (h % 65536 - 1))
        rename_i H29 h29
        rw [wrapN_small (by omega)] at h29
        rw [wrapN_small (by omega)]
        refine refLoad_ok (a := addM sl.first (h % 65536 - 1)) hc h29 pp ht fun H32 h32 => ?_
        repeat (refine gO ?_; intros)
        rename_i H33 h33
        refine rUnpack_ok hc h33 hbp fun H36 h36 => ?_
        repeat (refine gO ?_; intros)
        refine stN (by assumption) (Nat.le_of_ble_eq_true rfl) rfl fun H43 h43 => ?_
        repeat (refine gO ?_; intros)
        by_cases hk : kindW (M.peek (addM sl.first (h % 65536 - 1))) = 3
        · refine Cd.f (by rw [eqN_t hk]; rfl) ?_
          repeat (refine gO ?_; intros)
          by_cases hg : genW (M.peek (addM sl.first (h % 65536 - 1))) = h / 65536
          · simp only [hk, hg, and_self, if_true] at k
            refine Cd.f (by rw [eqN_t hg]; rfl) ?_
            repeat (refine gO ?_; intros)
            exact k _ (Sat.ent (by assumption) ee)
          · simp only [hk, hg, and_false, if_false] at k
            refine Cd.t (by rw [eqN_f hg]; rfl) ?_
            repeat (refine gO ?_; intros)
            exact k _ (Sat.ent (by assumption) ee)
        · simp only [hk, false_and, if_false] at k
          refine Cd.t (by rw [eqN_f hk]; rfl) ?_
          repeat (refine gO ?_; intros)
          exact k _ (Sat.ent (by assumption) ee)
      · have hth : LetS.there ⟨sl, h, 0, slot, w, gen, err⟩ = false := by unfold LetS.there; rw [decide_eq_false hlt, Bool.and_false]
        simp only [hth, Bool.false_eq_true, if_false] at k
        refine Cd.t (leZ_t (Nat.le_of_not_lt hlt)) ?_
        repeat (refine gO ?_; intros)
        exact k _ (Sat.ent (by assumption) ee)
  · simp only [LetS.step] at k
    simp only [dlC, List.cons_append, List.nil_append] at hs0
    repeat (refine gO ?_; intros)
    refine rWord13_ok hc hs0 (by omega) fun H10 h10 => ?_
    refine refCas_ok hc h10 pp ht fun H12 h12 => ?_
    repeat (refine gO ?_; intros)
    cases hsw : M.swaps slot w with
    | true =>
      simp only [hsw, if_true] at k
      refine Cd.f rfl ?_
      repeat (refine gO ?_; intros)
      exact k _ (Sat.ent (by assumption) ee)
    | false =>
      simp only [hsw, Bool.false_eq_true, if_false] at k
      refine Cd.t rfl ?_
      repeat (refine gO ?_; intros)
      exact k _ (Sat.ent (by assumption) ee)
end Go.Proofs.YtocphcgcpjcfjaaGreat

set_option linter.unusedVariables false
set_option linter.unusedSimpArgs false
namespace Go.Proofs.YtocphcgcpjcfjaaGreat
open Go Go.CM
attribute [local irreducible] AsBool AsWant AsNat AsInt AsCnt AsPtr AsSlc AsLen AsStr AsAgg AsTup AsFn AsIfc Nth Sc NotNil IsNil Must Cd codeW funW Sat SatL wrapN subM mkRow ltZ leZ ltN leN
variable {con : CallT}
abbrev ltU (x y : Nat) : Bool := ltN x y
theorem swoU : Sort.SWO ltU where
  irrefl x := ltN_f (Nat.le_refl _)
  trans x y z h1 h2 := ltN_t (Nat.lt_trans (ltN_iff.1 h1) (ltN_iff.1 h2))
  ntrans x y z h1 h2 := by
    have e1 : ¬ x < y := fun h => by rw [show ltU x y = true from ltN_t h] at h1; cases h1
    have e2 : ¬ y < z := fun h => by rw [show ltU y z = true from ltN_t h] at h2; cases h2
    exact ltN_f (by omega)
def RowA (b e s : Nat) (d : Array Nat) : HP := Row b e s true (d.toList.map u64)
instance (priority := 1100) HasCell.rowA {b e s : Nat} {d : Array Nat} {L : List HP} : HasCell (RowA b e s d :: L) b (d.toList.map u64) := HasCell.row
instance (priority := 1100) HasObj.rowA {b e s : Nat} {d : Array Nat} {L : List HP} : HasObj (RowA b e s d :: L) b (d.toList.map u64) (fun cs' => Row b e s true cs' :: L) := HasObj.row
theorem lenA (d : Array Nat) : (d.toList.map u64).length = d.size := by simp
theorem ldA {L : List HP} {H : CH} {b off i : Nat} {d : Array Nat} {K : Value → Prop} (hs : Sat L H) [HasCell L b (d.toList.map u64)] (hi : i < d.size) (ho : off = Nat.add 0 (Nat.mul i 1)) (k : K (u64 d[i]!)) : Ld H b off K := by
  subst ho
  refine ld hs ?_ k
  rw [off1, List.getElem?_map, Array.getElem?_toList, Array.getElem?_eq_getElem hi, getElem!_pos d i hi]; rfl
theorem swpA {d : Array Nat} {i j : Nat} (hi : i < d.size) (hj : j < d.size) : ((d.toList.map u64).set i (u64 d[j]!)).set j (u64 d[i]!) = (Sort.swp d i j).toList.map u64 := by
  unfold Sort.swp
  rw [Array.toList_setIfInBounds, Array.toList_setIfInBounds, List.map_set, List.map_set]
theorem cmpLess_ok (hc : Con con lives) {H : CH} {x y : Nat} {K : KP} (k : K (.bool (ltU x y)) H) : Call1 Tryz.prog con 124 [u64 x, u64 y] H K := by
  refine call_of (hc _ _ _ rfl) ?_
  rw [cmpLess_W]
  refine call_of (hc _ _ _ rfl) ?_
  rw [cmpNaN_W, eqN_self]
  exact AsWant.mk (Cd.f rfl k)
theorem insInner_at {a i : Nat} {d : Array Nat} (h : 0 < i) : Sort.insInner ltU a i d = if i > a && ltU d[i]! d[i - 1]! then Sort.insInner ltU a (i - 1) (Sort.swp d i (i - 1)) else d := by
  obtain ⟨i, rfl⟩ : ∃ m, i = m + 1 := ⟨i - 1, by omega⟩
  rfl
theorem insB_ok (hc : Con con lives) {R : List HP} {H : CH} {b e s a n : Nat} {d : Array Nat} {j : Nat} {σ : TF} {Q : KX} (hs : Sat (RowA b e s d :: R) H) (hn : d.size = n) (hn2 : n ≤ 1000000) (hj : j < n)
    (e0 : σ 0 = slc b 0 n n) (e1 : σ 1 = iN a) (e7 : σ 7 = iN j)
    (k : ∀ σ1 H1, σ1 0 = slc b 0 n n → σ1 1 = iN a → σ1 2 = σ 2 → σ1 6 = σ 6 → Sat (RowA b e s (Sort.insInner ltU a j d) :: R) H1 → Q (.exit 2) σ1 H1) :
    LoopC Tryz.prog con (lpAt Tryz.prog 118 1) σ H Q := by
  refine LoopC.indP (n := 200) (id := 2) (fun σ1 H1 => σ1 0 = slc b 0 n n ∧ σ1 1 = iN a ∧ σ1 2 = σ 2 ∧ σ1 6 = σ 6 ∧ Sat (RowA b e s (Sort.insInner ltU a j d) :: R) H1) (by kernel_rfl)
    (fun (i : Nat) σ1 H1 => i < n ∧ σ1 0 = slc b 0 n n ∧ σ1 1 = iN a ∧ σ1 2 = σ 2 ∧ σ1 6 = σ 6 ∧ σ1 7 = iN i ∧ ∃ d1, d1.size = n ∧ Sort.insInner ltU a i d1 = Sort.insInner ltU a j d ∧ Sat (RowA b e s d1 :: R) H1)
    (fun i => i) (fun i σ1 H1 hI => ?_) (fun σ1 H1 hP => ?_) j _ _ ⟨hj, e0, e1, rfl, rfl, e7, d, hn, rfl, hs⟩
  · obtain ⟨hi, a0, a1, a2, a6, a7, d1, hd1, hins, hs1⟩ := hI
    rw [insSortB_W]
    simp only [a7, a0, a1]
    repeat (refine gO ?_; intros)
    by_cases h : a < i
    · refine Cd.t (ltZ_t h) ?_
      repeat (refine gO ?_; intros)
      refine Must.mk (ltN_t (by omega)) (ldA hs1 (by omega) rfl ?_)
      repeat (refine gO ?_; intros)
      rw [subInt (by omega)]
      refine inR_nat (by omega) ?_
      repeat (refine gO ?_; intros)
      refine Must.mk (ltN_t (by omega)) (ldA hs1 (by omega) rfl ?_)
      repeat (refine gO ?_; intros)
      refine cmpLess_ok hc ?_
      have e2 := insInner_at (a := a) (d := d1) (show 0 < i by omega)
      rw [decide_eq_true (show i > a from h), Bool.true_and] at e2
      repeat (refine gO ?_; intros)
      cases hl : ltU d1[i]! d1[i - 1]! with
      | true =>
        rw [hl, if_pos rfl] at e2
        refine Cd.t rfl ?_
        repeat (refine gO ?_; intros)
        rw [subInt (by omega)]
        refine inR_nat (by omega) ?_
        repeat (refine gO ?_; intros)
        rw [subInt (by omega)]
        refine inR_nat (by omega) ?_
        repeat (refine gO ?_; intros)
        refine Must.mk (ltN_t (by omega)) (ldA hs1 (by omega) rfl ?_)
        repeat (refine gO ?_; intros)
        refine Must.mk (ltN_t (by omega)) (ldA hs1 (by omega) rfl ?_)
        repeat (refine gO ?_; intros)
        refine Must.mk (ltN_t (by omega)) ?_
        repeat (refine gO ?_; intros)
        refine st hs1 (by rw [lenA, off1]; omega) rfl fun _ hx => ?_
        repeat (refine gO ?_; intros)
        refine Must.mk (ltN_t (by omega)) ?_
        repeat (refine gO ?_; intros)
        refine st hx (by rw [List.length_set, lenA, off1]; omega) rfl fun _ hy => ?_
        rw [off1, off1, swpA (by omega) (by omega)] at hy
        clear hx
        repeat (refine gO ?_; intros)
        rw [subInt (by omega)]
        refine inR_nat (by omega) ?_
        repeat (refine gO ?_; intros)
        show ∃ y, _ ∧ _
        exact ⟨i - 1, by omega, by omega, a0, a1, a2, a6, rfl, _, by rw [Sort.size_swp]; exact hd1, by rw [← e2]; exact hins, hy⟩
      | false =>
        rw [hl] at e2
        refine Cd.f rfl ?_
        show _ = _ ∧ _
        exact ⟨rfl, a0, a1, a2, a6, by rw [← hins, e2]; exact hs1⟩
    · refine Cd.f (ltZ_f (by omega)) ?_
      show _ = _ ∧ _
      have e2 : Sort.insInner ltU a i d1 = d1 := by
        cases i with
        | zero => rfl
        | succ i =>
          show (if i + 1 > a && _ then _ else d1) = d1
          rw [decide_eq_false (show ¬ i + 1 > a by omega), Bool.false_and]; rfl
      exact ⟨rfl, a0, a1, a2, a6, by rw [← hins, e2]; exact hs1⟩
  · obtain ⟨a0, a1, a2, a6, hs1⟩ := hP
    exact k σ1 H1 a0 a1 a2 a6 hs1
theorem ins_size (a : Nat) : ∀ (j : Nat) (d : Array Nat), (Sort.insInner ltU a j d).size = d.size
  | 0, d => rfl
  | j + 1, d => by
    show (if _ then Sort.insInner ltU a j _ else d).size = _
    split
    · rw [ins_size a j, Sort.size_swp]
    · rfl
theorem insSort_ok (hc : Con con lives) {L R : List HP} {H : CH} {b e s a z n : Nat} {d : Array Nat} {K : KP} (hs : Sat L H) (hp : Pull L (RowA b e s d) R) (hn : d.size = n) (hn2 : n ≤ 1000000) (hab : a ≤ z) (hz : z ≤ n)
    (k : ∀ H1, Sat (RowA b e s (Sort.insertionSort ltU d a z) :: R) H1 → K unit H1) : Call1 Tryz.prog con 118 [slc b 0 n n, iN a, iN z] H K := by
  refine call_of (hc _ _ _ rfl) ?_
  rw [insSort_W]
  have hs0 := hs.pull hp
  clear hs hp
  rw [addInt]
  refine inR_nat (by omega) ?_
  refine LoopC.indP (n := 200) (id := 0) (fun σ1 H1 => Sat (RowA b e s (Sort.insertionSort ltU d a z) :: R) H1) (by kernel_rfl)
    (fun (i : Nat) σ1 H1 => a ≤ i ∧ σ1 0 = slc b 0 n n ∧ σ1 1 = iN a ∧ σ1 2 = iN z ∧ σ1 6 = iN i ∧ ∃ d1, d1.size = n ∧ Sort.insOuter ltU a z i d1 = Sort.insertionSort ltU d a z ∧ Sat (RowA b e s d1 :: R) H1)
    (fun i => z - i) (fun i σ1 H1 hI => ?_) (fun σ1 H1 hP => ?_) (a + 1) _ _ ⟨by omega, rfl, rfl, rfl, rfl, d, hn, rfl, hs0⟩
  · obtain ⟨hi, a0, a1, a2, a6, d1, hd1, hins, hs1⟩ := hI
    rw [insSortA_W]
    simp only [a6, a2]
    repeat (refine gO ?_; intros)
    by_cases h : i < z
    · refine Cd.t (ltZ_t h) ?_
      refine insB_ok hc (a := a) (j := i) hs1 hd1 hn2 (by omega) a0 a1 rfl fun σ2 H2 c0 c1 c2 c6 h2 => ?_
      show Cd _ _ _
      refine Cd.t rfl ?_
      have c6' : σ2 6 = iN i := c6.trans a6
      simp only [c6']
      repeat (refine gO ?_; intros)
      rw [addInt]
      refine inR_nat (by omega) ?_
      show ∃ y, _ ∧ _
      refine ⟨i + 1, by omega, by omega, c0, c1, c2.trans a2, rfl, _, by rw [ins_size]; exact hd1, ?_, h2⟩
      rw [← hins]
      conv => rhs; unfold Sort.insOuter
      rw [if_pos h]
    · refine Cd.f (ltZ_f (by omega)) ?_
      show _ = _ ∧ _
      refine ⟨rfl, ?_⟩
      rw [← hins]
      unfold Sort.insOuter
      rw [if_neg h]
      exact hs1
  · show Cd _ _ _
    exact Cd.t rfl (k _ hP)
end Go.Proofs.YtocphcgcpjcfjaaGreat

set_option linter.unusedVariables false
set_option linter.unusedSimpArgs false
namespace Go.Proofs.YtocphcgcpjcfjaaGreat
open Go Go.CM
attribute [local irreducible] AsBool AsWant AsNat AsInt AsCnt AsPtr AsSlc AsLen AsStr AsAgg AsTup AsFn AsIfc Nth Sc NotNil IsNil Must Cd codeW funW Sat SatL wrapN subM mkRow ltZ leZ ltN leN
variable {con : CallT}
theorem sift_size (hi f : Nat) : ∀ (n root : Nat) (d : Array Nat), hi - root ≤ n → (Sort.siftDown ltU hi f root d).size = d.size
  | 0, root, d, h => by
    unfold Sort.siftDown
    rw [dif_pos (by omega)]
  | n + 1, root, d, h => by
    unfold Sort.siftDown
    split
    · rfl
    · split
      · split
        · rfl
        · split
          · rw [sift_size hi f n _ _ (by omega), Sort.size_swp]
          · rfl
      · split
        · rfl
        · rw [sift_size hi f n _ _ (by omega), Sort.size_swp]
def childOf (hi f r : Nat) (d : Array Nat) : Nat := if 2 * r + 1 + 1 < hi && ltU d[f + (2 * r + 1)]! d[f + (2 * r + 1) + 1]! then 2 * r + 2 else 2 * r + 1
theorem sift_at {hi f r : Nat} {d : Array Nat} (h : 2 * r + 1 < hi) : Sort.siftDown ltU hi f r d = if !ltU d[f + r]! d[f + childOf hi f r d]! then d else Sort.siftDown ltU hi f (childOf hi f r d) (Sort.swp d (f + r) (f + childOf hi f r d)) := by
  unfold childOf
  conv => lhs; unfold Sort.siftDown
  rw [dif_neg (by omega)]
  by_cases hc : (decide (2 * r + 1 + 1 < hi) && ltU d[f + (2 * r + 1)]! d[f + (2 * r + 1) + 1]!) = true
  · rw [if_pos hc, if_pos hc]
    rw [Bool.and_eq_true] at hc
    have := of_decide_eq_true hc.1
    rw [dif_pos (by omega)]
  · rw [if_neg hc, if_neg hc]
theorem child_lt {z f i : Nat} {d : Array Nat} (h : 2 * i + 1 < z) : childOf z f i d < z ∧ i < childOf z f i d := by
  unfold childOf
  split
  · rename_i h2; rw [Bool.and_eq_true] at h2; have := of_decide_eq_true h2.1; omega
  · omega
theorem child_t {z f i : Nat} {d : Array Nat} (h : 2 * i + 1 + 1 < z) (hl : ltU d[f + (2 * i + 1)]! d[f + (2 * i + 1) + 1]! = true) : iN (2 * i + 1 + 1) = iN (childOf z f i d) := by
  unfold childOf; rw [hl, decide_eq_true h]; rfl
theorem child_f {z f i : Nat} {d : Array Nat} (hl : ltU d[f + (2 * i + 1)]! d[f + (2 * i + 1) + 1]! = false) : iN (2 * i + 1) = iN (childOf z f i d) := by
  unfold childOf; rw [hl, Bool.and_false]; rfl
theorem child_n {z f i : Nat} {d : Array Nat} (h : ¬ 2 * i + 1 + 1 < z) : iN (2 * i + 1) = iN (childOf z f i d) := by
  unfold childOf; rw [decide_eq_false h]; rfl
theorem siftRest_ok (hc : Con con lives) {R : List HP} {H : CH} {b e s z f n i : Nat} {d : Array Nat} {σ : TF} {K : KX} (hs : Sat (RowA b e s d :: R) H) (hn : d.size = n) (hn2 : n ≤ 1000000) (hz : f + z ≤ n) (hlt : 2 * i + 1 < z)
    (c0 : σ 0 = slc b 0 n n) (c2 : σ 2 = iN z) (c3 : σ 3 = iN f) (c8 : σ 8 = iN i) (c9 : σ 9 = iN (childOf z f i d))
    (kr : Sort.siftDown ltU z f i d = d → ∀ σ1, K .ret σ1 H)
    (kn : Sort.siftDown ltU z f i d = Sort.siftDown ltU z f (childOf z f i d) (Sort.swp d (f + i) (f + childOf z f i d)) → ∀ σ1 H1, σ1 0 = slc b 0 n n → σ1 2 = iN z → σ1 3 = iN f → σ1 8 = iN (childOf z f i d) → Sat (RowA b e s (Sort.swp d (f + i) (f + childOf z f i d)) :: R) H1 → K .normal σ1 H1) :
    codeW (dropC 5 (blkC (lpAt Tryz.prog 143 0))) Tryz.prog con σ H K := by
  obtain ⟨hch, hcg⟩ := child_lt (f := f) (d := d) hlt
  have hat := sift_at (hi := z) (f := f) (r := i) (d := d) hlt
  rw [siftD_W]
  simp only [c0, c2, c3, c8, c9]
  repeat (refine gO ?_; intros)
  try rw [addInt]
  refine inR_nat (by omega) ?_
  repeat (refine gO ?_; intros)
  refine Must.mk (ltN_t (by omega)) (ldA hs (by omega) rfl ?_)
  repeat (refine gO ?_; intros)
  try rw [addInt]
  refine inR_nat (by omega) ?_
  repeat (refine gO ?_; intros)
  refine Must.mk (ltN_t (by omega)) (ldA hs (by omega) rfl ?_)
  repeat (refine gO ?_; intros)
  refine cmpLess_ok hc ?_
  repeat (refine gO ?_; intros)
  cases hl : ltU d[f + i]! d[f + childOf z f i d]! with
  | false =>
    rw [hl] at hat
    exact Cd.t rfl (kr hat _)
  | true =>
    rw [hl] at hat
    refine Cd.f rfl ?_
    repeat (refine gO ?_; intros)
    try rw [addInt]
    refine inR_nat (by omega) ?_
    repeat (refine gO ?_; intros)
    try rw [addInt]
    refine inR_nat (by omega) ?_
    repeat (refine gO ?_; intros)
    try rw [addInt]
    refine inR_nat (by omega) ?_
    repeat (refine gO ?_; intros)
    refine Must.mk (ltN_t (by omega)) (ldA hs (by omega) rfl ?_)
    repeat (refine gO ?_; intros)
    try rw [addInt]
    refine inR_nat (by omega) ?_
    repeat (refine gO ?_; intros)
    refine Must.mk (ltN_t (by omega)) (ldA hs (by omega) rfl ?_)
    repeat (refine gO ?_; intros)
    refine Must.mk (ltN_t (by omega)) ?_
    repeat (refine gO ?_; intros)
    refine st hs (by rw [lenA, off1]; omega) rfl fun _ hx => ?_
    repeat (refine gO ?_; intros)
    refine Must.mk (ltN_t (by omega)) ?_
    repeat (refine gO ?_; intros)
    refine st hx (by rw [List.length_set, lenA, off1]; omega) rfl fun _ hy => ?_
    rw [off1, off1, swpA (by omega) (by omega)] at hy
    clear hx
    repeat (refine gO ?_; intros)
    exact kn hat _ _ c0 c2 c3 rfl hy
theorem siftDown_ok (hc : Con con lives) {L R : List HP} {H : CH} {b e s r z f n : Nat} {d : Array Nat} {K : KP} (hs : Sat L H) (hp : Pull L (RowA b e s d) R) (hn : d.size = n) (hn2 : n ≤ 1000000) (hz : f + z ≤ n) (hr : r < 1000000)
    (k : ∀ H1, Sat (RowA b e s (Sort.siftDown ltU z f r d) :: R) H1 → K unit H1) : Call1 Tryz.prog con 143 [slc b 0 n n, iN r, iN z, iN f] H K := by
  refine call_of (hc _ _ _ rfl) ?_
  rw [siftDown_W]
  have hs0 := hs.pull hp
  clear hs hp
  refine LoopC.indP (n := 200) (id := 0) (fun σ1 H1 => Sat (RowA b e s (Sort.siftDown ltU z f r d) :: R) H1) (by kernel_rfl)
    (fun (i : Nat) σ1 H1 => i < 1000000 ∧ σ1 0 = slc b 0 n n ∧ σ1 2 = iN z ∧ σ1 3 = iN f ∧ σ1 8 = iN i ∧ ∃ d1, d1.size = n ∧ Sort.siftDown ltU z f i d1 = Sort.siftDown ltU z f r d ∧ Sat (RowA b e s d1 :: R) H1)
    (fun i => z - i) (fun i σ1 H1 hI => ?_) (fun σ1 H1 hP => ?_) r _ _ ⟨hr, rfl, rfl, rfl, rfl, d, hn, rfl, hs0⟩
  · obtain ⟨hi, a0, a2, a3, a8, d1, hd1, hins, hs1⟩ := hI
    rw [codeW_blk (id := 1) (by kernel_rfl), codeW_cut 5, siftT_W]
    simp only [a8, a2, a0, a3]
    repeat (refine gO ?_; intros)
    refine CInt.mulI (m := 2 * i) rfl (by omega) ?_
    repeat (refine gO ?_; intros)
    try rw [addInt]
    refine inR_nat (by omega) ?_
    repeat (refine gO ?_; intros)
    by_cases hlt : 2 * i + 1 < z
    · refine Cd.f (leZ_f hlt) ?_
      repeat (refine gO ?_; intros)
      try rw [addInt]
      refine inR_nat (by omega) ?_
      repeat (refine gO ?_; intros)
      by_cases hlt2 : 2 * i + 1 + 1 < z
      · refine Cd.t (ltZ_t hlt2) ?_
        repeat (refine gO ?_; intros)
        try rw [addInt]
        refine inR_nat (by omega) ?_
        repeat (refine gO ?_; intros)
        refine Must.mk (ltN_t (by omega)) (ldA hs1 (by omega) rfl ?_)
        repeat (refine gO ?_; intros)
        try rw [addInt]
        refine inR_nat (by omega) ?_
        repeat (refine gO ?_; intros)
        try rw [addInt]
        refine inR_nat (by omega) ?_
        repeat (refine gO ?_; intros)
        refine Must.mk (ltN_t (by omega)) (ldA hs1 (by omega) rfl ?_)
        repeat (refine gO ?_; intros)
        refine cmpLess_ok hc ?_
        repeat (refine gO ?_; intros)
        cases hl : ltU d1[f + (2 * i + 1)]! d1[f + (2 * i + 1) + 1]! with
        | true =>
          refine Cd.t rfl ?_
          repeat (refine gO ?_; intros)
          try rw [addInt]
          refine inR_nat (by omega) ?_
          repeat (refine gO ?_; intros)
          show codeW (dropC 5 (blkC (lpAt Tryz.prog 143 0))) Tryz.prog con _ H1 _
          refine siftRest_ok hc hs1 hd1 hn2 hz hlt a0 a2 a3 a8 ?_ (fun hat σ2 => ?_) (fun hat σ2 H2 c0 c2 c3 c8 h2 => ?_)
          · exact (child_t hlt2 hl)
          · show K unit H1
            refine k _ ?_
            rw [← hins, hat]
            exact hs1
          · show ∃ y, _ ∧ _
            obtain ⟨hch, hcg⟩ := child_lt (f := f) (d := d1) hlt
            exact ⟨childOf z f i d1, by omega, by omega, c0, c2, c3, c8, _, by rw [Sort.size_swp]; exact hd1, by rw [← hins, hat], h2⟩
        | false =>
          refine Cd.f rfl ?_
          show codeW (dropC 5 (blkC (lpAt Tryz.prog 143 0))) Tryz.prog con _ H1 _
          refine siftRest_ok hc hs1 hd1 hn2 hz hlt a0 a2 a3 a8 ?_ (fun hat σ2 => ?_) (fun hat σ2 H2 c0 c2 c3 c8 h2 => ?_)
          · exact (child_f hl)
          · show K unit H1
            refine k _ ?_
            rw [← hins, hat]
            exact hs1
          · show ∃ y, _ ∧ _
            obtain ⟨hch, hcg⟩ := child_lt (f := f) (d := d1) hlt
            exact ⟨childOf z f i d1, by omega, by omega, c0, c2, c3, c8, _, by rw [Sort.size_swp]; exact hd1, by rw [← hins, hat], h2⟩
      · refine Cd.f (ltZ_f (by omega)) ?_
        show codeW (dropC 5 (blkC (lpAt Tryz.prog 143 0))) Tryz.prog con _ H1 _
        refine siftRest_ok hc hs1 hd1 hn2 hz hlt a0 a2 a3 a8 ?_ (fun hat σ2 => ?_) (fun hat σ2 H2 c0 c2 c3 c8 h2 => ?_)
        · exact (child_n hlt2)
        · show K unit H1
          refine k _ ?_
          rw [← hins, hat]
          exact hs1
        · show ∃ y, _ ∧ _
          obtain ⟨hch, hcg⟩ := child_lt (f := f) (d := d1) hlt
          exact ⟨childOf z f i d1, by omega, by omega, c0, c2, c3, c8, _, by rw [Sort.size_swp]; exact hd1, by rw [← hins, hat], h2⟩
    · refine Cd.t (leZ_t (by omega)) ?_
      show Cd _ _ _
      refine Cd.f rfl ?_
      refine ⟨rfl, ?_⟩
      rw [← hins]
      unfold Sort.siftDown
      rw [dif_pos (by omega)]
      exact hs1
  · show Cd _ _ _
    exact Cd.t rfl (k _ hP)
end Go.Proofs.YtocphcgcpjcfjaaGreat

set_option linter.unusedVariables false
set_option linter.unusedSimpArgs false
namespace Go.Proofs.YtocphcgcpjcfjaaGreat
open Go Go.CM
attribute [local irreducible] AsBool AsWant AsNat AsInt AsCnt AsPtr AsSlc AsLen AsStr AsAgg AsTup AsFn AsIfc Nth Sc NotNil IsNil Must Cd codeW funW Sat SatL wrapN subM mkRow ltZ leZ ltN leN
variable {con : CallT}
theorem inR_pred {m : Nat} {K : Prop} (h : m < 1000000000) (k : K) : InR (Int.sub (Int.ofNat m) (Int.ofNat 1)) K := ⟨⟨by show -9223372036854775808 ≤ (m : Int) - 1; omega, by show (m : Int) - 1 < 9223372036854775808; omega⟩, k⟩
theorem build_size (hi f : Nat) : ∀ (k : Nat) (d : Array Nat), (Sort.heapBuild ltU hi f k d).size = d.size
  | 0, d => rfl
  | k + 1, d => by show (Sort.heapBuild ltU hi f k _).size = _; rw [build_size hi f k, sift_size hi f _ _ _ (Nat.le_refl _)]
theorem heapSort_ok (hc : Con con lives) {L R : List HP} {H : CH} {b e s a z n : Nat} {d : Array Nat} {K : KP} (hs : Sat L H) (hp : Pull L (RowA b e s d) R) (hn : d.size = n) (hn2 : n ≤ 1000000) (hab : a < z) (hz : z ≤ n)
    (k : ∀ H1, Sat (RowA b e s (Sort.heapSort ltU d a z) :: R) H1 → K unit H1) : Call1 Tryz.prog con 119 [slc b 0 n n, iN a, iN z] H K := by
  refine call_of (hc _ _ _ rfl) ?_
  rw [heapSort_W]
  have hs0 := hs.pull hp
  clear hs hp
  rw [subInt (by omega)]
  refine inR_nat (by omega) ?_
  rw [subInt (by omega)]
  refine inR_nat (by omega) ?_
  refine CInt.quoI (m := (z - a - 1) / 2) (by omega) rfl (by omega) ?_
  refine LoopC.indP (n := 200) (id := 0) (fun σ1 H1 => σ1 0 = slc b 0 n n ∧ σ1 6 = iN a ∧ σ1 7 = iN 0 ∧ σ1 8 = iN (z - a) ∧ Sat (RowA b e s (Sort.heapBuild ltU (z - a) a ((z - a - 1) / 2 + 1) d) :: R) H1) (by kernel_rfl)
    (fun (i : Nat) σ1 H1 => i ≤ n ∧ σ1 0 = slc b 0 n n ∧ σ1 6 = iN a ∧ σ1 7 = iN 0 ∧ σ1 8 = iN (z - a) ∧ σ1 9 = i64 (Int.sub (Int.ofNat i) (Int.ofNat 1)) ∧ ∃ d1, d1.size = n ∧ Sort.heapBuild ltU (z - a) a i d1 = Sort.heapBuild ltU (z - a) a ((z - a - 1) / 2 + 1) d ∧ Sat (RowA b e s d1 :: R) H1)
    (fun i => i) (fun i σ1 H1 hI => ?_) (fun σ1 H1 hP => ?_) ((z - a - 1) / 2 + 1) _ _ ⟨by omega, rfl, rfl, rfl, rfl, by rw [subInt (by omega)]; rfl, d, hn, rfl, hs0⟩
  · obtain ⟨hi, a0, a6, a7, a8, a9, d1, hd1, hins, hs1⟩ := hI
    rw [heapSortA_W]
    simp only [a9, a0, a6, a7, a8]
    repeat (refine gO ?_; intros)
    cases i with
    | zero =>
      refine Cd.f (by decide +kernel) ?_
      show _ = _ ∧ _
      exact ⟨rfl, a0, a6, a7, a8, by rw [← hins]; exact hs1⟩
    | succ m =>
      rw [subInt (by omega), Nat.add_sub_cancel]
      refine Cd.t (leZ_t (Nat.zero_le _)) ?_
      refine siftDown_ok hc hs1 pp hd1 hn2 (by omega) (by omega) fun H2 h2 => ?_
      repeat (refine gO ?_; intros)
      refine inR_pred (by omega) ?_
      show ∃ y, _ ∧ _
      exact ⟨m, by omega, by omega, a0, a6, a7, a8, rfl, _, by rw [sift_size _ _ _ _ _ (Nat.le_refl _)]; exact hd1, hins, h2⟩
  · obtain ⟨a0, a6, a7, a8, hs1⟩ := hP
    show Cd _ _ _
    refine Cd.t rfl ?_
    simp only [a8]
    repeat (refine gO ?_; intros)
    refine inR_pred (by omega) ?_
    generalize hd2 : Sort.heapBuild ltU (z - a) a ((z - a - 1) / 2 + 1) d = d2 at hs1
    have hd2s : d2.size = n := by rw [← hd2, build_size]; exact hn
    have hfin : Sort.heapSort ltU d a z = Sort.heapPop ltU a (z - a) d2 := by unfold Sort.heapSort; rw [hd2]
    refine LoopC.indP (n := 200) (id := 2) (fun σ1 H1 => Sat (RowA b e s (Sort.heapSort ltU d a z) :: R) H1) (by kernel_rfl)
      (fun (i : Nat) σ1 H1 => a + i ≤ n ∧ σ1 0 = slc b 0 n n ∧ σ1 6 = iN a ∧ σ1 7 = iN 0 ∧ σ1 10 = i64 (Int.sub (Int.ofNat i) (Int.ofNat 1)) ∧ ∃ d1, d1.size = n ∧ Sort.heapPop ltU a i d1 = Sort.heapSort ltU d a z ∧ Sat (RowA b e s d1 :: R) H1)
      (fun i => i) (fun i σ1 H1 hI => ?_) (fun σ1 H1 hP => ?_) (z - a) _ _ ⟨by omega, a0, a6, a7, rfl, d2, hd2s, hfin.symm, hs1⟩
    · obtain ⟨hi, a0, a6, a7, a10, d1, hd1, hins, hs1⟩ := hI
      rw [heapSortB_W]
      simp only [a10, a0, a6, a7]
      repeat (refine gO ?_; intros)
      cases i with
      | zero =>
        refine Cd.f (by decide +kernel) ?_
        show _ = _ ∧ _
        exact ⟨rfl, by rw [← hins]; exact hs1⟩
      | succ m =>
        rw [subInt (by omega), Nat.add_sub_cancel]
        refine Cd.t (leZ_t (Nat.zero_le _)) ?_
        repeat (refine gO ?_; intros)
        try rw [addInt]
        refine inR_nat (by omega) ?_
        repeat (refine gO ?_; intros)
        try rw [addInt]
        refine inR_nat (by omega) ?_
        repeat (refine gO ?_; intros)
        refine Must.mk (ltN_t (by omega)) (ldA hs1 (by omega) rfl ?_)
        repeat (refine gO ?_; intros)
        refine Must.mk (ltN_t (by omega)) (ldA hs1 (by omega) rfl ?_)
        repeat (refine gO ?_; intros)
        refine Must.mk (ltN_t (by omega)) ?_
        repeat (refine gO ?_; intros)
        refine st hs1 (by rw [lenA, off1]; omega) rfl fun _ hx => ?_
        repeat (refine gO ?_; intros)
        refine Must.mk (ltN_t (by omega)) ?_
        repeat (refine gO ?_; intros)
        refine st hx (by rw [List.length_set, lenA, off1]; omega) rfl fun _ hy => ?_
        rw [off1, off1, swpA (by omega) (by omega)] at hy
        clear hx
        repeat (refine gO ?_; intros)
        refine siftDown_ok hc hy pp (by rw [Sort.size_swp]; exact hd1) hn2 (by omega) (by omega) fun H2 h2 => ?_
        repeat (refine gO ?_; intros)
        refine inR_pred (by omega) ?_
        show ∃ y, _ ∧ _
        exact ⟨m, by omega, by omega, a0, a6, a7, rfl, _, by rw [sift_size _ _ _ _ _ (Nat.le_refl _), Sort.size_swp]; exact hd1, hins, h2⟩
    · show Cd _ _ _
      exact Cd.t rfl (k _ hP)
theorem revRange_ok (hc : Con con lives) {L R : List HP} {H : CH} {b e s a z n : Nat} {d : Array Nat} {K : KP} (hs : Sat L H) (hp : Pull L (RowA b e s d) R) (hn : d.size = n) (hn2 : n ≤ 1000000) (hab : a < z) (hz : z ≤ n)
    (k : ∀ H1, Sat (RowA b e s (Sort.reverseRange d a z) :: R) H1 → K unit H1) : Call1 Tryz.prog con 122 [slc b 0 n n, iN a, iN z] H K := by
  refine call_of (hc _ _ _ rfl) ?_
  rw [revRange_W]
  have hs0 := hs.pull hp
  clear hs hp
  rw [subInt (by omega)]
  refine inR_nat (by omega) ?_
  refine LoopC.indP (n := 200) (id := 0) (fun σ1 H1 => Sat (RowA b e s (Sort.reverseRange d a z) :: R) H1) (by kernel_rfl)
    (fun (x : Nat × Nat) σ1 H1 => x.1 < n + 1 ∧ x.2 < n ∧ σ1 0 = slc b 0 n n ∧ σ1 6 = iN x.1 ∧ σ1 7 = iN x.2 ∧ ∃ d1, d1.size = n ∧ Sort.reverseLoop x.1 x.2 d1 = Sort.reverseRange d a z ∧ Sat (RowA b e s d1 :: R) H1)
    (fun x => x.2 - x.1) (fun x σ1 H1 hI => ?_) (fun σ1 H1 hP => ?_) (a, z - 1) _ _ ⟨by show a < n + 1; omega, by show z - 1 < n; omega, rfl, rfl, rfl, d, hn, rfl, hs0⟩
  · obtain ⟨i, j⟩ := x
    obtain ⟨hi, hj, a0, a6, a7, d1, hd1, hins, hs1⟩ := hI
    simp only at hi hj a6 a7 hins
    rw [revRangeL_W]
    simp only [a0, a6, a7]
    repeat (refine gO ?_; intros)
    by_cases h : i < j
    · refine Cd.t (ltZ_t h) ?_
      repeat (refine gO ?_; intros)
      refine Must.mk (ltN_t (by omega)) (ldA hs1 (by omega) rfl ?_)
      repeat (refine gO ?_; intros)
      refine Must.mk (ltN_t (by omega)) (ldA hs1 (by omega) rfl ?_)
      repeat (refine gO ?_; intros)
      refine Must.mk (ltN_t (by omega)) ?_
      repeat (refine gO ?_; intros)
      refine st hs1 (by rw [lenA, off1]; omega) rfl fun _ hx => ?_
      repeat (refine gO ?_; intros)
      refine Must.mk (ltN_t (by omega)) ?_
      repeat (refine gO ?_; intros)
      refine st hx (by rw [List.length_set, lenA, off1]; omega) rfl fun _ hy => ?_
      rw [off1, off1, swpA (by omega) (by omega)] at hy
      clear hx
      repeat (refine gO ?_; intros)
      try rw [addInt]
      refine inR_nat (by omega) ?_
      repeat (refine gO ?_; intros)
      rw [subInt (by omega)]
      refine inR_nat (by omega) ?_
      repeat (refine gO ?_; intros)
      show ∃ y, _ ∧ _
      refine ⟨(i + 1, j - 1), by show j - 1 - (i + 1) < j - i; omega, by show i + 1 < n + 1; omega, by show j - 1 < n; omega, a0, rfl, rfl, _, by rw [Sort.size_swp]; exact hd1, ?_, hy⟩
      rw [← hins]
      conv => rhs; unfold Sort.reverseLoop
      rw [if_pos h]
    · refine Cd.f (ltZ_f (by omega)) ?_
      show _ = _ ∧ _
      refine ⟨rfl, ?_⟩
      rw [← hins]
      unfold Sort.reverseLoop
      rw [if_neg h]
      exact hs1
  · show Cd _ _ _
    exact Cd.t rfl (k _ hP)
theorem order2_ok (hc : Con con lives) {L R1 R : List HP} {H : CH} {b e s p i j n c : Nat} {d : Array Nat} {K : KP} (hs : Sat L H) (hp : Pull L (RowA b e s d) R1) (hq : Pull R1 (Own p [iN c]) R) (hn : d.size = n) (hi : i < n) (hj : j < n) (hcn : c < 1000)
    (k : ∀ i' j' c' H1, i' < n → j' < n → (i' = i ∧ j' = j ∨ i' = j ∧ j' = i) → c' ≤ c + 1 → Sat (RowA b e s d :: Own p [iN c'] :: R) H1 → K (.tuple ⟨[iN i', iN j']⟩) H1) : Call1 Tryz.prog con 152 [slc b 0 n n, iN i, iN j, ptr p 0] H K := by
  refine call_of (hc _ _ _ rfl) ?_
  rw [order2_W]
  have hs0 := hs.takes (.cons hp (.cons hq .nil))
  simp only [List.cons_append, List.nil_append] at hs0
  clear hs hp hq
  repeat (refine gO ?_; intros)
  refine Must.mk (ltN_t (by omega)) (ldA hs0 (by omega) rfl ?_)
  repeat (refine gO ?_; intros)
  refine Must.mk (ltN_t (by omega)) (ldA hs0 (by omega) rfl ?_)
  repeat (refine gO ?_; intros)
  refine cmpLess_ok hc ?_
  repeat (refine gO ?_; intros)
  cases ltU d[j]! d[i]! with
  | true =>
    repeat (refine gO ?_; intros)
    try rw [addInt]
    refine inR_nat (by omega) ?_
    repeat (refine gO ?_; intros)
    exact k j i (c + 1) _ hj hi (.inr ⟨rfl, rfl⟩) (Nat.le_refl _) (Sat.ent (by assumption) ee)
  | false =>
    repeat (refine gO ?_; intros)
    exact k i j c _ hi hj (.inl ⟨rfl, rfl⟩) (Nat.le_succ _) hs0
theorem median_ok (hc : Con con lives) {L R1 R : List HP} {H : CH} {b e s p x y w n c lo hi : Nat} {d : Array Nat} {K : KP} (hs : Sat L H) (hp : Pull L (RowA b e s d) R1) (hq : Pull R1 (Own p [iN c]) R) (hn : d.size = n) (hx : lo ≤ x ∧ x < hi) (hy' : lo ≤ y ∧ y < hi) (hw : lo ≤ w ∧ w < hi) (hh : hi ≤ n) (hcn : c < 100)
    (k : ∀ m c' H1, lo ≤ m → m < hi → c' ≤ c + 3 → Sat (RowA b e s d :: Own p [iN c'] :: R) H1 → K (iN m) H1) : Call1 Tryz.prog con 147 [slc b 0 n n, iN x, iN y, iN w, ptr p 0] H K := by
  refine call_of (hc _ _ _ rfl) ?_
  rw [median_W]
  refine order2_ok hc hs hp hq hn (by omega) (by omega) (by omega) fun i1 j1 c1 H1 q1 q2 q3 q4 h1 => ?_
  refine AsTup.mk (Nth.mk rfl (AsTup.mk (Nth.mk rfl ?_)))
  refine order2_ok hc h1 pp pp hn (by omega) (by omega) (by omega) fun i2 j2 c2 H2 r1 r2 r3 r4 h2 => ?_
  refine AsTup.mk (Nth.mk rfl (AsTup.mk (Nth.mk rfl ?_)))
  refine order2_ok hc h2 pp pp hn (by omega) (by omega) (by omega) fun i3 j3 c3 H3 s1 s2 s3 s4 h3 => ?_
  refine AsTup.mk (Nth.mk rfl (AsTup.mk (Nth.mk rfl ?_)))
  exact k j3 c3 _ (by omega) (by omega) (by omega) h3
theorem medAdj_ok (hc : Con con lives) {L R1 R : List HP} {H : CH} {b e s p x n c lo hi : Nat} {d : Array Nat} {K : KP} (hs : Sat L H) (hp : Pull L (RowA b e s d) R1) (hq : Pull R1 (Own p [iN c]) R) (hn : d.size = n) (hx : lo + 1 ≤ x ∧ x + 1 < hi) (hh : hi ≤ n) (hn2 : n ≤ 1000000) (hcn : c < 100)
    (k : ∀ m c' H1, lo ≤ m → m < hi → c' ≤ c + 3 → Sat (RowA b e s d :: Own p [iN c'] :: R) H1 → K (iN m) H1) : Call1 Tryz.prog con 146 [slc b 0 n n, iN x, ptr p 0] H K := by
  refine call_of (hc _ _ _ rfl) ?_
  rw [medAdj_W]
  rw [subInt (by omega)]
  refine inR_nat (by omega) ?_
  repeat (refine gO ?_; intros)
  try rw [addInt]
  refine inR_nat (by omega) ?_
  repeat (refine gO ?_; intros)
  try rw [addInt]
  exact median_ok hc hs hp hq hn (lo := lo) (hi := hi) (by omega) (by omega) (by omega) hh hcn k
theorem choosePiv_ok (hc : Con con lives) {L R : List HP} {H : CH} {b e s a z n : Nat} {d : Array Nat} {K : KP} (hs : Sat L H) (hp : Pull L (RowA b e s d) R) (hn : d.size = n) (hn2 : n ≤ 1000000) (hab : a < z) (hz : z ≤ n)
    (k : ∀ m h H1, a ≤ m → m < z → h ≤ 2 → Sat (RowA b e s d :: R) H1 → K (.tuple ⟨[iN m, iN h]⟩) H1) : Call1 Tryz.prog con 121 [slc b 0 n n, iN a, iN z] H K := by
  refine call_of (hc _ _ _ rfl) ?_
  rw [choosePiv_W]
  have hs0 := hs.pull hp
  clear hs hp
  rw [subInt (by omega)]
  refine inR_nat (by omega) ?_
  repeat (refine gO ?_; intros)
  rename_i p1 H2 h2
  refine CInt.quoI (m := (z - a) / 4) (by omega) rfl (by omega) ?_
  repeat (refine gO ?_; intros)
  refine CInt.mulI (m := (z - a) / 4 * 1) rfl (by omega) ?_
  repeat (refine gO ?_; intros)
  try rw [addInt]
  refine inR_nat (by omega) ?_
  repeat (refine gO ?_; intros)
  refine CInt.quoI (m := (z - a) / 4) (by omega) rfl (by omega) ?_
  repeat (refine gO ?_; intros)
  refine CInt.mulI (m := (z - a) / 4 * 2) rfl (by omega) ?_
  repeat (refine gO ?_; intros)
  try rw [addInt]
  refine inR_nat (by omega) ?_
  repeat (refine gO ?_; intros)
  refine CInt.quoI (m := (z - a) / 4) (by omega) rfl (by omega) ?_
  repeat (refine gO ?_; intros)
  refine CInt.mulI (m := (z - a) / 4 * 3) rfl (by omega) ?_
  repeat (refine gO ?_; intros)
  try rw [addInt]
  refine inR_nat (by omega) ?_
  repeat (refine gO ?_; intros)
  have fin : ∀ {H3 : CH} {m c : Nat}, a ≤ m → m < z → Sat (RowA b e s d :: Own p1 [iN c] :: R) H3 → Ld H3 p1 0 fun v23 => AsInt .i64 v23 fun z24 => Cd (eqZ z24 (Int.ofNat 0)) (K (.tuple ⟨[iN m, iN 1]⟩) H3) (AsInt .i64 v23 fun z25 => Cd (eqZ z25 (Int.ofNat 12)) (K (.tuple ⟨[iN m, iN 2]⟩) H3) (K (.tuple ⟨[iN m, iN 0]⟩) H3)) := by
    intro H3 m c h1 h2 h3
    repeat (refine gO ?_; intros)
    refine Cd.of (fun _ => k _ _ _ h1 h2 (by omega) (h3.ent ee)) fun _ => ?_
    repeat (refine gO ?_; intros)
    exact Cd.of (fun _ => k _ _ _ h1 h2 (by omega) (h3.ent ee)) fun _ => k _ _ _ h1 h2 (by omega) (h3.ent ee)
  refine Cd.of (fun h8 => ?_) (fun h8 => ?_)
  · have h8 := leZ_e h8
    refine Cd.of (fun h50 => ?_) (fun h50 => ?_)
    · have h50 := leZ_e h50
      refine medAdj_ok hc h2 pp pp hn (lo := a) (hi := z) (by omega) hz hn2 (by omega) fun m1 c1 H3 q1 q2 q3 h3 => ?_
      refine medAdj_ok hc h3 pp pp hn (lo := a) (hi := z) (by omega) hz hn2 (by omega) fun m2 c2 H4 r1 r2 r3 h4 => ?_
      refine medAdj_ok hc h4 pp pp hn (lo := a) (hi := z) (by omega) hz hn2 (by omega) fun m3 c3 H5 s1 s2 s3 h5 => ?_
      refine median_ok hc h5 pp pp hn (lo := a) (hi := z) (by omega) (by omega) (by omega) hz (by omega) fun m4 c4 H6 t1 t2 t3 h6 => ?_
      exact fin t1 t2 h6
    · refine median_ok hc h2 pp pp hn (lo := a) (hi := z) (by omega) (by omega) (by omega) hz (by omega) fun m4 c4 H6 t1 t2 t3 h6 => ?_
      exact fin t1 t2 h6
  · exact fin (m := a + (z - a) / 4 * 2) (c := 0) (by omega) (by omega) (h2.ent ee)
end Go.Proofs.YtocphcgcpjcfjaaGreat

set_option linter.unusedVariables false
set_option linter.unusedSimpArgs false
namespace Go.Proofs.YtocphcgcpjcfjaaGreat
open Go Go.CM
attribute [local irreducible] AsBool AsWant AsNat AsInt AsCnt AsPtr AsSlc AsLen AsStr AsAgg AsTup AsFn AsIfc Nth Sc NotNil IsNil Must Cd codeW funW Sat SatL wrapN subM mkRow ltZ leZ ltN leN
variable {con : CallT}
theorem bitsLen_ok (hc : Con con lives) {H : CH} {n : Nat} {K : KP} (hn : n ≤ 256) (k : ∀ c, c ≤ 9 → (0 < n → 2 ^ c ≤ 2 * n) → K (iN c) H) : Call1 Tryz.prog con 103 [u64 n] H K := by
  refine call_of (hc _ _ _ rfl) ?_
  rw [bitsLen_W]
  refine call_of (hc _ _ _ rfl) ?_
  rw [bitsLen64_W]
  refine Cd.f (leN_f (by omega)) (Cd.f (leN_f (by omega)) ?_)
  by_cases h : 256 ≤ n
  · obtain rfl : n = 256 := by omega
    refine Cd.t (leN_t h) ?_
    try rw [addInt]
    refine inR_nat (by omega) ?_
    repeat (refine gO ?_; intros)
    refine OpN.tab (j := 1) (by kernel_rfl) (by decide +kernel) rfl (by omega) fun c hc1 hc2 => ?_
    refine AsNat.mk (Must.mk (ltN_t (by omega)) ?_)
    have h2 := hc2 (by omega)
    have hcc : c ≤ 1 := by
      rcases Nat.lt_or_ge c 2 with h | h
      · omega
      · have : 2 ^ 2 ≤ 2 ^ c := Nat.pow_le_pow_right (by omega) h
        omega
    rw [show Int.add (Int.ofNat (0 + 8)) (Int.ofNat c) = Int.ofNat (8 + c) from rfl]
    refine inR_nat (by omega) ?_
    refine k (8 + c) (by omega) fun _ => ?_
    have : 2 ^ (8 + c) ≤ 2 ^ 9 := Nat.pow_le_pow_right (by omega) (by omega)
    omega
  · refine Cd.f (leN_f (by omega)) ?_
    have hm : Nat.mod n 256 = n := Nat.mod_eq_of_lt (by omega)
    refine OpN.tab (j := Nat.mod n 256) (by kernel_rfl) (by decide +kernel) rfl (by omega) fun c hc1 hc2 => ?_
    rw [hm] at hc2
    refine AsNat.mk (Must.mk (ltN_t (by omega)) ?_)
    rw [show Int.add (Int.ofNat 0) (Int.ofNat c) = Int.ofNat c from by rw [addInt, Nat.zero_add]]
    refine inR_nat (by omega) ?_
    exact k c (by omega) hc2
theorem nextPow_ok (hc : Con con lives) {H : CH} {n : Nat} {K : KP} (hn : n ≤ 256) (h0 : 0 < n) (k : ∀ m, 0 < m → m ≤ 2 * n → K (u64 m) H) : Call1 Tryz.prog con 144 [iN n] H K := by
  refine call_of (hc _ _ _ rfl) ?_
  rw [nextPow_W]
  refine Must.mk (cv_small (by omega)) ?_
  rw [wrapN_small (by omega)]
  refine bitsLen_ok hc hn fun c hc1 hc2 => ?_
  refine AsCnt.mk ?_
  have h2 := hc2 h0
  have hp : 0 < 2 ^ c := Nat.two_pow_pos c
  have e : Nat.mod (Nat.mul 1 (Nat.pow 2 (Nat.min c 64))) 18446744073709551616 = 2 ^ c := by
    rw [show Nat.min c 64 = c from Nat.min_eq_left (by omega)]
    show 1 * 2 ^ c % 18446744073709551616 = 2 ^ c
    rw [Nat.one_mul]
    exact Nat.mod_eq_of_lt (by omega)
  rw [e]
  exact k _ hp h2
theorem xorNext_ok (hc : Con con lives) {L R : List HP} {H : CH} {p r : Nat} {K : KP} (hs : Sat L H) (hp : Pull L (Own p [u64 r]) R) (k : ∀ x H1, x < 18446744073709551616 → Sat (Own p [u64 x] :: R) H1 → K (u64 x) H1) : Call1 Tryz.prog con 145 [ptr p 0] H K := by
  refine call_of (hc _ _ _ rfl) ?_
  rw [xorNext_W]
  have hs0 := hs.pull hp
  clear hs hp
  repeat (refine gO ?_; intros)
  refine CInt.xorE fun x1 _ => ?_
  repeat (refine gO ?_; intros)
  refine CInt.xorE fun x2 _ => ?_
  repeat (refine gO ?_; intros)
  refine CInt.xorE fun x3 h3 => ?_
  repeat (refine gO ?_; intros)
  exact k x3 _ h3 (Sat.ent (by assumption) ee)
theorem breakPat_ok (hc : Con con lives) {L R : List HP} {H : CH} {b e s a z n : Nat} {d : Array Nat} {K : KP} (hs : Sat L H) (hp : Pull L (RowA b e s d) R) (hn : d.size = n) (hn2 : n ≤ 256) (hab : a ≤ z) (hz : z ≤ n)
    (k : ∀ d' H1, Sort.PermIn a z d d' → Sat (RowA b e s d' :: R) H1 → K unit H1) : Call1 Tryz.prog con 120 [slc b 0 n n, iN a, iN z] H K := by
  refine call_of (hc _ _ _ rfl) ?_
  rw [breakPat_W]
  have hs0 := hs.pull hp
  clear hs hp
  rw [subInt (by omega)]
  refine inR_nat (by omega) ?_
  refine Cd.of (fun h8 => ?_) (fun _ => k d _ (Sort.permIn_refl d a z) hs0)
  have h8 := leZ_e h8
  refine Must.mk (cv_small (by omega)) ?_
  rw [wrapN_small (by omega)]
  repeat (refine gO ?_; intros)
  refine nextPow_ok hc (by omega) (by omega) fun m hm1 hm2 => ?_
  refine CInt.quoI (m := (z - a) / 4) (by omega) rfl (by omega) ?_
  repeat (refine gO ?_; intros)
  refine CInt.mulI (m := (z - a) / 4 * 2) rfl (by omega) ?_
  repeat (refine gO ?_; intros)
  try rw [addInt]
  refine inR_nat (by omega) ?_
  repeat (refine gO ?_; intros)
  rw [subInt (by omega)]
  refine inR_nat (by omega) ?_
  rename_i p1 H2 h2 H3 h3
  refine LoopC.indP (n := 200) (id := 0) (fun σ1 H1 => ∃ d', Sort.PermIn a z d d' ∧ Sat (RowA b e s d' :: R) H1) (by kernel_rfl)
    (fun (i : Nat) σ1 H1 => a ≤ i ∧ σ1 0 = slc b 0 n n ∧ σ1 1 = iN a ∧ σ1 6 = iN (z - a) ∧ σ1 7 = ptr p1 0 ∧ σ1 8 = u64 m ∧ σ1 9 = iN i ∧ ∃ w, w < 18446744073709551616 ∧ ∃ d1, Sort.PermIn a z d d1 ∧ Sat (RowA b e s d1 :: Own p1 [u64 w] :: R) H1)
    (fun i => z - i) (fun i σ1 H1 hI => ?_) (fun σ1 H1 hP => ?_) (a + (z - a) / 4 * 2 - 1) _ _ ⟨by omega, rfl, rfl, rfl, rfl, rfl, rfl, z - a, by omega, d, Sort.permIn_refl d a z, h3.ent ee⟩
  · obtain ⟨hi, c0, c1, c6, c7, c8, c9, w, hw, d1, hp1, hs1⟩ := hI
    have hd1 : d1.size = n := by rw [hp1.1]; exact hn
    rw [breakPatL_W]
    simp only [c0, c1, c6, c7, c8, c9]
    repeat (refine gO ?_; intros)
    refine CInt.quoI (m := (z - a) / 4) (by omega) rfl (by omega) ?_
    repeat (refine gO ?_; intros)
    refine CInt.mulI (m := (z - a) / 4 * 2) rfl (by omega) ?_
    repeat (refine gO ?_; intros)
    try rw [addInt]
    refine inR_nat (by omega) ?_
    repeat (refine gO ?_; intros)
    try rw [addInt]
    refine inR_nat (by omega) ?_
    repeat (refine gO ?_; intros)
    refine Cd.of (fun hle => ?_) (fun hgt => ?_)
    · have hle := leZ_e hle
      refine xorNext_ok hc hs1 pp fun w' H9 hw' h9 => ?_
      clear hs1
      have hs1 : Sat (RowA b e s d1 :: Own p1 [u64 w'] :: R) H9 := h9.ent ee
      clear h9
      repeat (refine gO ?_; intros)
      rw [subM_small (by omega) (by omega)]
      have hand : w' &&& (m - 1) ≤ m - 1 := Nat.and_le_right
      refine CInt.and hw' (by omega) rfl ?_
      generalize w' &&& (m - 1) = o at hand
      repeat (refine gO ?_; intros)
      rw [wrapI_small (by omega)]
      refine Cd.of (fun hge => ?_) (fun hlt => ?_)
      · have hge := leZ_e hge
        repeat (refine gO ?_; intros)
        rw [subInt (by omega)]
        refine inR_nat (by omega) ?_
        repeat (refine gO ?_; intros)
        try rw [addInt]
        refine inR_nat (by omega) ?_
        repeat (refine gO ?_; intros)
        try rw [addInt]
        refine inR_nat (by omega) ?_
        repeat (refine gO ?_; intros)
        refine Must.mk (ltN_t (by omega)) (ldA hs1 (by omega) rfl ?_)
        repeat (refine gO ?_; intros)
        refine Must.mk (ltN_t (by omega)) (ldA hs1 (by omega) rfl ?_)
        repeat (refine gO ?_; intros)
        refine Must.mk (ltN_t (by omega)) ?_
        repeat (refine gO ?_; intros)
        refine st hs1 (by rw [lenA, off1]; omega) rfl fun _ hx => ?_
        repeat (refine gO ?_; intros)
        refine Must.mk (ltN_t (by omega)) ?_
        repeat (refine gO ?_; intros)
        refine st hx (by rw [List.length_set, lenA, off1]; omega) rfl fun _ hy => ?_
        rw [off1, off1, swpA (by omega) (by omega)] at hy
        clear hx
        repeat (refine gO ?_; intros)
        try rw [addInt]
        refine inR_nat (by omega) ?_
        repeat (refine gO ?_; intros)
        show ∃ y, _ ∧ _
        replace hy : Sat (RowA b e s (Sort.swp d1 i (a + (o - (z - a)))) :: Own p1 [u64 w'] :: R) _ := hy
        exact ⟨i + 1, by omega, by omega, c0, c1, c6, c7, c8, rfl, w', hw', _, Sort.permIn_trans _ _ _ a z hp1 (Sort.swp_permIn _ _ _ _ _ (by omega) (by omega) (by omega) (by omega) (by omega)), hy⟩
      · have hlt := leZ_n hlt
        repeat (refine gO ?_; intros)
        try rw [addInt]
        refine inR_nat (by omega) ?_
        repeat (refine gO ?_; intros)
        try rw [addInt]
        refine inR_nat (by omega) ?_
        repeat (refine gO ?_; intros)
        refine Must.mk (ltN_t (by omega)) (ldA hs1 (by omega) rfl ?_)
        repeat (refine gO ?_; intros)
        refine Must.mk (ltN_t (by omega)) (ldA hs1 (by omega) rfl ?_)
        repeat (refine gO ?_; intros)
        refine Must.mk (ltN_t (by omega)) ?_
        repeat (refine gO ?_; intros)
        refine st hs1 (by rw [lenA, off1]; omega) rfl fun _ hx => ?_
        repeat (refine gO ?_; intros)
        refine Must.mk (ltN_t (by omega)) ?_
        repeat (refine gO ?_; intros)
        refine st hx (by rw [List.length_set, lenA, off1]; omega) rfl fun _ hy => ?_
        rw [off1, off1, swpA (by omega) (by omega)] at hy
        clear hx
        repeat (refine gO ?_; intros)
        try rw [addInt]
        refine inR_nat (by omega) ?_
        repeat (refine gO ?_; intros)
        show ∃ y, _ ∧ _
        replace hy : Sat (RowA b e s (Sort.swp d1 i (a + o)) :: Own p1 [u64 w'] :: R) _ := hy
        exact ⟨i + 1, by omega, by omega, c0, c1, c6, c7, c8, rfl, w', hw', _, Sort.permIn_trans _ _ _ a z hp1 (Sort.swp_permIn _ _ _ _ _ (by omega) (by omega) (by omega) (by omega) (by omega)), hy⟩
    · show _ = _ ∧ _
      exact ⟨rfl, d1, hp1, hs1.ent ee⟩
  · obtain ⟨d', hp', hs1⟩ := hP
    show Cd _ _ _
    exact Cd.t rfl (k d' _ hp' hs1)
end Go.Proofs.YtocphcgcpjcfjaaGreat

set_option linter.unusedVariables false
set_option linter.unusedSimpArgs false
namespace Go.Proofs.YtocphcgcpjcfjaaGreat
open Go Go.CM
attribute [local irreducible] AsBool AsWant AsNat AsInt AsCnt AsPtr AsSlc AsLen AsStr AsAgg AsTup AsFn AsIfc Nth Sc NotNil IsNil Must Cd codeW funW Sat SatL wrapN subM mkRow ltZ leZ ltN leN
variable {con : CallT}
theorem notB_not (b : Bool) : notB b = !b := by cases b <;> rfl
theorem scanUp_go {p : Nat → Bool} {d : Array Nat} {i j : Nat} (h : i ≤ j) (hp : p d[i]! = true) : Sort.scanUp p d j i = Sort.scanUp p d j (i + 1) := by
  rw [Sort.scanUp, if_pos (by rw [hp, decide_eq_true h]; rfl)]
theorem scanUp_stop {p : Nat → Bool} {d : Array Nat} {i j : Nat} (hp : p d[i]! = false) : Sort.scanUp p d j i = i := by
  rw [Sort.scanUp, if_neg (by rw [hp, Bool.and_false]; exact Bool.false_ne_true)]
theorem scanUp_over {p : Nat → Bool} {d : Array Nat} {i j : Nat} (h : j < i) : Sort.scanUp p d j i = i := by
  rw [Sort.scanUp, if_neg (by rw [decide_eq_false (by omega), Bool.false_and]; exact Bool.false_ne_true)]
theorem scanDown_go {p : Nat → Bool} {d : Array Nat} {i j : Nat} (h0 : 0 < j) (h : i ≤ j) (hp : p d[j]! = true) : Sort.scanDown p d i j = Sort.scanDown p d i (j - 1) := by
  obtain ⟨j, rfl⟩ : ∃ m, j = m + 1 := ⟨j - 1, by omega⟩
  rw [Sort.scanDown, if_pos (by rw [hp, decide_eq_true h]; rfl)]; rfl
theorem scanDown_stop {p : Nat → Bool} {d : Array Nat} {i j : Nat} (hp : p d[j]! = false) : Sort.scanDown p d i j = j := by
  cases j with
  | zero => rfl
  | succ j => rw [Sort.scanDown, if_neg (by rw [hp, Bool.and_false]; exact Bool.false_ne_true)]
theorem scanDown_over {p : Nat → Bool} {d : Array Nat} {i j : Nat} (h : j < i) : Sort.scanDown p d i j = j := by
  cases j with
  | zero => rfl
  | succ j => rw [Sort.scanDown, if_neg (by rw [decide_eq_false (by omega), Bool.false_and]; exact Bool.false_ne_true)]
theorem partLoop_facts (a : Nat) : ∀ (m i j : Nat) (d : Array Nat), j + 1 - i ≤ m → (Sort.partLoop ltU a i j d).1 ≤ j ∧ (Sort.partLoop ltU a i j d).2.size = d.size := by
  intro m
  induction m with
  | zero =>
    intro i j d hm
    rw [Sort.partLoop_eq, scanUp_over (by omega), scanDown_over (by omega), if_pos (by omega)]
    exact ⟨Nat.le_refl _, rfl⟩
  | succ m ih =>
    intro i j d hm
    have g1 := Sort.scanUp_ge (fun x => ltU x d[a]!) d j i
    have g2 := Sort.scanDown_le (fun x => !ltU x d[a]!) d (Sort.scanUp (fun x => ltU x d[a]!) d j i) j
    rw [Sort.partLoop_eq]
    generalize Sort.scanUp (fun x => ltU x d[a]!) d j i = i2 at *
    generalize Sort.scanDown (fun x => !ltU x d[a]!) d i2 j = j2 at *
    by_cases h : i2 > j2
    · rw [if_pos h]
      exact ⟨g2, rfl⟩
    · rw [if_neg h]
      have := ih (i2 + 1) (j2 - 1) (Sort.swp d i2 j2) (by omega)
      exact ⟨by omega, by rw [this.2, Sort.size_swp]⟩
theorem partEqB_ok (hc : Con con lives) {R : List HP} {H : CH} {b e s a n i j : Nat} {d : Array Nat} {σ : TF} {Q : KX} (hs : Sat (RowA b e s d :: R) H) (hn : d.size = n) (hn2 : n ≤ 1000000) (ha : a < n) (hj : j < n)
    (e0 : σ 0 = slc b 0 n n) (e1 : σ 1 = iN a) (ei : σ 9 = iN i) (ej : σ 10 = iN j)
    (k : ∀ σ1 H1, σ1 0 = slc b 0 n n → σ1 1 = iN a → σ1 9 = iN (Sort.scanUp (fun x => !ltU d[a]! x) d j i) → σ1 10 = iN j → Sat (RowA b e s d :: R) H1 → Q (.exit 2) σ1 H1) :
    LoopC Tryz.prog con (lpAt Tryz.prog 125 1) σ H Q := by
  refine LoopC.indP (n := 200) (id := 2) (fun σ1 H1 => σ1 0 = slc b 0 n n ∧ σ1 1 = iN a ∧ σ1 9 = iN (Sort.scanUp (fun x => !ltU d[a]! x) d j i) ∧ σ1 10 = iN j ∧ Sat (RowA b e s d :: R) H1) (by kernel_rfl)
    (fun (x : Nat) σ1 H1 => Sort.scanUp (fun x => !ltU d[a]! x) d j x = Sort.scanUp (fun x => !ltU d[a]! x) d j i ∧ σ1 0 = slc b 0 n n ∧ σ1 1 = iN a ∧ σ1 9 = iN x ∧ σ1 10 = iN j ∧ Sat (RowA b e s d :: R) H1)
    (fun x => j + 1 - x) (fun x σ1 H1 hI => ?_) (fun σ1 H1 hP => ?_) i _ _ ⟨rfl, e0, e1, ei, ej, hs⟩
  · obtain ⟨hx, a0, a1, ai, aj, hs1⟩ := hI
    rw [partEqB_W]
    simp only [ai, aj, a0, a1]
    repeat (refine gO ?_; intros)
    by_cases h : x ≤ j
    · refine Cd.t (leZ_t h) ?_
      repeat (refine gO ?_; intros)
      refine Must.mk (ltN_t (by omega)) (ldA hs1 (by omega) rfl ?_)
      repeat (refine gO ?_; intros)
      refine Must.mk (ltN_t (by omega)) (ldA hs1 (by omega) rfl ?_)
      repeat (refine gO ?_; intros)
      refine cmpLess_ok hc ?_
      repeat (refine gO ?_; intros)
      try rw [notB_not]
      by_cases hp : (fun x => !ltU d[a]! x) d[x]! = true
      · refine Cd.t hp ?_
        repeat (refine gO ?_; intros)
        try rw [addInt]
        refine inR_nat (by omega) ?_
        repeat (refine gO ?_; intros)
        show ∃ y, _ ∧ _
        exact ⟨x + 1, by omega, (scanUp_go (p := (fun x => !ltU d[a]! x)) h hp).symm.trans hx, a0, a1, rfl, aj, hs1⟩
      · have hp := Bool.eq_false_iff.2 hp
        refine Cd.f hp ?_
        show _ = _ ∧ _
        exact ⟨rfl, a0, a1, by rw [← hx, scanUp_stop (p := (fun x => !ltU d[a]! x)) hp]; exact ai, aj, hs1⟩
    · refine Cd.f (leZ_f (by omega)) ?_
      show _ = _ ∧ _
      exact ⟨rfl, a0, a1, by rw [← hx, scanUp_over (by omega)]; exact ai, aj, hs1⟩
  · obtain ⟨a0, a1, ai, aj, hs1⟩ := hP
    exact k σ1 H1 a0 a1 ai aj hs1
theorem partEqC_ok (hc : Con con lives) {R : List HP} {H : CH} {b e s a n i j : Nat} {d : Array Nat} {σ : TF} {Q : KX} (hs : Sat (RowA b e s d :: R) H) (hn : d.size = n) (hn2 : n ≤ 1000000) (ha : a < n) (hj : j < n) (hi : 0 < i)
    (e0 : σ 0 = slc b 0 n n) (e1 : σ 1 = iN a) (ei : σ 9 = iN i) (ej : σ 10 = iN j)
    (k : ∀ σ1 H1, σ1 0 = slc b 0 n n → σ1 1 = iN a → σ1 9 = iN i → σ1 10 = iN (Sort.scanDown (fun x => ltU d[a]! x) d i j) → Sat (RowA b e s d :: R) H1 → Q (.exit 4) σ1 H1) :
    LoopC Tryz.prog con (lpAt Tryz.prog 125 2) σ H Q := by
  refine LoopC.indP (n := 200) (id := 4) (fun σ1 H1 => σ1 0 = slc b 0 n n ∧ σ1 1 = iN a ∧ σ1 9 = iN i ∧ σ1 10 = iN (Sort.scanDown (fun x => ltU d[a]! x) d i j) ∧ Sat (RowA b e s d :: R) H1) (by kernel_rfl)
    (fun (x : Nat) σ1 H1 => x < n ∧ Sort.scanDown (fun x => ltU d[a]! x) d i x = Sort.scanDown (fun x => ltU d[a]! x) d i j ∧ σ1 0 = slc b 0 n n ∧ σ1 1 = iN a ∧ σ1 9 = iN i ∧ σ1 10 = iN x ∧ Sat (RowA b e s d :: R) H1)
    (fun x => x) (fun x σ1 H1 hI => ?_) (fun σ1 H1 hP => ?_) j _ _ ⟨hj, rfl, e0, e1, ei, ej, hs⟩
  · obtain ⟨hxn, hx, a0, a1, ai, aj, hs1⟩ := hI
    rw [partEqC_W]
    simp only [ai, aj, a0, a1]
    repeat (refine gO ?_; intros)
    by_cases h : i ≤ x
    · refine Cd.t (leZ_t h) ?_
      repeat (refine gO ?_; intros)
      refine Must.mk (ltN_t (by omega)) (ldA hs1 (by omega) rfl ?_)
      repeat (refine gO ?_; intros)
      refine Must.mk (ltN_t (by omega)) (ldA hs1 (by omega) rfl ?_)
      repeat (refine gO ?_; intros)
      refine cmpLess_ok hc ?_
      repeat (refine gO ?_; intros)
      try rw [notB_not]
      by_cases hp : (fun x => ltU d[a]! x) d[x]! = true
      · refine Cd.t hp ?_
        repeat (refine gO ?_; intros)
        rw [subInt (by omega)]
        refine inR_nat (by omega) ?_
        repeat (refine gO ?_; intros)
        show ∃ y, _ ∧ _
        exact ⟨x - 1, by omega, by omega, (scanDown_go (p := (fun x => ltU d[a]! x)) (by omega) h hp).symm.trans hx, a0, a1, ai, rfl, hs1⟩
      · have hp := Bool.eq_false_iff.2 hp
        refine Cd.f hp ?_
        show _ = _ ∧ _
        exact ⟨rfl, a0, a1, ai, by rw [← hx, scanDown_stop (p := (fun x => ltU d[a]! x)) hp]; exact aj, hs1⟩
    · refine Cd.f (leZ_f (by omega)) ?_
      show _ = _ ∧ _
      exact ⟨rfl, a0, a1, ai, by rw [← hx, scanDown_over (by omega)]; exact aj, hs1⟩
  · obtain ⟨a0, a1, ai, aj, hs1⟩ := hP
    exact k σ1 H1 a0 a1 ai aj hs1
theorem partOrdA_ok (hc : Con con lives) {R : List HP} {H : CH} {b e s a n i j : Nat} {d : Array Nat} {σ : TF} {Q : KX} (hs : Sat (RowA b e s d :: R) H) (hn : d.size = n) (hn2 : n ≤ 1000000) (ha : a < n) (hj : j < n)
    (e0 : σ 0 = slc b 0 n n) (e1 : σ 1 = iN a) (ei : σ 10 = iN i) (ej : σ 11 = iN j)
    (k : ∀ σ1 H1, σ1 0 = slc b 0 n n → σ1 1 = iN a → σ1 10 = iN (Sort.scanUp (fun x => ltU x d[a]!) d j i) → σ1 11 = iN j → Sat (RowA b e s d :: R) H1 → Q (.exit 0) σ1 H1) :
    LoopC Tryz.prog con (lpAt Tryz.prog 126 0) σ H Q := by
  refine LoopC.indP (n := 200) (id := 0) (fun σ1 H1 => σ1 0 = slc b 0 n n ∧ σ1 1 = iN a ∧ σ1 10 = iN (Sort.scanUp (fun x => ltU x d[a]!) d j i) ∧ σ1 11 = iN j ∧ Sat (RowA b e s d :: R) H1) (by kernel_rfl)
    (fun (x : Nat) σ1 H1 => Sort.scanUp (fun x => ltU x d[a]!) d j x = Sort.scanUp (fun x => ltU x d[a]!) d j i ∧ σ1 0 = slc b 0 n n ∧ σ1 1 = iN a ∧ σ1 10 = iN x ∧ σ1 11 = iN j ∧ Sat (RowA b e s d :: R) H1)
    (fun x => j + 1 - x) (fun x σ1 H1 hI => ?_) (fun σ1 H1 hP => ?_) i _ _ ⟨rfl, e0, e1, ei, ej, hs⟩
  · obtain ⟨hx, a0, a1, ai, aj, hs1⟩ := hI
    rw [partOrdA_W]
    simp only [ai, aj, a0, a1]
    repeat (refine gO ?_; intros)
    by_cases h : x ≤ j
    · refine Cd.t (leZ_t h) ?_
      repeat (refine gO ?_; intros)
      refine Must.mk (ltN_t (by omega)) (ldA hs1 (by omega) rfl ?_)
      repeat (refine gO ?_; intros)
      refine Must.mk (ltN_t (by omega)) (ldA hs1 (by omega) rfl ?_)
      repeat (refine gO ?_; intros)
      refine cmpLess_ok hc ?_
      repeat (refine gO ?_; intros)
      try rw [notB_not]
      by_cases hp : (fun x => ltU x d[a]!) d[x]! = true
      · refine Cd.t hp ?_
        repeat (refine gO ?_; intros)
        try rw [addInt]
        refine inR_nat (by omega) ?_
        repeat (refine gO ?_; intros)
        show ∃ y, _ ∧ _
        exact ⟨x + 1, by omega, (scanUp_go (p := (fun x => ltU x d[a]!)) h hp).symm.trans hx, a0, a1, rfl, aj, hs1⟩
      · have hp := Bool.eq_false_iff.2 hp
        refine Cd.f hp ?_
        show _ = _ ∧ _
        exact ⟨rfl, a0, a1, by rw [← hx, scanUp_stop (p := (fun x => ltU x d[a]!)) hp]; exact ai, aj, hs1⟩
    · refine Cd.f (leZ_f (by omega)) ?_
      show _ = _ ∧ _
      exact ⟨rfl, a0, a1, by rw [← hx, scanUp_over (by omega)]; exact ai, aj, hs1⟩
  · obtain ⟨a0, a1, ai, aj, hs1⟩ := hP
    exact k σ1 H1 a0 a1 ai aj hs1
theorem partOrdB_ok (hc : Con con lives) {R : List HP} {H : CH} {b e s a n i j : Nat} {d : Array Nat} {σ : TF} {Q : KX} (hs : Sat (RowA b e s d :: R) H) (hn : d.size = n) (hn2 : n ≤ 1000000) (ha : a < n) (hj : j < n) (hi : 0 < i)
    (e0 : σ 0 = slc b 0 n n) (e1 : σ 1 = iN a) (ei : σ 10 = iN i) (ej : σ 11 = iN j)
    (k : ∀ σ1 H1, σ1 0 = slc b 0 n n → σ1 1 = iN a → σ1 10 = iN i → σ1 11 = iN (Sort.scanDown (fun x => !ltU x d[a]!) d i j) → Sat (RowA b e s d :: R) H1 → Q (.exit 2) σ1 H1) :
    LoopC Tryz.prog con (lpAt Tryz.prog 126 1) σ H Q := by
  refine LoopC.indP (n := 200) (id := 2) (fun σ1 H1 => σ1 0 = slc b 0 n n ∧ σ1 1 = iN a ∧ σ1 10 = iN i ∧ σ1 11 = iN (Sort.scanDown (fun x => !ltU x d[a]!) d i j) ∧ Sat (RowA b e s d :: R) H1) (by kernel_rfl)
    (fun (x : Nat) σ1 H1 => x < n ∧ Sort.scanDown (fun x => !ltU x d[a]!) d i x = Sort.scanDown (fun x => !ltU x d[a]!) d i j ∧ σ1 0 = slc b 0 n n ∧ σ1 1 = iN a ∧ σ1 10 = iN i ∧ σ1 11 = iN x ∧ Sat (RowA b e s d :: R) H1)
    (fun x => x) (fun x σ1 H1 hI => ?_) (fun σ1 H1 hP => ?_) j _ _ ⟨hj, rfl, e0, e1, ei, ej, hs⟩
  · obtain ⟨hxn, hx, a0, a1, ai, aj, hs1⟩ := hI
    rw [partOrdB_W]
    simp only [ai, aj, a0, a1]
    repeat (refine gO ?_; intros)
    by_cases h : i ≤ x
    · refine Cd.t (leZ_t h) ?_
      repeat (refine gO ?_; intros)
      refine Must.mk (ltN_t (by omega)) (ldA hs1 (by omega) rfl ?_)
      repeat (refine gO ?_; intros)
      refine Must.mk (ltN_t (by omega)) (ldA hs1 (by omega) rfl ?_)
      repeat (refine gO ?_; intros)
      refine cmpLess_ok hc ?_
      repeat (refine gO ?_; intros)
      try rw [notB_not]
      by_cases hp : (fun x => !ltU x d[a]!) d[x]! = true
      · refine Cd.t hp ?_
        repeat (refine gO ?_; intros)
        rw [subInt (by omega)]
        refine inR_nat (by omega) ?_
        repeat (refine gO ?_; intros)
        show ∃ y, _ ∧ _
        exact ⟨x - 1, by omega, by omega, (scanDown_go (p := (fun x => !ltU x d[a]!)) (by omega) h hp).symm.trans hx, a0, a1, ai, rfl, hs1⟩
      · have hp := Bool.eq_false_iff.2 hp
        refine Cd.f hp ?_
        show _ = _ ∧ _
        exact ⟨rfl, a0, a1, ai, by rw [← hx, scanDown_stop (p := (fun x => !ltU x d[a]!)) hp]; exact aj, hs1⟩
    · refine Cd.f (leZ_f (by omega)) ?_
      show _ = _ ∧ _
      exact ⟨rfl, a0, a1, ai, by rw [← hx, scanDown_over (by omega)]; exact aj, hs1⟩
  · obtain ⟨a0, a1, ai, aj, hs1⟩ := hP
    exact k σ1 H1 a0 a1 ai aj hs1
theorem partOrdD_ok (hc : Con con lives) {R : List HP} {H : CH} {b e s a n i j : Nat} {d : Array Nat} {σ : TF} {Q : KX} (hs : Sat (RowA b e s d :: R) H) (hn : d.size = n) (hn2 : n ≤ 1000000) (ha : a < n) (hj : j < n)
    (e0 : σ 0 = slc b 0 n n) (e1 : σ 1 = iN a) (ei : σ 10 = iN i) (ej : σ 11 = iN j)
    (k : ∀ σ1 H1, σ1 0 = slc b 0 n n → σ1 1 = iN a → σ1 10 = iN (Sort.scanUp (fun x => ltU x d[a]!) d j i) → σ1 11 = iN j → Sat (RowA b e s d :: R) H1 → Q (.exit 6) σ1 H1) :
    LoopC Tryz.prog con (lpAt Tryz.prog 126 3) σ H Q := by
  refine LoopC.indP (n := 200) (id := 6) (fun σ1 H1 => σ1 0 = slc b 0 n n ∧ σ1 1 = iN a ∧ σ1 10 = iN (Sort.scanUp (fun x => ltU x d[a]!) d j i) ∧ σ1 11 = iN j ∧ Sat (RowA b e s d :: R) H1) (by kernel_rfl)
    (fun (x : Nat) σ1 H1 => Sort.scanUp (fun x => ltU x d[a]!) d j x = Sort.scanUp (fun x => ltU x d[a]!) d j i ∧ σ1 0 = slc b 0 n n ∧ σ1 1 = iN a ∧ σ1 10 = iN x ∧ σ1 11 = iN j ∧ Sat (RowA b e s d :: R) H1)
    (fun x => j + 1 - x) (fun x σ1 H1 hI => ?_) (fun σ1 H1 hP => ?_) i _ _ ⟨rfl, e0, e1, ei, ej, hs⟩
  · obtain ⟨hx, a0, a1, ai, aj, hs1⟩ := hI
    rw [partOrdD_W]
    simp only [ai, aj, a0, a1]
    repeat (refine gO ?_; intros)
    by_cases h : x ≤ j
    · refine Cd.t (leZ_t h) ?_
      repeat (refine gO ?_; intros)
      refine Must.mk (ltN_t (by omega)) (ldA hs1 (by omega) rfl ?_)
      repeat (refine gO ?_; intros)
      refine Must.mk (ltN_t (by omega)) (ldA hs1 (by omega) rfl ?_)
      repeat (refine gO ?_; intros)
      refine cmpLess_ok hc ?_
      repeat (refine gO ?_; intros)
      try rw [notB_not]
      by_cases hp : (fun x => ltU x d[a]!) d[x]! = true
      · refine Cd.t hp ?_
        repeat (refine gO ?_; intros)
        try rw [addInt]
        refine inR_nat (by omega) ?_
        repeat (refine gO ?_; intros)
        show ∃ y, _ ∧ _
        exact ⟨x + 1, by omega, (scanUp_go (p := (fun x => ltU x d[a]!)) h hp).symm.trans hx, a0, a1, rfl, aj, hs1⟩
      · have hp := Bool.eq_false_iff.2 hp
        refine Cd.f hp ?_
        show _ = _ ∧ _
        exact ⟨rfl, a0, a1, by rw [← hx, scanUp_stop (p := (fun x => ltU x d[a]!)) hp]; exact ai, aj, hs1⟩
    · refine Cd.f (leZ_f (by omega)) ?_
      show _ = _ ∧ _
      exact ⟨rfl, a0, a1, by rw [← hx, scanUp_over (by omega)]; exact ai, aj, hs1⟩
  · obtain ⟨a0, a1, ai, aj, hs1⟩ := hP
    exact k σ1 H1 a0 a1 ai aj hs1
theorem partOrdE_ok (hc : Con con lives) {R : List HP} {H : CH} {b e s a n i j : Nat} {d : Array Nat} {σ : TF} {Q : KX} (hs : Sat (RowA b e s d :: R) H) (hn : d.size = n) (hn2 : n ≤ 1000000) (ha : a < n) (hj : j < n) (hi : 0 < i)
    (e0 : σ 0 = slc b 0 n n) (e1 : σ 1 = iN a) (ei : σ 10 = iN i) (ej : σ 11 = iN j)
    (k : ∀ σ1 H1, σ1 0 = slc b 0 n n → σ1 1 = iN a → σ1 10 = iN i → σ1 11 = iN (Sort.scanDown (fun x => !ltU x d[a]!) d i j) → Sat (RowA b e s d :: R) H1 → Q (.exit 8) σ1 H1) :
    LoopC Tryz.prog con (lpAt Tryz.prog 126 4) σ H Q := by
  refine LoopC.indP (n := 200) (id := 8) (fun σ1 H1 => σ1 0 = slc b 0 n n ∧ σ1 1 = iN a ∧ σ1 10 = iN i ∧ σ1 11 = iN (Sort.scanDown (fun x => !ltU x d[a]!) d i j) ∧ Sat (RowA b e s d :: R) H1) (by kernel_rfl)
    (fun (x : Nat) σ1 H1 => x < n ∧ Sort.scanDown (fun x => !ltU x d[a]!) d i x = Sort.scanDown (fun x => !ltU x d[a]!) d i j ∧ σ1 0 = slc b 0 n n ∧ σ1 1 = iN a ∧ σ1 10 = iN i ∧ σ1 11 = iN x ∧ Sat (RowA b e s d :: R) H1)
    (fun x => x) (fun x σ1 H1 hI => ?_) (fun σ1 H1 hP => ?_) j _ _ ⟨hj, rfl, e0, e1, ei, ej, hs⟩
  · obtain ⟨hxn, hx, a0, a1, ai, aj, hs1⟩ := hI
    rw [partOrdE_W]
    simp only [ai, aj, a0, a1]
    repeat (refine gO ?_; intros)
    by_cases h : i ≤ x
    · refine Cd.t (leZ_t h) ?_
      repeat (refine gO ?_; intros)
      refine Must.mk (ltN_t (by omega)) (ldA hs1 (by omega) rfl ?_)
      repeat (refine gO ?_; intros)
      refine Must.mk (ltN_t (by omega)) (ldA hs1 (by omega) rfl ?_)
      repeat (refine gO ?_; intros)
      refine cmpLess_ok hc ?_
      repeat (refine gO ?_; intros)
      try rw [notB_not]
      by_cases hp : (fun x => !ltU x d[a]!) d[x]! = true
      · refine Cd.t hp ?_
        repeat (refine gO ?_; intros)
        rw [subInt (by omega)]
        refine inR_nat (by omega) ?_
        repeat (refine gO ?_; intros)
        show ∃ y, _ ∧ _
        exact ⟨x - 1, by omega, by omega, (scanDown_go (p := (fun x => !ltU x d[a]!)) (by omega) h hp).symm.trans hx, a0, a1, ai, rfl, hs1⟩
      · have hp := Bool.eq_false_iff.2 hp
        refine Cd.f hp ?_
        show _ = _ ∧ _
        exact ⟨rfl, a0, a1, ai, by rw [← hx, scanDown_stop (p := (fun x => !ltU x d[a]!)) hp]; exact aj, hs1⟩
    · refine Cd.f (leZ_f (by omega)) ?_
      show _ = _ ∧ _
      exact ⟨rfl, a0, a1, ai, by rw [← hx, scanDown_over (by omega)]; exact aj, hs1⟩
  · obtain ⟨a0, a1, ai, aj, hs1⟩ := hP
    exact k σ1 H1 a0 a1 ai aj hs1
theorem partEqLp (hc : Con con lives) {R : List HP} {H : CH} {b e s a n i j : Nat} {d : Array Nat} {σ : TF} {Q : KX} (hs : Sat (RowA b e s d :: R) H) (hn : d.size = n) (hn2 : n ≤ 1000000) (hai : a < i) (ha : a < n) (hj : j < n)
    (e0 : σ 0 = slc b 0 n n) (e1 : σ 1 = iN a) (ei : σ 9 = iN i) (ej : σ 10 = iN j)
    (k : ∀ σ1 H1, σ1 0 = slc b 0 n n → σ1 1 = iN a → σ1 9 = iN (Sort.partEqLoop ltU a i j d).1 → Sat (RowA b e s (Sort.partEqLoop ltU a i j d).2 :: R) H1 → Q (.exit 0) σ1 H1) :
    LoopC Tryz.prog con (lpAt Tryz.prog 125 0) σ H Q := by
  refine LoopC.indP (n := 200) (id := 0) (fun σ1 H1 => σ1 0 = slc b 0 n n ∧ σ1 1 = iN a ∧ σ1 9 = iN (Sort.partEqLoop ltU a i j d).1 ∧ Sat (RowA b e s (Sort.partEqLoop ltU a i j d).2 :: R) H1) (by kernel_rfl)
    (fun (x : Nat × Nat) σ1 H1 => a < x.1 ∧ x.2 < n ∧ σ1 0 = slc b 0 n n ∧ σ1 1 = iN a ∧ σ1 9 = iN x.1 ∧ σ1 10 = iN x.2 ∧ ∃ d1, d1.size = n ∧ Sort.partEqLoop ltU a x.1 x.2 d1 = Sort.partEqLoop ltU a i j d ∧ Sat (RowA b e s d1 :: R) H1)
    (fun x => x.2 + 1 - x.1) (fun x σ1 H1 hI => ?_) (fun σ1 H1 hP => ?_) (i, j) _ _ ⟨hai, hj, e0, e1, ei, ej, d, hn, rfl, hs⟩
  · obtain ⟨x, y⟩ := x
    obtain ⟨hax, hyn, a0, a1, ai, aj, d1, hd1, hl, hs1⟩ := hI
    have hax : a < x := hax
    have hyn : y < n := hyn
    rw [partEqA_W]
    have hq := Sort.partEqLoop_eq ltU a x y d1
    have g1 := Sort.scanUp_ge (fun x => !ltU d1[a]! x) d1 y x
    have g2 := Sort.scanDown_le (fun x => ltU d1[a]! x) d1 (Sort.scanUp (fun x => !ltU d1[a]! x) d1 y x) y
    refine partEqB_ok hc hs1 hd1 hn2 ha hyn a0 a1 ai aj fun σ2 H2 b0 b1 bi bj h2 => ?_
    show Cd _ _ _
    refine Cd.t rfl ?_
    have h0 : 0 < Sort.scanUp (fun x => !ltU d1[a]! x) d1 y x := Nat.lt_of_lt_of_le (by omega) g1
    refine partEqC_ok hc h2 hd1 hn2 ha hyn h0 b0 b1 bi bj fun σ3 H3 c0 c1 ci cj h3 => ?_
    show Cd _ _ _
    refine Cd.t rfl ?_
    clear h2 bi bj
    generalize Sort.scanUp (fun x => !ltU d1[a]! x) d1 y x = i2 at *
    generalize Sort.scanDown (fun x => ltU d1[a]! x) d1 i2 y = j2 at *
    simp only [ci, cj, c0, c1]
    repeat (refine gO ?_; intros)
    by_cases h : j2 < i2
    · rw [if_pos h] at hq
      refine Cd.t (ltZ_t h) ?_
      show _ = _ ∧ _
      exact ⟨rfl, c0, c1, by rw [← hl, hq]; exact ci, by rw [← hl, hq]; exact h3⟩
    · rw [if_neg h] at hq
      refine Cd.f (ltZ_f (by omega)) ?_
      repeat (refine gO ?_; intros)
      refine Must.mk (ltN_t (by omega)) (ldA h3 (by omega) rfl ?_)
      repeat (refine gO ?_; intros)
      refine Must.mk (ltN_t (by omega)) (ldA h3 (by omega) rfl ?_)
      repeat (refine gO ?_; intros)
      refine Must.mk (ltN_t (by omega)) ?_
      repeat (refine gO ?_; intros)
      refine st h3 (by rw [lenA, off1]; omega) rfl fun _ hx => ?_
      repeat (refine gO ?_; intros)
      refine Must.mk (ltN_t (by omega)) ?_
      repeat (refine gO ?_; intros)
      refine st hx (by rw [List.length_set, lenA, off1]; omega) rfl fun _ hy => ?_
      rw [off1, off1, swpA (by omega) (by omega)] at hy
      clear hx
      repeat (refine gO ?_; intros)
      try rw [addInt]
      refine inR_nat (by omega) ?_
      repeat (refine gO ?_; intros)
      rw [subInt (by omega)]
      refine inR_nat (by omega) ?_
      repeat (refine gO ?_; intros)
      show ∃ y, _ ∧ _
      exact ⟨(i2 + 1, j2 - 1), by show j2 - 1 + 1 - (i2 + 1) < y + 1 - x; omega, by show a < i2 + 1; omega, by show j2 - 1 < n; omega, c0, c1, rfl, rfl, _, by rw [Sort.size_swp]; exact hd1, by rw [← hl, hq], hy⟩
  · obtain ⟨a0, a1, ai, hs1⟩ := hP
    exact k σ1 H1 a0 a1 ai hs1
theorem partOrdLp (hc : Con con lives) {R : List HP} {H : CH} {b e s a n i j : Nat} {d : Array Nat} {σ : TF} {Q : KX} (hs : Sat (RowA b e s d :: R) H) (hn : d.size = n) (hn2 : n ≤ 1000000) (hai : a < i) (ha : a < n) (hj : j < n)
    (e0 : σ 0 = slc b 0 n n) (e1 : σ 1 = iN a) (ei : σ 10 = iN i) (ej : σ 11 = iN j)
    (k : ∀ σ1 H1, σ1 0 = slc b 0 n n → σ1 1 = iN a → σ1 11 = iN (Sort.partLoop ltU a i j d).1 → Sat (RowA b e s (Sort.partLoop ltU a i j d).2 :: R) H1 → Q (.exit 4) σ1 H1) :
    LoopC Tryz.prog con (lpAt Tryz.prog 126 2) σ H Q := by
  refine LoopC.indP (n := 200) (id := 4) (fun σ1 H1 => σ1 0 = slc b 0 n n ∧ σ1 1 = iN a ∧ σ1 11 = iN (Sort.partLoop ltU a i j d).1 ∧ Sat (RowA b e s (Sort.partLoop ltU a i j d).2 :: R) H1) (by kernel_rfl)
    (fun (x : Nat × Nat) σ1 H1 => a < x.1 ∧ x.2 < n ∧ σ1 0 = slc b 0 n n ∧ σ1 1 = iN a ∧ σ1 10 = iN x.1 ∧ σ1 11 = iN x.2 ∧ ∃ d1, d1.size = n ∧ Sort.partLoop ltU a x.1 x.2 d1 = Sort.partLoop ltU a i j d ∧ Sat (RowA b e s d1 :: R) H1)
    (fun x => x.2 + 1 - x.1) (fun x σ1 H1 hI => ?_) (fun σ1 H1 hP => ?_) (i, j) _ _ ⟨hai, hj, e0, e1, ei, ej, d, hn, rfl, hs⟩
  · obtain ⟨x, y⟩ := x
    obtain ⟨hax, hyn, a0, a1, ai, aj, d1, hd1, hl, hs1⟩ := hI
    have hax : a < x := hax
    have hyn : y < n := hyn
    rw [partOrdC_W]
    have hq := Sort.partLoop_eq ltU a x y d1
    have g1 := Sort.scanUp_ge (fun x => ltU x d1[a]!) d1 y x
    have g2 := Sort.scanDown_le (fun x => !ltU x d1[a]!) d1 (Sort.scanUp (fun x => ltU x d1[a]!) d1 y x) y
    refine partOrdD_ok hc hs1 hd1 hn2 ha hyn a0 a1 ai aj fun σ2 H2 b0 b1 bi bj h2 => ?_
    show Cd _ _ _
    refine Cd.t rfl ?_
    have h0 : 0 < Sort.scanUp (fun x => ltU x d1[a]!) d1 y x := Nat.lt_of_lt_of_le (by omega) g1
    refine partOrdE_ok hc h2 hd1 hn2 ha hyn h0 b0 b1 bi bj fun σ3 H3 c0 c1 ci cj h3 => ?_
    show Cd _ _ _
    refine Cd.t rfl ?_
    clear h2 bi bj
    generalize Sort.scanUp (fun x => ltU x d1[a]!) d1 y x = i2 at *
    generalize Sort.scanDown (fun x => !ltU x d1[a]!) d1 i2 y = j2 at *
    simp only [ci, cj, c0, c1]
    repeat (refine gO ?_; intros)
    by_cases h : j2 < i2
    · rw [if_pos h] at hq
      refine Cd.t (ltZ_t h) ?_
      show _ = _ ∧ _
      exact ⟨rfl, c0, c1, by rw [← hl, hq]; exact cj, by rw [← hl, hq]; exact h3⟩
    · rw [if_neg h] at hq
      refine Cd.f (ltZ_f (by omega)) ?_
      repeat (refine gO ?_; intros)
      refine Must.mk (ltN_t (by omega)) (ldA h3 (by omega) rfl ?_)
      repeat (refine gO ?_; intros)
      refine Must.mk (ltN_t (by omega)) (ldA h3 (by omega) rfl ?_)
      repeat (refine gO ?_; intros)
      refine Must.mk (ltN_t (by omega)) ?_
      repeat (refine gO ?_; intros)
      refine st h3 (by rw [lenA, off1]; omega) rfl fun _ hx => ?_
      repeat (refine gO ?_; intros)
      refine Must.mk (ltN_t (by omega)) ?_
      repeat (refine gO ?_; intros)
      refine st hx (by rw [List.length_set, lenA, off1]; omega) rfl fun _ hy => ?_
      rw [off1, off1, swpA (by omega) (by omega)] at hy
      clear hx
      repeat (refine gO ?_; intros)
      try rw [addInt]
      refine inR_nat (by omega) ?_
      repeat (refine gO ?_; intros)
      rw [subInt (by omega)]
      refine inR_nat (by omega) ?_
      repeat (refine gO ?_; intros)
      show ∃ y, _ ∧ _
      exact ⟨(i2 + 1, j2 - 1), by show j2 - 1 + 1 - (i2 + 1) < y + 1 - x; omega, by show a < i2 + 1; omega, by show j2 - 1 < n; omega, c0, c1, rfl, rfl, _, by rw [Sort.size_swp]; exact hd1, by rw [← hl, hq], hy⟩
  · obtain ⟨a0, a1, ai, hs1⟩ := hP
    exact k σ1 H1 a0 a1 ai hs1
theorem partEq_ok (hc : Con con lives) {L R : List HP} {H : CH} {b e s a z p n : Nat} {d : Array Nat} {K : KP} (hs : Sat L H) (hp : Pull L (RowA b e s d) R) (hn : d.size = n) (hn2 : n ≤ 1000000) (hab : a < z) (hz : z ≤ n) (hpp : p < n)
    (k : ∀ H1, Sat (RowA b e s (Sort.partitionEqual ltU d a z p).2 :: R) H1 → K (iN (Sort.partitionEqual ltU d a z p).1) H1) : Call1 Tryz.prog con 125 [slc b 0 n n, iN a, iN z, iN p] H K := by
  refine call_of (hc _ _ _ rfl) ?_
  rw [partEq_W]
  have hs0 := hs.pull hp
  clear hs hp
  repeat (refine gO ?_; intros)
  refine Must.mk (ltN_t (by omega)) (ldA hs0 (by omega) rfl ?_)
  repeat (refine gO ?_; intros)
  refine Must.mk (ltN_t (by omega)) (ldA hs0 (by omega) rfl ?_)
  repeat (refine gO ?_; intros)
  refine Must.mk (ltN_t (by omega)) ?_
  repeat (refine gO ?_; intros)
  refine st hs0 (by rw [lenA, off1]; omega) rfl fun _ hx => ?_
  repeat (refine gO ?_; intros)
  refine Must.mk (ltN_t (by omega)) ?_
  repeat (refine gO ?_; intros)
  refine st hx (by rw [List.length_set, lenA, off1]; omega) rfl fun _ hy => ?_
  rw [off1, off1, swpA (by omega) (by omega)] at hy
  clear hx
  repeat (refine gO ?_; intros)
  try rw [addInt]
  refine inR_nat (by omega) ?_
  repeat (refine gO ?_; intros)
  rw [subInt (by omega)]
  refine inR_nat (by omega) ?_
  repeat (refine gO ?_; intros)
  refine partEqLp (a := a) hc hy (by rw [Sort.size_swp]; exact hn) hn2 (by omega) (by omega) (by omega) rfl rfl rfl rfl fun σ1 H1 a0 a1 ai h1 => ?_
  show Cd _ _ _
  refine Cd.t rfl ?_
  rw [ai]
  exact k _ h1
theorem partOrd_ok (hc : Con con lives) {L R : List HP} {H : CH} {b e s a z p n : Nat} {d : Array Nat} {K : KP} (hs : Sat L H) (hp : Pull L (RowA b e s d) R) (hn : d.size = n) (hn2 : n ≤ 1000000) (hap : a ≤ p) (hpz : p < z) (hz : z ≤ n)
    (k : ∀ H1, Sat (RowA b e s (Sort.partition ltU d a z p).2.2 :: R) H1 → K (.tuple ⟨[iN (Sort.partition ltU d a z p).1, .bool (Sort.partition ltU d a z p).2.1]⟩) H1) : Call1 Tryz.prog con 126 [slc b 0 n n, iN a, iN z, iN p] H K := by
  refine call_of (hc _ _ _ rfl) ?_
  rw [partOrd_W]
  have hs0 := hs.pull hp
  clear hs hp
  repeat (refine gO ?_; intros)
  refine Must.mk (ltN_t (by omega)) (ldA hs0 (by omega) rfl ?_)
  repeat (refine gO ?_; intros)
  refine Must.mk (ltN_t (by omega)) (ldA hs0 (by omega) rfl ?_)
  repeat (refine gO ?_; intros)
  refine Must.mk (ltN_t (by omega)) ?_
  repeat (refine gO ?_; intros)
  refine st hs0 (by rw [lenA, off1]; omega) rfl fun _ hx => ?_
  repeat (refine gO ?_; intros)
  refine Must.mk (ltN_t (by omega)) ?_
  repeat (refine gO ?_; intros)
  refine st hx (by rw [List.length_set, lenA, off1]; omega) rfl fun _ hy => ?_
  rw [off1, off1, swpA (by omega) (by omega)] at hy
  clear hx
  repeat (refine gO ?_; intros)
  try rw [addInt]
  refine inR_nat (by omega) ?_
  repeat (refine gO ?_; intros)
  rw [subInt (by omega)]
  refine inR_nat (by omega) ?_
  repeat (refine gO ?_; intros)
  have hd1 : (Sort.swp d a p).size = n := by rw [Sort.size_swp]; exact hn
  unfold Sort.partition at k
  simp only [] at k
  clear hs0
  generalize Sort.swp d a p = d1 at *
  have g1 := Sort.scanUp_ge (fun x => ltU x d1[a]!) d1 (z - 1) (a + 1)
  have g2 := Sort.scanDown_le (fun x => !ltU x d1[a]!) d1 (Sort.scanUp (fun x => ltU x d1[a]!) d1 (z - 1) (a + 1)) (z - 1)
  refine partOrdA_ok (a := a) hc hy hd1 hn2 (by omega) (by omega) rfl rfl rfl rfl fun σ2 H2 b0 b1 bi bj h2 => ?_
  show Cd _ _ _
  refine Cd.t rfl ?_
  refine partOrdB_ok hc h2 hd1 hn2 (by omega) (by omega) (by omega) b0 b1 bi bj fun σ3 H3 c0 c1 ci cj h3 => ?_
  show Cd _ _ _
  refine Cd.t rfl ?_
  clear h2 bi bj hy
  have hj2 : Sort.scanUp (fun x => ltU x d1[a]!) d1 (z - 1) (a + 1) ≤ z := by
    have := (Sort.scanUp_spec (fun x => ltU x d1[a]!) d1 (z - 1) _ (a + 1) rfl).2.1 (by omega)
    omega
  generalize Sort.scanUp (fun x => ltU x d1[a]!) d1 (z - 1) (a + 1) = i2 at *
  generalize Sort.scanDown (fun x => !ltU x d1[a]!) d1 i2 (z - 1) = j2 at *
  simp only [ci, cj, c0, c1]
  repeat (refine gO ?_; intros)
  by_cases h : j2 < i2
  · rw [if_pos (show i2 > j2 from h)] at k
    refine Cd.t (ltZ_t h) ?_
    repeat (refine gO ?_; intros)
    refine Must.mk (ltN_t (by omega)) (ldA h3 (by omega) rfl ?_)
    repeat (refine gO ?_; intros)
    refine Must.mk (ltN_t (by omega)) (ldA h3 (by omega) rfl ?_)
    repeat (refine gO ?_; intros)
    refine Must.mk (ltN_t (by omega)) ?_
    repeat (refine gO ?_; intros)
    refine st h3 (by rw [lenA, off1]; omega) rfl fun _ hx => ?_
    repeat (refine gO ?_; intros)
    refine Must.mk (ltN_t (by omega)) ?_
    repeat (refine gO ?_; intros)
    refine st hx (by rw [List.length_set, lenA, off1]; omega) rfl fun _ hy => ?_
    rw [off1, off1, swpA (by omega) (by omega)] at hy
    clear hx
    repeat (refine gO ?_; intros)
    exact k _ hy
  · rw [if_neg (show ¬ i2 > j2 from h)] at k
    refine Cd.f (ltZ_f (by omega)) ?_
    repeat (refine gO ?_; intros)
    refine Must.mk (ltN_t (by omega)) (ldA h3 (by omega) rfl ?_)
    repeat (refine gO ?_; intros)
    refine Must.mk (ltN_t (by omega)) (ldA h3 (by omega) rfl ?_)
    repeat (refine gO ?_; intros)
    refine Must.mk (ltN_t (by omega)) ?_
    repeat (refine gO ?_; intros)
    refine st h3 (by rw [lenA, off1]; omega) rfl fun _ hx => ?_
    repeat (refine gO ?_; intros)
    refine Must.mk (ltN_t (by omega)) ?_
    repeat (refine gO ?_; intros)
    refine st hx (by rw [List.length_set, lenA, off1]; omega) rfl fun _ hy => ?_
    rw [off1, off1, swpA (by omega) (by omega)] at hy
    clear hx
    repeat (refine gO ?_; intros)
    try rw [addInt]
    refine inR_nat (by omega) ?_
    repeat (refine gO ?_; intros)
    rw [subInt (by omega)]
    refine inR_nat (by omega) ?_
    repeat (refine gO ?_; intros)
    have hd2 : (Sort.swp d1 i2 j2).size = n := by rw [Sort.size_swp]; exact hd1
    refine partOrdLp (a := a) (i := i2 + 1) (j := j2 - 1) hc hy hd2 hn2 (by omega) (by omega) (by omega) c0 c1 rfl rfl fun σ4 H4 q0 q1 qj h4 => ?_
    show Cd _ _ _
    refine Cd.t rfl ?_
    obtain ⟨hr1, hr2⟩ := partLoop_facts a _ (i2 + 1) (j2 - 1) (Sort.swp d1 i2 j2) (Nat.le_refl _)
    rw [hd2] at hr2
    simp only [q0, q1, qj]
    repeat (refine gO ?_; intros)
    refine Must.mk (ltN_t (by omega)) (ldA h4 (by omega) rfl ?_)
    repeat (refine gO ?_; intros)
    refine Must.mk (ltN_t (by omega)) (ldA h4 (by omega) rfl ?_)
    repeat (refine gO ?_; intros)
    refine Must.mk (ltN_t (by omega)) ?_
    repeat (refine gO ?_; intros)
    refine st h4 (by rw [lenA, off1]; omega) rfl fun _ hx => ?_
    repeat (refine gO ?_; intros)
    refine Must.mk (ltN_t (by omega)) ?_
    repeat (refine gO ?_; intros)
    refine st hx (by rw [List.length_set, lenA, off1]; omega) rfl fun _ hy => ?_
    rw [off1, off1, swpA (by omega) (by omega)] at hy
    clear hx
    repeat (refine gO ?_; intros)
    exact k _ hy
end Go.Proofs.YtocphcgcpjcfjaaGreat

set_option linter.unusedVariables false
set_option linter.unusedSimpArgs false
namespace Go.Proofs.YtocphcgcpjcfjaaGreat
open Go Go.CM
attribute [local irreducible] AsBool AsWant AsNat AsInt AsCnt AsPtr AsSlc AsLen AsStr AsAgg AsTup AsFn AsIfc Nth Sc NotNil IsNil Must Cd codeW funW Sat SatL wrapN subM mkRow ltZ leZ ltN leN
variable {con : CallT}
abbrev KeepP (σ1 : TF) (b n a z c : Nat) : Prop := σ1 0 = slc b 0 n n ∧ σ1 1 = iN a ∧ σ1 2 = iN z ∧ σ1 8 = iN c
theorem scanSorted_at {d : Array Nat} {z x : Nat} : Sort.scanSorted ltU d z x = if (decide (x < z) && !ltU d[x]! d[x - 1]!) = true then Sort.scanSorted ltU d z (x + 1) else x := by rw [Sort.scanSorted]
theorem partInsB_ok (hc : Con con lives) {R : List HP} {H : CH} {b e s a z n i c : Nat} {d : Array Nat} {σ : TF} {Q : KX} (hs : Sat (RowA b e s d :: R) H) (hn : d.size = n) (hn2 : n ≤ 1000000) (hz : z ≤ n) (hi : 0 < i) (hiz : i ≤ z)
    (e0 : σ 0 = slc b 0 n n) (e1 : σ 1 = iN a) (e2 : σ 2 = iN z) (e8 : σ 8 = iN c) (ei : σ 7 = iN i)
    (k : ∀ σ1 H1 y, Sort.scanSorted ltU d z i = y → i ≤ y → y ≤ z → σ1 0 = slc b 0 n n → σ1 1 = iN a → σ1 2 = iN z → σ1 8 = iN c → σ1 7 = iN y → Sat (RowA b e s d :: R) H1 → Q (.exit 2) σ1 H1) :
    LoopC Tryz.prog con (lpAt Tryz.prog 123 1) σ H Q := by
  refine LoopC.indP (n := 200) (id := 2) (fun σ1 H1 => ∃ y, Sort.scanSorted ltU d z i = y ∧ i ≤ y ∧ y ≤ z ∧ KeepP σ1 b n a z c ∧ σ1 7 = iN y ∧ Sat (RowA b e s d :: R) H1) (by kernel_rfl)
    (fun (x : Nat) σ1 H1 => Sort.scanSorted ltU d z i = Sort.scanSorted ltU d z x ∧ i ≤ x ∧ x ≤ z ∧ KeepP σ1 b n a z c ∧ σ1 7 = iN x ∧ Sat (RowA b e s d :: R) H1)
    (fun x => z - x) (fun x σ1 H1 hI => ?_) (fun σ1 H1 hP => ?_) i _ _ ⟨rfl, Nat.le_refl _, hiz, ⟨e0, e1, e2, e8⟩, ei, hs⟩
  · obtain ⟨hx, hix, hxz, ⟨a0, a1, a2, a8⟩, a7, hs1⟩ := hI
    rw [partInsB_W]
    simp only [a7, a2, a0, a1]
    repeat (refine gO ?_; intros)
    by_cases h : x < z
    · refine Cd.t (ltZ_t h) ?_
      repeat (refine gO ?_; intros)
      refine Must.mk (ltN_t (by omega)) (ldA hs1 (by omega) rfl ?_)
      repeat (refine gO ?_; intros)
      rw [subInt (by omega)]
      refine inR_nat (by omega) ?_
      repeat (refine gO ?_; intros)
      refine Must.mk (ltN_t (by omega)) (ldA hs1 (by omega) rfl ?_)
      repeat (refine gO ?_; intros)
      refine cmpLess_ok hc ?_
      repeat (refine gO ?_; intros)
      rw [notB_not]
      rw [scanSorted_at (x := x), decide_eq_true h, Bool.true_and] at hx
      by_cases hp : (!ltU d[x]! d[x - 1]!) = true
      · rw [if_pos hp] at hx
        refine Cd.t hp ?_
        repeat (refine gO ?_; intros)
        try rw [addInt]
        refine inR_nat (by omega) ?_
        repeat (refine gO ?_; intros)
        show ∃ y, _ ∧ _
        exact ⟨x + 1, by omega, hx, by omega, by omega, ⟨a0, a1, a2, a8⟩, rfl, hs1⟩
      · rw [if_neg hp] at hx
        have hp := Bool.eq_false_iff.2 hp
        refine Cd.f hp ?_
        show _ = _ ∧ _
        exact ⟨rfl, x, hx, hix, hxz, ⟨a0, a1, a2, a8⟩, a7, hs1⟩
    · refine Cd.f (ltZ_f (by omega)) ?_
      show _ = _ ∧ _
      rw [scanSorted_at (x := x), decide_eq_false h, Bool.false_and, if_neg Bool.false_ne_true] at hx
      exact ⟨rfl, x, hx, hix, hxz, ⟨a0, a1, a2, a8⟩, a7, hs1⟩
  · obtain ⟨y, h1, h2, h3, ⟨a0, a1, a2, a8⟩, a7, hs1⟩ := hP
    exact k σ1 H1 y h1 h2 h3 a0 a1 a2 a8 a7 hs1
theorem shiftDown_at {x : Nat} {d : Array Nat} (h : 0 < x) : Sort.shiftDown ltU x d = if !ltU d[x]! d[x - 1]! then d else Sort.shiftDown ltU (x - 1) (Sort.swp d x (x - 1)) := by
  obtain ⟨x, rfl⟩ : ∃ m, x = m + 1 := ⟨x - 1, by omega⟩
  rfl
theorem shiftUp_at {x z : Nat} {d : Array Nat} (h : x < z) : Sort.shiftUp ltU z x d = if !ltU d[x]! d[x - 1]! then d else Sort.shiftUp ltU z (x + 1) (Sort.swp d x (x - 1)) := by
  rw [Sort.shiftUp, if_pos h]
theorem partInsC_ok (hc : Con con lives) {R : List HP} {H : CH} {b e s a z n i c j : Nat} {d : Array Nat} {σ : TF} {Q : KX} (hs : Sat (RowA b e s d :: R) H) (hn : d.size = n) (hn2 : n ≤ 1000000) (hz : z ≤ n) (hj : j < n)
    (e0 : σ 0 = slc b 0 n n) (e1 : σ 1 = iN a) (e2 : σ 2 = iN z) (e8 : σ 8 = iN c) (e7 : σ 7 = iN i) (ej : σ 9 = iN j)
    (k : ∀ σ1 H1 d', Sort.shiftDown ltU j d = d' → d'.size = n → σ1 0 = slc b 0 n n → σ1 1 = iN a → σ1 2 = iN z → σ1 8 = iN c → σ1 7 = iN i → Sat (RowA b e s d' :: R) H1 → Q (.exit 4) σ1 H1) :
    LoopC Tryz.prog con (lpAt Tryz.prog 123 2) σ H Q := by
  refine LoopC.indP (n := 200) (id := 4) (fun σ1 H1 => ∃ d', Sort.shiftDown ltU j d = d' ∧ d'.size = n ∧ KeepP σ1 b n a z c ∧ σ1 7 = iN i ∧ Sat (RowA b e s d' :: R) H1) (by kernel_rfl)
    (fun (x : Nat) σ1 H1 => x < n ∧ KeepP σ1 b n a z c ∧ σ1 7 = iN i ∧ σ1 9 = iN x ∧ ∃ d', d'.size = n ∧ Sort.shiftDown ltU j d = Sort.shiftDown ltU x d' ∧ Sat (RowA b e s d' :: R) H1)
    (fun x => x) (fun x σ1 H1 hI => ?_) (fun σ1 H1 hP => ?_) j _ _ ⟨hj, ⟨e0, e1, e2, e8⟩, e7, ej, d, hn, rfl, hs⟩
  · obtain ⟨hx, ⟨a0, a1, a2, a8⟩, a7, aj, d1, hd1, hq, hs1⟩ := hI
    rw [partInsC_W]
    simp only [aj, a2, a0, a1]
    repeat (refine gO ?_; intros)
    by_cases h : 1 ≤ x
    · refine Cd.t (leZ_t h) ?_
      repeat (refine gO ?_; intros)
      refine Must.mk (ltN_t (by omega)) (ldA hs1 (by omega) rfl ?_)
      repeat (refine gO ?_; intros)
      rw [subInt (by omega)]
      refine inR_nat (by omega) ?_
      repeat (refine gO ?_; intros)
      refine Must.mk (ltN_t (by omega)) (ldA hs1 (by omega) rfl ?_)
      repeat (refine gO ?_; intros)
      refine cmpLess_ok hc ?_
      repeat (refine gO ?_; intros)
      rw [notB_not]
      rw [shiftDown_at h] at hq
      by_cases hp : (!ltU d1[x]! d1[x - 1]!) = true
      · rw [if_pos hp] at hq
        refine Cd.t hp ?_
        show _ = _ ∧ _
        exact ⟨rfl, d1, hq, hd1, ⟨a0, a1, a2, a8⟩, a7, hs1⟩
      · rw [if_neg hp] at hq
        have hp := Bool.eq_false_iff.2 hp
        refine Cd.f hp ?_
        repeat (refine gO ?_; intros)
        rw [subInt (by omega)]
        refine inR_nat (by omega) ?_
        repeat (refine gO ?_; intros)
        rw [subInt (by omega)]
        refine inR_nat (by omega) ?_
        repeat (refine gO ?_; intros)
        refine Must.mk (ltN_t (by omega)) (ldA hs1 (by omega) rfl ?_)
        repeat (refine gO ?_; intros)
        refine Must.mk (ltN_t (by omega)) (ldA hs1 (by omega) rfl ?_)
        repeat (refine gO ?_; intros)
        refine Must.mk (ltN_t (by omega)) ?_
        repeat (refine gO ?_; intros)
        refine st hs1 (by rw [lenA, off1]; omega) rfl fun _ hx => ?_
        repeat (refine gO ?_; intros)
        refine Must.mk (ltN_t (by omega)) ?_
        repeat (refine gO ?_; intros)
        refine st hx (by rw [List.length_set, lenA, off1]; omega) rfl fun _ hy => ?_
        rw [off1, off1, swpA (by omega) (by omega)] at hy
        clear hx
        repeat (refine gO ?_; intros)
        rw [subInt (by omega)]
        refine inR_nat (by omega) ?_
        repeat (refine gO ?_; intros)
        show ∃ y, _ ∧ _
        exact ⟨x - 1, by omega, by omega, ⟨a0, a1, a2, a8⟩, a7, rfl, _, by rw [Sort.size_swp]; exact hd1, hq, hy⟩
    · refine Cd.f (leZ_f (by omega)) ?_
      show _ = _ ∧ _
      refine ⟨rfl, d1, hq.trans ?_, hd1, ⟨a0, a1, a2, a8⟩, a7, hs1⟩
      obtain rfl : x = 0 := by omega
      rfl
  · obtain ⟨d', h1, h2, ⟨a0, a1, a2, a8⟩, a7, hs1⟩ := hP
    exact k σ1 H1 d' h1 h2 a0 a1 a2 a8 a7 hs1
theorem partInsD_ok (hc : Con con lives) {R : List HP} {H : CH} {b e s a z n i c j : Nat} {d : Array Nat} {σ : TF} {Q : KX} (hs : Sat (RowA b e s d :: R) H) (hn : d.size = n) (hn2 : n ≤ 1000000) (hz : z ≤ n) (hj : 0 < j)
    (e0 : σ 0 = slc b 0 n n) (e1 : σ 1 = iN a) (e2 : σ 2 = iN z) (e8 : σ 8 = iN c) (e7 : σ 7 = iN i) (ej : σ 10 = iN j)
    (k : ∀ σ1 H1 d', Sort.shiftUp ltU z j d = d' → d'.size = n → σ1 0 = slc b 0 n n → σ1 1 = iN a → σ1 2 = iN z → σ1 8 = iN c → σ1 7 = iN i → Sat (RowA b e s d' :: R) H1 → Q (.exit 6) σ1 H1) :
    LoopC Tryz.prog con (lpAt Tryz.prog 123 3) σ H Q := by
  refine LoopC.indP (n := 200) (id := 6) (fun σ1 H1 => ∃ d', Sort.shiftUp ltU z j d = d' ∧ d'.size = n ∧ KeepP σ1 b n a z c ∧ σ1 7 = iN i ∧ Sat (RowA b e s d' :: R) H1) (by kernel_rfl)
    (fun (x : Nat) σ1 H1 => 0 < x ∧ KeepP σ1 b n a z c ∧ σ1 7 = iN i ∧ σ1 10 = iN x ∧ ∃ d', d'.size = n ∧ Sort.shiftUp ltU z j d = Sort.shiftUp ltU z x d' ∧ Sat (RowA b e s d' :: R) H1)
    (fun x => z - x) (fun x σ1 H1 hI => ?_) (fun σ1 H1 hP => ?_) j _ _ ⟨hj, ⟨e0, e1, e2, e8⟩, e7, ej, d, hn, rfl, hs⟩
  · obtain ⟨hx, ⟨a0, a1, a2, a8⟩, a7, aj, d1, hd1, hq, hs1⟩ := hI
    rw [partInsD_W]
    simp only [aj, a2, a0, a1]
    repeat (refine gO ?_; intros)
    by_cases h : x < z
    · refine Cd.t (ltZ_t h) ?_
      repeat (refine gO ?_; intros)
      refine Must.mk (ltN_t (by omega)) (ldA hs1 (by omega) rfl ?_)
      repeat (refine gO ?_; intros)
      rw [subInt (by omega)]
      refine inR_nat (by omega) ?_
      repeat (refine gO ?_; intros)
      refine Must.mk (ltN_t (by omega)) (ldA hs1 (by omega) rfl ?_)
      repeat (refine gO ?_; intros)
      refine cmpLess_ok hc ?_
      repeat (refine gO ?_; intros)
      rw [notB_not]
      rw [shiftUp_at h] at hq
      by_cases hp : (!ltU d1[x]! d1[x - 1]!) = true
      · rw [if_pos hp] at hq
        refine Cd.t hp ?_
        show _ = _ ∧ _
        exact ⟨rfl, d1, hq, hd1, ⟨a0, a1, a2, a8⟩, a7, hs1⟩
      · rw [if_neg hp] at hq
        have hp := Bool.eq_false_iff.2 hp
        refine Cd.f hp ?_
        repeat (refine gO ?_; intros)
        rw [subInt (by omega)]
        refine inR_nat (by omega) ?_
        repeat (refine gO ?_; intros)
        rw [subInt (by omega)]
        refine inR_nat (by omega) ?_
        repeat (refine gO ?_; intros)
        refine Must.mk (ltN_t (by omega)) (ldA hs1 (by omega) rfl ?_)
        repeat (refine gO ?_; intros)
        refine Must.mk (ltN_t (by omega)) (ldA hs1 (by omega) rfl ?_)
        repeat (refine gO ?_; intros)
        refine Must.mk (ltN_t (by omega)) ?_
        repeat (refine gO ?_; intros)
        refine st hs1 (by rw [lenA, off1]; omega) rfl fun _ hx => ?_
        repeat (refine gO ?_; intros)
        refine Must.mk (ltN_t (by omega)) ?_
        repeat (refine gO ?_; intros)
        refine st hx (by rw [List.length_set, lenA, off1]; omega) rfl fun _ hy => ?_
        rw [off1, off1, swpA (by omega) (by omega)] at hy
        clear hx
        repeat (refine gO ?_; intros)
        try rw [addInt]
        refine inR_nat (by omega) ?_
        repeat (refine gO ?_; intros)
        show ∃ y, _ ∧ _
        exact ⟨x + 1, by omega, by omega, ⟨a0, a1, a2, a8⟩, a7, rfl, _, by rw [Sort.size_swp]; exact hd1, hq, hy⟩
    · refine Cd.f (ltZ_f (by omega)) ?_
      show _ = _ ∧ _
      refine ⟨rfl, d1, hq.trans ?_, hd1, ⟨a0, a1, a2, a8⟩, a7, hs1⟩
      rw [Sort.shiftUp, if_neg h]
  · obtain ⟨d', h1, h2, ⟨a0, a1, a2, a8⟩, a7, hs1⟩ := hP
    exact k σ1 H1 d' h1 h2 a0 a1 a2 a8 a7 hs1
theorem partIns_ok (hc : Con con lives) {L R : List HP} {H : CH} {b e s a z n : Nat} {d : Array Nat} {K : KP} (hs : Sat L H) (hp : Pull L (RowA b e s d) R) (hn : d.size = n) (hn2 : n ≤ 1000000) (hab : a < z) (hz : z ≤ n)
    (k : ∀ H1, Sat (RowA b e s (Sort.partialInsertionSort ltU d a z).1 :: R) H1 → K (.bool (Sort.partialInsertionSort ltU d a z).2) H1) : Call1 Tryz.prog con 123 [slc b 0 n n, iN a, iN z] H K := by
  refine call_of (hc _ _ _ rfl) ?_
  rw [partIns_W]
  have hs0 := hs.pull hp
  clear hs hp
  try rw [addInt]
  refine inR_nat (by omega) ?_
  repeat (refine gO ?_; intros)
  have hq : Sort.partialInsertionSort ltU d a z = Sort.partialIns ltU a z 5 (a + 1) d := rfl
  generalize Sort.partialInsertionSort ltU d a z = q at *
  refine LoopC.indP (n := 200) (id := 0) (fun σ1 H1 => q.2 = false ∧ Sat (RowA b e s q.1 :: R) H1) (by kernel_rfl)
    (fun (c : Nat) σ1 H1 => c ≤ 5 ∧ σ1 0 = slc b 0 n n ∧ σ1 1 = iN a ∧ σ1 2 = iN z ∧ σ1 8 = iN (5 - c) ∧ ∃ i d1, σ1 7 = iN i ∧ a < i ∧ i ≤ z ∧ d1.size = n ∧ q = Sort.partialIns ltU a z c i d1 ∧ Sat (RowA b e s d1 :: R) H1)
    (fun c => c) (fun c σ1 H1 hI => ?_) (fun σ1 H1 hP => ?_) 5 _ _ ⟨by omega, rfl, rfl, rfl, rfl, a + 1, d, rfl, by omega, by omega, hn, hq, hs0⟩
  · obtain ⟨hc5, a0, a1, a2, a8, i, d1, a7, hai, hiz, hd1, hqc, hs1⟩ := hI
    rw [partInsA_W]
    simp only [a8]
    repeat (refine gO ?_; intros)
    cases c with
    | zero =>
      refine Cd.f (ltZ_f (by omega)) ?_
      show _ = _ ∧ _
      exact ⟨rfl, by rw [hqc]; rfl, by rw [hqc]; exact hs1⟩
    | succ c =>
      refine Cd.t (ltZ_t (by omega)) ?_
      rw [Sort.partialIns_succ] at hqc
      refine partInsB_ok (a := a) hc hs1 hd1 hn2 hz (by omega) hiz a0 a1 a2 a8 a7 fun σ2 H2 y hy1 hy2 hy3 b0 b1 b2 b8 b7 h2 => ?_
      rw [hy1] at hqc
      show Cd _ _ _
      refine Cd.t rfl ?_
      simp only [b7, b2, b0, b1, b8]
      repeat (refine gO ?_; intros)
      by_cases h : y = z
      · rw [if_pos h] at hqc
        refine Cd.t (eqZ_t h) ?_
        show K _ _
        have e : Value.bool true = Value.bool q.2 := by rw [hqc]
        refine e ▸ k _ ?_
        rw [hqc]
        exact h2
      · rw [if_neg h] at hqc
        refine Cd.f (eqZ_f h) ?_
        repeat (refine gO ?_; intros)
        rw [subInt (by omega)]
        refine inR_nat (by omega) ?_
        repeat (refine gO ?_; intros)
        refine Cd.of (fun h50 => ?_) (fun h50 => ?_)
        · rw [if_pos (ltZ_e h50)] at hqc
          show K _ _
          have e : Value.bool false = Value.bool q.2 := by rw [hqc]
          refine e ▸ k _ ?_
          rw [hqc]
          exact h2
        · rw [if_neg (Nat.not_lt.2 (ltZ_n h50))] at hqc
          repeat (refine gO ?_; intros)
          rw [subInt (by omega)]
          refine inR_nat (by omega) ?_
          repeat (refine gO ?_; intros)
          rw [subInt (by omega)]
          refine inR_nat (by omega) ?_
          repeat (refine gO ?_; intros)
          refine Must.mk (ltN_t (by omega)) (ldA h2 (by omega) rfl ?_)
          repeat (refine gO ?_; intros)
          refine Must.mk (ltN_t (by omega)) (ldA h2 (by omega) rfl ?_)
          repeat (refine gO ?_; intros)
          refine Must.mk (ltN_t (by omega)) ?_
          repeat (refine gO ?_; intros)
          refine st h2 (by rw [lenA, off1]; omega) rfl fun _ hx => ?_
          repeat (refine gO ?_; intros)
          refine Must.mk (ltN_t (by omega)) ?_
          repeat (refine gO ?_; intros)
          refine st hx (by rw [List.length_set, lenA, off1]; omega) rfl fun _ hy => ?_
          rw [off1, off1, swpA (by omega) (by omega)] at hy
          clear hx
          repeat (refine gO ?_; intros)
          rw [subInt (by omega)]
          refine inR_nat (by omega) ?_
          repeat (refine gO ?_; intros)
          have hd2 : (Sort.swp d1 y (y - 1)).size = n := by rw [Sort.size_swp]; exact hd1
          clear h2 hs1
          generalize Sort.swp d1 y (y - 1) = d2 at *
          unfold Sort.fixDown at hqc
          refine Cd.of (fun h3 => ?_) (fun h3 => ?_)
          · rw [if_pos (leZ_e h3)] at hqc
            repeat (refine gO ?_; intros)
            rw [subInt (by omega)]
            refine inR_nat (by omega) ?_
            repeat (refine gO ?_; intros)
            refine partInsC_ok (a := a) hc hy hd2 hn2 hz (by omega) b0 b1 b2 b8 b7 rfl fun σ3 H3 d3 hs3 hd3 c0 c1 c2 c8 c7 h3 => ?_
            rw [hs3] at hqc
            show Cd _ _ _
            refine Cd.t rfl ?_
            simp only [c2, c7, c8]
            repeat (refine gO ?_; intros)
            rw [subInt (by omega)]
            refine inR_nat (by omega) ?_
            repeat (refine gO ?_; intros)
            unfold Sort.fixUp at hqc
            refine Cd.of (fun h4 => ?_) (fun h4 => ?_)
            · rw [if_pos (leZ_e h4)] at hqc
              repeat (refine gO ?_; intros)
              try rw [addInt]
              refine inR_nat (by omega) ?_
              repeat (refine gO ?_; intros)
              refine partInsD_ok (a := a) hc h3 hd3 hn2 hz (by omega) c0 c1 c2 c8 c7 rfl fun σ4 H4 d4 hs4 hd4 q0 q1 q2 q8 q7 h4 => ?_
              show Cd _ _ _
              refine Cd.t rfl ?_
              simp only [q8]
              repeat (refine gO ?_; intros)
              try rw [addInt]
              refine inR_nat (by omega) ?_
              repeat (refine gO ?_; intros)
              show ∃ y, _ ∧ _
              exact ⟨c, by omega, by omega, q0, q1, q2, by rw [show 5 - c = 5 - (c + 1) + 1 from by omega]; rfl, y, d4, q7, by omega, hy3, hd4, by rw [hqc, hs4], h4⟩
            · rw [if_neg (Nat.not_le.2 (leZ_n h4))] at hqc
              repeat (refine gO ?_; intros)
              try rw [addInt]
              refine inR_nat (by omega) ?_
              repeat (refine gO ?_; intros)
              show ∃ y, _ ∧ _
              exact ⟨c, by omega, by omega, c0, c1, c2, by rw [show 5 - c = 5 - (c + 1) + 1 from by omega]; rfl, y, _, c7, by omega, hy3, hd3, hqc, h3⟩
          · rw [if_neg (Nat.not_le.2 (leZ_n h3))] at hqc
            repeat (refine gO ?_; intros)
            rw [subInt (by omega)]
            refine inR_nat (by omega) ?_
            repeat (refine gO ?_; intros)
            unfold Sort.fixUp at hqc
            refine Cd.of (fun h4 => ?_) (fun h4 => ?_)
            · rw [if_pos (leZ_e h4)] at hqc
              repeat (refine gO ?_; intros)
              try rw [addInt]
              refine inR_nat (by omega) ?_
              repeat (refine gO ?_; intros)
              refine partInsD_ok (a := a) hc hy hd2 hn2 hz (by omega) b0 b1 b2 b8 b7 rfl fun σ4 H4 d4 hs4 hd4 q0 q1 q2 q8 q7 h4 => ?_
              show Cd _ _ _
              refine Cd.t rfl ?_
              simp only [q8]
              repeat (refine gO ?_; intros)
              try rw [addInt]
              refine inR_nat (by omega) ?_
              repeat (refine gO ?_; intros)
              show ∃ y, _ ∧ _
              exact ⟨c, by omega, by omega, q0, q1, q2, by rw [show 5 - c = 5 - (c + 1) + 1 from by omega]; rfl, y, d4, q7, by omega, hy3, hd4, by rw [hqc, hs4], h4⟩
            · rw [if_neg (Nat.not_le.2 (leZ_n h4))] at hqc
              repeat (refine gO ?_; intros)
              try rw [addInt]
              refine inR_nat (by omega) ?_
              repeat (refine gO ?_; intros)
              show ∃ y, _ ∧ _
              exact ⟨c, by omega, by omega, b0, b1, b2, by rw [show 5 - c = 5 - (c + 1) + 1 from by omega]; rfl, y, _, b7, by omega, hy3, hd2, hqc, hy⟩
  · obtain ⟨h1, hs1⟩ := hP
    show Cd _ _ _
    refine Cd.t rfl ?_
    have e : Value.bool false = Value.bool q.2 := by rw [h1]
    exact e ▸ k _ hs1
end Go.Proofs.YtocphcgcpjcfjaaGreat

set_option linter.unusedVariables false
set_option linter.unusedSimpArgs false
namespace Go.Proofs.YtocphcgcpjcfjaaGreat
open Go Go.CM
attribute [local irreducible] AsBool AsWant AsNat AsInt AsCnt AsPtr AsSlc AsLen AsStr AsAgg AsTup AsFn AsIfc Nth Sc NotNil IsNil Must Cd codeW funW Sat SatL wrapN subM mkRow ltZ leZ ltN leN
variable {con : CallT}
def PQ (n a z : Nat) (d : Array Nat) (a' z' : Nat) (d1 : Array Nat) : Prop := d1.size = n ∧ Sort.Below ltU a' z' d1 ∧ ∀ R, Sort.PermIn a' z' d1 R → Sort.SortedIn ltU a' z' R → Sort.PermIn a z d R ∧ Sort.SortedIn ltU a z R
theorem PQ.perm {n a z a' z' : Nat} {d d1 d2 : Array Nat} (h : PQ n a z d a' z' d1) (hz : z' ≤ n) (p : Sort.PermIn a' z' d1 d2) : PQ n a z d a' z' d2 :=
  ⟨p.1.trans h.1, h.2.1.perm (by rw [h.1]; exact hz) p, fun R hR hs => h.2.2 R (Sort.permIn_trans _ _ _ _ _ p hR) hs⟩
abbrev PT (σ : TF) (b n a z l : Nat) (wb wp : Bool) : Prop := σ 0 = slc b 0 n n ∧ σ 1 = iN a ∧ σ 2 = iN z ∧ σ 3 = iN l ∧ σ 8 = .bool wb ∧ σ 9 = .bool wp
def PdqAt (con : CallT) (m : Nat) : Prop := ∀ (L R : List HP) (H : CH) (b e s a z n l : Nat) (d : Array Nat) (K : KP), z - a < m → Sat L H → Pull L (RowA b e s d) R → d.size = n → n ≤ 256 → a ≤ z → z ≤ n → l ≤ 1000 → Sort.Below ltU a z d →
  (∀ d' H1, Sort.PermIn a z d d' → Sort.SortedIn ltU a z d' → Sat (RowA b e s d' :: R) H1 → K unit H1) → Call1 Tryz.prog con 102 [slc b 0 n n, iN a, iN z, iN l] H K
theorem pdqCD_ok (hc : Con con lives) {m : Nat} (ih : PdqAt con m) {R : List HP} {H : CH} {b e s n a z a0 z0 l p : Nat} {wb wp : Bool} {d0 d : Array Nat} {σ : TF} {K : KX} (hs : Sat (RowA b e s d :: R) H) (hq : PQ n a0 z0 d0 a z d) (hn2 : n ≤ 256) (hap : a ≤ p) (hpz : p < z) (hz : z ≤ n) (hl : l ≤ 1000) (hm : z - a ≤ m)
    (ht : PT σ b n a z l wb wp) (e10 : σ 10 = iN (z - a)) (e11 : σ 11 = iN p)
    (k : ∀ σ1 H1 a1 z1 l1 wb1 wp1 d1, PT σ1 b n a1 z1 l1 wb1 wp1 → z1 - a1 < z - a → a1 ≤ z1 → z1 ≤ n → l1 ≤ 1000 → PQ n a0 z0 d0 a1 z1 d1 → Sat (RowA b e s d1 :: R) H1 → K .normal σ1 H1)
    (kE : ∀ σ1 H1 a1 z1 l1 wb1 wp1 d1, PT σ1 b n a1 z1 l1 wb1 wp1 → z1 - a1 < z - a → a1 ≤ z1 → z1 ≤ n → l1 ≤ 1000 → PQ n a0 z0 d0 a1 z1 d1 → Sat (RowA b e s d1 :: R) H1 → K (.exit 1) σ1 H1) :
    codeW (dropC 12 (blkC (lpAt Tryz.prog 102 0))) Tryz.prog con σ H K := by
  obtain ⟨e0, e1, e2, e3, e8, e9⟩ := ht
  have hd := hq.1
  have part : ∀ σ1 H1, PT σ1 b n a z l wb wp → σ1 10 = iN (z - a) → σ1 11 = iN p → Sat (RowA b e s d :: R) H1 → codeW (dropC 14 (blkC (lpAt Tryz.prog 102 0))) Tryz.prog con σ1 H1 K := by
    intro σ1 H1 ht c10 c11 hs1
    obtain ⟨c0, c1, c2, c3, c8, c9⟩ := ht
    rw [pdqD_W]
    simp only [c0, c1, c2, c3, c11, c10]
    rcases hx : Sort.partition ltU d a z p with ⟨mid, ap, d4⟩
    obtain ⟨r1, r2, r3, r4, r5, r6, r7⟩ := Sort.round_part swoU (Sort.partition_holds ltU) hap hpz (by rw [hd]; exact hz) hq.2.1 hx
    refine partOrd_ok hc hs1 pp hd (by omega) hap hpz hz fun H2 h2 => ?_
    simp only [hx] at h2 ⊢
    repeat (refine gO ?_; intros)
    rw [subInt (by omega)]
    refine inR_nat (by omega) ?_
    repeat (refine gO ?_; intros)
    rw [subInt (by omega)]
    refine inR_nat (by omega) ?_
    repeat (refine gO ?_; intros)
    refine CInt.quoI (m := (z - a) / 8) (by omega) rfl (by omega) ?_
    rw [hd] at r3
    refine Cd.of (fun hlt => ?_) (fun hlt => ?_)
    · have hlt := ltZ_e hlt
      repeat (refine gO ?_; intros)
      refine ih _ R _ b e s a mid n l d4 _ (by omega) h2 pp r3 hn2 r1 (by omega) hl r4 fun d5 H5 p5 s5 h5 => ?_
      obtain ⟨q1, q2⟩ := r6 d5 p5 s5
      repeat (refine gO ?_; intros)
      try rw [addInt]
      refine inR_nat (by omega) ?_
      repeat (refine gO ?_; intros)
      exact k _ _ (mid + 1) z l _ _ d5 ⟨c0, rfl, c2, c3, rfl, rfl⟩ (by omega) (by omega) hz hl ⟨p5.1.trans r3, q1, fun R hR hs => (fun x => hq.2.2 R x.1 x.2) (q2 R hR hs)⟩ h5
    · have hlt := ltZ_n hlt
      repeat (refine gO ?_; intros)
      try rw [addInt]
      refine inR_nat (by omega) ?_
      repeat (refine gO ?_; intros)
      refine ih _ R _ b e s (mid + 1) z n l d4 _ (by omega) h2 pp r3 hn2 (by omega) hz hl r5 fun d5 H5 p5 s5 h5 => ?_
      obtain ⟨q1, q2⟩ := r7 d5 p5 s5
      repeat (refine gO ?_; intros)
      exact k _ _ a mid l _ _ d5 ⟨c0, c1, rfl, c3, rfl, rfl⟩ (by omega) (by omega) (by omega) hl ⟨p5.1.trans r3, q1, fun R hR hs => (fun x => hq.2.2 R x.1 x.2) (q2 R hR hs)⟩ h5
  rw [codeW_cut2 12 2, pdqC_W]
  simp only [e1]
  repeat (refine gO ?_; intros)
  refine Cd.of (fun h0 => ?_) (fun h0 => part _ _ ⟨e0, e1, e2, e3, e8, e9⟩ e10 e11 hs)
  have h0 := ltZ_e h0
  repeat (refine gO ?_; intros)
  rw [subInt (by omega)]
  refine inR_nat (by omega) ?_
  repeat (refine gO ?_; intros)
  simp only [e0, e11, e2]
  repeat (refine gO ?_; intros)
  refine Must.mk (ltN_t (by omega)) (ldA hs (by omega) rfl ?_)
  repeat (refine gO ?_; intros)
  refine Must.mk (ltN_t (by omega)) (ldA hs (by omega) rfl ?_)
  repeat (refine gO ?_; intros)
  refine cmpLess_ok hc ?_
  repeat (refine gO ?_; intros)
  refine Cd.of (fun hl1 => ?_) (fun hl1 => part _ _ ⟨e0, e1, e2, e3, e8, e9⟩ e10 e11 hs)
  have hl1 : ltU d[a - 1]! d[p]! = false := by
    cases hh : ltU d[a - 1]! d[p]! with
    | false => rfl
    | true => rw [hh] at hl1; cases hl1
  rcases hx : Sort.partitionEqual ltU d a z p with ⟨mid, d4⟩
  obtain ⟨r1, r2, r3, r4, r5⟩ := Sort.round_eq swoU (Sort.partitionEqual_holds ltU) h0 hap hpz (by rw [hd]; exact hz) hq.2.1 hl1 hx
  refine partEq_ok hc hs pp hd (by omega) (by omega) hz (by omega) fun H2 h2 => ?_
  simp only [hx] at h2 ⊢
  repeat (refine gO ?_; intros)
  exact kE _ _ mid z l wb wp d4 ⟨e0, rfl, e2, e3, e8, e9⟩ (by omega) r2 hz hl ⟨r3.trans hd, r4, fun R hR hs => (fun x => hq.2.2 R x.1 x.2) (r5 R hR hs)⟩ h2
theorem pdqB_ok (hc : Con con lives) {m : Nat} (ih : PdqAt con m) {R : List HP} {H : CH} {b e s n a z a0 z0 l : Nat} {wb wp : Bool} {d0 d : Array Nat} {σ : TF} {K : KX} (hs : Sat (RowA b e s d :: R) H) (hq : PQ n a0 z0 d0 a z d) (hn2 : n ≤ 256) (haz : a + 12 < z) (hz : z ≤ n) (hl : l ≤ 1000) (hm : z - a ≤ m)
    (ht : PT σ b n a z l wb wp) (e10 : σ 10 = iN (z - a))
    (kR : ∀ σ1 H1 d1, Sort.PermIn a0 z0 d0 d1 → Sort.SortedIn ltU a0 z0 d1 → Sat (RowA b e s d1 :: R) H1 → K .ret σ1 H1)
    (k : ∀ σ1 H1 a1 z1 l1 wb1 wp1 d1, PT σ1 b n a1 z1 l1 wb1 wp1 → z1 - a1 < z - a → a1 ≤ z1 → z1 ≤ n → l1 ≤ 1000 → PQ n a0 z0 d0 a1 z1 d1 → Sat (RowA b e s d1 :: R) H1 → K .normal σ1 H1)
    (kE : ∀ σ1 H1 a1 z1 l1 wb1 wp1 d1, PT σ1 b n a1 z1 l1 wb1 wp1 → z1 - a1 < z - a → a1 ≤ z1 → z1 ≤ n → l1 ≤ 1000 → PQ n a0 z0 d0 a1 z1 d1 → Sat (RowA b e s d1 :: R) H1 → K (.exit 1) σ1 H1) :
    codeW (dropC 7 (blkC (lpAt Tryz.prog 102 0))) Tryz.prog con σ H K := by
  obtain ⟨e0, e1, e2, e3, e8, e9⟩ := ht
  have hd := hq.1
  rw [codeW_cut2 7 5, pdqB_W]
  simp only [e0, e1, e2, e8, e9]
  refine choosePiv_ok hc hs pp hd (by omega) (by omega) hz fun p h H2 hap hpz hh h2 => ?_
  repeat (refine gO ?_; intros)
  by_cases h2' : h = 2
  · refine Cd.t (eqZ_t h2') ?_
    refine revRange_ok hc h2 pp hd (by omega) (by omega) hz fun H3 h3 => ?_
    have hrp := Sort.reverseRange_holds d a z (by omega) (by rw [hd]; exact hz)
    have hq3 := hq.perm hz hrp
    have hd3 := hq3.1
    generalize Sort.reverseRange d a z = d3 at *
    repeat (refine gO ?_; intros)
    rw [subInt (by omega)]
    refine inR_nat (by omega) ?_
    repeat (refine gO ?_; intros)
    rw [subInt (by omega)]
    refine inR_nat (by omega) ?_
    repeat (refine gO ?_; intros)
    rw [subInt (by omega)]
    refine inR_nat (by omega) ?_
    repeat (refine gO ?_; intros)
    cases wb with
    | false =>
      refine Cd.f rfl ?_
      exact pdqCD_ok hc ih h3 hq3 hn2 (by omega) (by omega) hz hl hm ⟨e0, e1, e2, e3, e8, e9⟩ e10 rfl k kE
    | true =>
      refine Cd.t rfl ?_
      refine AsWant.mk ?_
      cases wp with
      | false =>
        refine Cd.f rfl ?_
        exact pdqCD_ok hc ih h3 hq3 hn2 (by omega) (by omega) hz hl hm ⟨e0, e1, e2, e3, e8, e9⟩ e10 rfl k kE
      | true =>
        refine Cd.t rfl ?_
        cases hpi : (Sort.partialInsertionSort ltU d3 a z).2 with
        | true =>
          refine partIns_ok hc h3 pp hd3 (by omega) (by omega) hz fun H5 h5 => ?_
          rw [hpi]
          repeat (refine gO ?_; intros)
          have hpp := Sort.partialInsertionSort_holds swoU d3 a z (by omega) (by rw [hd3]; exact hz) hq3.2.1
          exact kR _ _ _ (hq3.2.2 _ hpp.1 (hpp.2 hpi)).1 (hq3.2.2 _ hpp.1 (hpp.2 hpi)).2 h5
        | false =>
          refine partIns_ok hc h3 pp hd3 (by omega) (by omega) hz fun H5 h5 => ?_
          rw [hpi]
          repeat (refine gO ?_; intros)
          have hpp := Sort.partialInsertionSort_holds swoU d3 a z (by omega) (by rw [hd3]; exact hz) hq3.2.1
          exact pdqCD_ok hc ih h5 (hq3.perm hz hpp.1) hn2 (by omega) (by omega) hz hl hm ⟨e0, e1, e2, e3, e8, e9⟩ e10 rfl k kE
  · refine Cd.f (eqZ_f h2') ?_
    refine AsWant.mk ?_
    cases wb with
    | false =>
      refine Cd.f rfl ?_
      exact pdqCD_ok hc ih h2 hq hn2 (by omega) (by omega) hz hl hm ⟨e0, e1, e2, e3, e8, e9⟩ e10 rfl k kE
    | true =>
      refine Cd.t rfl ?_
      refine AsWant.mk ?_
      cases wp with
      | false =>
        refine Cd.f rfl ?_
        exact pdqCD_ok hc ih h2 hq hn2 (by omega) (by omega) hz hl hm ⟨e0, e1, e2, e3, e8, e9⟩ e10 rfl k kE
      | true =>
        refine Cd.t rfl ?_
        repeat (refine gO ?_; intros)
        refine Cd.of (fun _ => ?_) (fun _ => pdqCD_ok hc ih h2 hq hn2 (by omega) (by omega) hz hl hm ⟨e0, e1, e2, e3, e8, e9⟩ e10 rfl k kE)
        cases hpi : (Sort.partialInsertionSort ltU d a z).2 with
        | true =>
          refine partIns_ok hc h2 pp hd (by omega) (by omega) hz fun H5 h5 => ?_
          rw [hpi]
          repeat (refine gO ?_; intros)
          have hpp := Sort.partialInsertionSort_holds swoU d a z (by omega) (by rw [hd]; exact hz) hq.2.1
          exact kR _ _ _ (hq.2.2 _ hpp.1 (hpp.2 hpi)).1 (hq.2.2 _ hpp.1 (hpp.2 hpi)).2 h5
        | false =>
          refine partIns_ok hc h2 pp hd (by omega) (by omega) hz fun H5 h5 => ?_
          rw [hpi]
          repeat (refine gO ?_; intros)
          have hpp := Sort.partialInsertionSort_holds swoU d a z (by omega) (by rw [hd]; exact hz) hq.2.1
          exact pdqCD_ok hc ih h5 (hq.perm hz hpp.1) hn2 (by omega) (by omega) hz hl hm ⟨e0, e1, e2, e3, e8, e9⟩ e10 rfl k kE
theorem pdqRound_ok (hc : Con con lives) {m : Nat} (ih : PdqAt con m) {R : List HP} {H : CH} {b e s n a z a0 z0 l : Nat} {wb wp : Bool} {d0 d : Array Nat} {σ : TF} {K : KX} (hs : Sat (RowA b e s d :: R) H) (hq : PQ n a0 z0 d0 a z d) (hn2 : n ≤ 256) (haz : a ≤ z) (hz : z ≤ n) (hl : l ≤ 1000) (hm : z - a ≤ m)
    (ht : PT σ b n a z l wb wp)
    (kR : ∀ σ1 H1 d1, Sort.PermIn a0 z0 d0 d1 → Sort.SortedIn ltU a0 z0 d1 → Sat (RowA b e s d1 :: R) H1 → K .ret σ1 H1)
    (k : ∀ σ1 H1 a1 z1 l1 wb1 wp1 d1, PT σ1 b n a1 z1 l1 wb1 wp1 → z1 - a1 < z - a → a1 ≤ z1 → z1 ≤ n → l1 ≤ 1000 → PQ n a0 z0 d0 a1 z1 d1 → Sat (RowA b e s d1 :: R) H1 → K .normal σ1 H1)
    (kE : ∀ σ1 H1 a1 z1 l1 wb1 wp1 d1, PT σ1 b n a1 z1 l1 wb1 wp1 → z1 - a1 < z - a → a1 ≤ z1 → z1 ≤ n → l1 ≤ 1000 → PQ n a0 z0 d0 a1 z1 d1 → Sat (RowA b e s d1 :: R) H1 → K (.exit 1) σ1 H1) :
    codeW (blkC (lpAt Tryz.prog 102 0)) Tryz.prog con σ H K := by
  obtain ⟨e0, e1, e2, e3, e8, e9⟩ := ht
  have hd := hq.1
  rw [codeW_cut 7, pdqA_W]
  simp only [e0, e1, e2, e3, e8]
  repeat (refine gO ?_; intros)
  rw [subInt (by omega)]
  refine inR_nat (by omega) ?_
  repeat (refine gO ?_; intros)
  refine Cd.of (fun h12 => ?_) (fun h12 => ?_)
  · refine insSort_ok hc hs pp hd (by omega) haz hz fun H2 h2 => ?_
    have hpp := Sort.insertionSort_holds swoU d a z haz (by rw [hd]; exact hz)
    exact kR _ _ _ (hq.2.2 _ hpp.1 hpp.2).1 (hq.2.2 _ hpp.1 hpp.2).2 h2
  · have h12 := leZ_n h12
    repeat (refine gO ?_; intros)
    by_cases hl0 : l = 0
    · refine Cd.t (eqZ_t hl0) ?_
      refine heapSort_ok hc hs pp hd (by omega) (by omega) hz fun H2 h2 => ?_
      have hpp := Sort.heapSort_holds swoU d a z haz (by rw [hd]; exact hz)
      exact kR _ _ _ (hq.2.2 _ hpp.1 hpp.2).1 (hq.2.2 _ hpp.1 hpp.2).2 h2
    · refine Cd.f (eqZ_f hl0) ?_
      repeat (refine gO ?_; intros)
      cases wb with
      | true =>
        refine Cd.f rfl ?_
        exact pdqB_ok hc ih hs hq hn2 (by omega) hz hl hm ⟨e0, e1, e2, e3, e8, e9⟩ rfl kR k kE
      | false =>
        refine Cd.t rfl ?_
        refine breakPat_ok hc hs pp hd hn2 haz hz fun d' H2 hp2 h2 => ?_
        repeat (refine gO ?_; intros)
        rw [subInt (by omega)]
        refine inR_nat (by omega) ?_
        repeat (refine gO ?_; intros)
        exact pdqB_ok hc ih h2 (hq.perm hz hp2) hn2 (by omega) hz (by omega) hm ⟨e0, e1, e2, rfl, e8, e9⟩ rfl kR k kE
theorem pdqAll (hc : Con con lives) : ∀ m, PdqAt con m := by
  intro m
  induction m with
  | zero => exact fun L R H b e s a z n l d K hm => absurd hm (Nat.not_lt_zero _)
  | succ m ih =>
    intro L R H b e s a z n l d K hm hs hp hd hn2 haz hz hl hB k
    refine call_of (hc _ _ _ rfl) ?_
    rw [pdqSort_W]
    have hs0 := hs.pull hp
    clear hs hp
    refine LoopC.indP (n := 200) (id := 0) (fun σ1 H1 => False) (by kernel_rfl)
      (fun (x : Nat × Nat) σ1 H1 => x.1 ≤ x.2 ∧ x.2 ≤ n ∧ x.2 - x.1 ≤ z - a ∧ ∃ l1 wb wp d1, l1 ≤ 1000 ∧ PT σ1 b n x.1 x.2 l1 wb wp ∧ PQ n a z d x.1 x.2 d1 ∧ Sat (RowA b e s d1 :: R) H1)
      (fun x => x.2 - x.1) (fun x σ1 H1 hI => ?_) (fun σ1 H1 hP => hP.elim) (a, z) _ _ ⟨haz, hz, Nat.le_refl _, l, true, true, d, hl, ⟨rfl, rfl, rfl, rfl, rfl, rfl⟩, ⟨hd, hB, fun R h1 h2 => ⟨h1, h2⟩⟩, hs0⟩
    obtain ⟨x, y⟩ := x
    obtain ⟨hxy, hyn, hxm, l1, wb, wp, d1, hl1, ht, hq, hs1⟩ := hI
    have hxm : y - x ≤ z - a := hxm
    rw [codeW_blk (id := 1) (by kernel_rfl)]
    refine pdqRound_ok hc ih hs1 hq hn2 hxy hyn hl1 (by omega) ht (fun σ2 H2 d2 p2 s2 h2 => ?_) (fun σ2 H2 a2 z2 l2 wb2 wp2 d2 ht2 hlt h2a h2z hl2 hq2 h2 => ?_) (fun σ2 H2 a2 z2 l2 wb2 wp2 d2 ht2 hlt h2a h2z hl2 hq2 h2 => ?_)
    · exact k _ _ p2 s2 h2
    · exact ⟨(a2, z2), hlt, h2a, h2z, by show z2 - a2 ≤ z - a; omega, l2, wb2, wp2, d2, hl2, ht2, hq2, h2⟩
    · show Cd _ _ _
      refine Cd.t rfl ?_
      exact ⟨(a2, z2), hlt, h2a, h2z, by show z2 - a2 ≤ z - a; omega, l2, wb2, wp2, d2, hl2, ht2, hq2, h2⟩
theorem pdqSort_ok (hc : Con con lives) {L R : List HP} {H : CH} {b e s n l : Nat} {d : Array Nat} {K : KP} (hs : Sat L H) (hp : Pull L (RowA b e s d) R) (hn : d.size = n) (hn2 : n ≤ 256) (hl : l ≤ 1000)
    (k : ∀ d' H1, Sort.PermIn 0 n d d' → Sort.SortedIn ltU 0 n d' → Sat (RowA b e s d' :: R) H1 → K unit H1) : Call1 Tryz.prog con 102 [slc b 0 n n, iN 0, iN n, iN l] H K :=
  pdqAll hc (n + 1) L R H b e s 0 n n l d K (by omega) hs hp hn hn2 (Nat.zero_le _) (Nat.le_refl _) hl (.inl rfl) k
end Go.Proofs.YtocphcgcpjcfjaaGreat

set_option linter.unusedVariables false
set_option linter.unusedSimpArgs false
namespace Go.Proofs.YtocphcgcpjcfjaaGreat
open Go Go.CM
attribute [local irreducible] AsBool AsWant AsNat AsInt AsCnt AsPtr AsSlc AsLen AsStr AsAgg AsTup AsFn AsIfc Nth Sc NotNil IsNil Must Cd codeW funW Sat SatL wrapN subM mkRow ltZ leZ ltN leN
variable {con : CallT}
theorem sortU_ok (hc : Con con lives) {L R : List HP} {H : CH} {b e s n : Nat} {d : Array Nat} {K : KP} (hs : Sat L H) (hp : Pull L (RowA b e s d) R) (hn : d.size = n) (hn2 : n ≤ 256)
    (k : ∀ d' H1, Sort.PermIn 0 n d d' → Sort.SortedIn ltU 0 n d' → Sat (RowA b e s d' :: R) H1 → K unit H1) : Call1 Tryz.prog con 79 [slc b 0 n n] H K := by
  refine call_of (hc _ _ _ rfl) ?_
  rw [sortU_W]
  repeat (refine gO ?_; intros)
  refine Must.mk (cv_small (by omega)) ?_
  rw [wrapN_small (by omega)]
  refine bitsLen_ok hc hn2 fun c hc1 _ => ?_
  refine pdqSort_ok hc hs hp hn hn2 (by omega) fun d' H1 p1 s1 h1 => ?_
  exact k d' H1 p1 s1 h1
end Go.Proofs.YtocphcgcpjcfjaaGreat

set_option linter.unusedVariables false
set_option linter.unusedSimpArgs false
namespace Go.Proofs.YtocphcgcpjcfjaaGreat
open Go Go.CM
attribute [local irreducible] AsBool AsWant AsNat AsInt AsCnt AsPtr AsSlc AsLen AsStr AsAgg AsTup AsFn AsIfc Nth Sc NotNil IsNil Must Cd codeW funW Sat SatL wrapN subM mkRow ltZ leZ ltN leN
variable {con : CallT}
theorem ltN_n {a b : Nat} (h : ltN a b = false) : b ≤ a := Nat.le_of_not_lt fun h2 => by rw [ltN_t h2] at h; cases h
def upTo (d : Array Nat) (i : Nat) (x : Nat) : Prop := ∃ j, j < i ∧ d[j]! = x
theorem upTo_succ {d : Array Nat} {i x : Nat} : upTo d (i + 1) x ↔ upTo d i x ∨ d[i]! = x := by
  constructor
  · rintro ⟨j, h1, h2⟩
    by_cases h : j = i
    · subst h; exact .inr h2
    · exact .inl ⟨j, by omega, h2⟩
  · rintro (⟨j, h1, h2⟩ | h)
    · exact ⟨j, by omega, h2⟩
    · exact ⟨i, by omega, h⟩
def Up (d : Array Nat) (m : Nat) : Prop := ∀ i, i + 1 < m → d[i]! < d[i + 1]!
structure CpI (d cur : Array Nat) (n k j : Nat) : Prop where
  sz : cur.size = n
  k1 : 1 ≤ k
  kj : k < j
  jn : j ≤ n
  up : Up cur k
  last : cur[k - 1]! = d[j - 1]!
  mem : ∀ x, upTo cur k x ↔ upTo d j x
  rest : ∀ i, j - 1 ≤ i → cur[i]! = d[i]!
theorem CpI.same {d cur : Array Nat} {n k j : Nat} (h : CpI d cur n k j) (hj : j < n) (e : d[j]! = d[j - 1]!) : CpI d cur n k (j + 1) where
  sz := h.sz
  k1 := h.k1
  kj := Nat.lt_succ_of_lt h.kj
  jn := hj
  up := h.up
  last := by rw [h.last, Nat.add_sub_cancel, e]
  mem x := by
    rw [upTo_succ, h.mem]
    refine ⟨.inl, fun hx => hx.elim id fun hx => ⟨j - 1, by have := h.kj; omega, by rw [← e]; exact hx⟩⟩
  rest i hi := h.rest i (by omega)
def Cpct (d : Array Nat) (n : Nat) (d' : Array Nat) (m : Nat) : Prop := d'.size = n ∧ m ≤ n ∧ Up d' m ∧ ∀ x, upTo d' m x ↔ upTo d n x
theorem CpI.fin {d cur d2 : Array Nat} {n k : Nat} (h : CpI d cur n k n) (h1 : d2.size = n) (h2 : ∀ i, i < k → d2[i]! = cur[i]!) : Cpct d n d2 k := by
  refine ⟨h1, by have := h.kj; omega, fun i hi => by rw [h2 i (by omega), h2 (i + 1) hi]; exact h.up i hi, fun x => ?_⟩
  rw [← h.mem]
  exact ⟨fun ⟨i, a, c⟩ => ⟨i, a, by rw [← h2 i a]; exact c⟩, fun ⟨i, a, c⟩ => ⟨i, a, by rw [h2 i a]; exact c⟩⟩
end Go.Proofs.YtocphcgcpjcfjaaGreat

set_option linter.unusedVariables false
set_option linter.unusedSimpArgs false
namespace Go.Proofs.YtocphcgcpjcfjaaGreat
open Go Go.CM
attribute [local irreducible] AsBool AsWant AsNat AsInt AsCnt AsPtr AsSlc AsLen AsStr AsAgg AsTup AsFn AsIfc Nth Sc NotNil IsNil Must Cd codeW funW Sat SatL wrapN subM mkRow ltZ leZ ltN leN
variable {con : CallT}
def insU (x : Nat) : List Nat → List Nat
  | [] => [x]
  | y :: r => if x < y then x :: y :: r else if x = y then y :: r else y :: insU x r
def rise (l : List Nat) (b : Nat) : List Nat := l.foldr (fun x r => if x < b then insU x r else r) []
abbrev IncL (l : List Nat) : Prop := l.Pairwise (· < ·)
theorem insU_mem {x y : Nat} : ∀ {l : List Nat}, y ∈ insU x l ↔ y = x ∨ y ∈ l
  | [] => by simp [insU]
  | z :: r => by
    unfold insU
    split
    · simp
    · split
      · rename_i h; subst h; simp
      · rw [List.mem_cons, insU_mem, List.mem_cons]; constructor
        · rintro (h | h | h) <;> simp [h]
        · rintro (h | h | h) <;> simp [h]
theorem insU_inc {x : Nat} : ∀ {l : List Nat}, IncL l → IncL (insU x l)
  | [], _ => by simp [insU]
  | z :: r, h => by
    have h' := List.pairwise_cons.1 h
    unfold insU
    split
    · rename_i hx
      refine List.pairwise_cons.2 ⟨fun y hy => ?_, h⟩
      rcases List.mem_cons.1 hy with rfl | hy
      · exact hx
      · have := h'.1 y hy; omega
    · split
      · exact h
      · refine List.pairwise_cons.2 ⟨fun y hy => ?_, insU_inc h'.2⟩
        rcases insU_mem.1 hy with rfl | hy
        · omega
        · exact h'.1 y hy
theorem rise_inc (b : Nat) : ∀ l : List Nat, IncL (rise l b)
  | [] => List.Pairwise.nil
  | x :: l => by
    show IncL (if x < b then insU x (rise l b) else rise l b)
    split
    · exact insU_inc (rise_inc b l)
    · exact rise_inc b l
theorem rise_mem {b y : Nat} : ∀ {l : List Nat}, y ∈ rise l b ↔ y ∈ l ∧ y < b
  | [] => by simp [rise]
  | x :: l => by
    show y ∈ (if x < b then insU x (rise l b) else rise l b) ↔ _
    split
    · rename_i h
      rw [insU_mem, rise_mem, List.mem_cons]
      constructor
      · rintro (rfl | ⟨h1, h2⟩)
        · exact ⟨.inl rfl, h⟩
        · exact ⟨.inr h1, h2⟩
      · rintro ⟨rfl | h1, h2⟩
        · exact .inl rfl
        · exact .inr ⟨h1, h2⟩
    · rename_i h
      rw [rise_mem, List.mem_cons]
      constructor
      · rintro ⟨h1, h2⟩; exact ⟨.inr h1, h2⟩
      · rintro ⟨rfl | h1, h2⟩
        · exact absurd h2 h
        · exact ⟨h1, h2⟩
theorem inc_unique : ∀ {a b : List Nat}, IncL a → IncL b → (∀ x, x ∈ a ↔ x ∈ b) → a = b
  | [], [], _, _, _ => rfl
  | [], y :: b, _, _, h => absurd ((h y).2 (List.mem_cons_self ..)) (by simp)
  | x :: a, [], _, _, h => absurd ((h x).1 (List.mem_cons_self ..)) (by simp)
  | x :: a, y :: b, ha, hb, h => by
    have ha' := List.pairwise_cons.1 ha
    have hb' := List.pairwise_cons.1 hb
    have e : x = y := by
      have h1 := (h x).1 (List.mem_cons_self ..)
      have h2 := (h y).2 (List.mem_cons_self ..)
      rcases List.mem_cons.1 h1 with h1 | h1
      · exact h1
      · rcases List.mem_cons.1 h2 with h2 | h2
        · exact h2.symm
        · have := hb'.1 x h1; have := ha'.1 y h2; omega
    subst e
    refine congrArg _ (inc_unique ha'.2 hb'.2 fun z => ?_)
    constructor
    · intro hz
      have := ha'.1 z hz
      rcases List.mem_cons.1 ((h z).1 (List.mem_cons_of_mem _ hz)) with e | e
      · omega
      · exact e
    · intro hz
      have := hb'.1 z hz
      rcases List.mem_cons.1 ((h z).2 (List.mem_cons_of_mem _ hz)) with e | e
      · omega
      · exact e
abbrev rowsU (l : List Nat) : List (List Value) := l.map fun x => [u64 x]
theorem rowsU_flat : ∀ l : List Nat, (rowsU l).flatten = l.map u64
  | [] => rfl
  | x :: l => by show [u64 x] ++ (rowsU l).flatten = _; rw [rowsU_flat l]; rfl
theorem sortU_nil (hc : Con con lives) {L : List HP} {H : CH} {K : KP} (hs : Sat L H) (k : ∀ H1, Sat L H1 → K unit H1) : Call1 Tryz.prog con 79 [snil] H K := by
  refine call_of (hc _ _ _ rfl) ?_
  rw [sortU_W]
  repeat (refine gO ?_; intros)
  rw [wrapN_small (by omega)]
  refine bitsLen_ok hc (n := 0) (by omega) fun c hc1 _ => ?_
  refine call_of (hc _ _ _ rfl) ?_
  rw [pdqSort_W]
  refine LoopC.indP (n := 200) (id := 0) (fun σ1 H1 => False) (by kernel_rfl)
    (fun (x : Nat) σ1 H1 => σ1 0 = snil ∧ σ1 1 = iN 0 ∧ σ1 2 = iN 0 ∧ Sat L H1)
    (fun x => x) (fun x σ1 H1 hI => ?_) (fun σ1 H1 hP => hP.elim) 0 _ _ ⟨rfl, rfl, rfl, hs⟩
  obtain ⟨e0, e1, e2, hs1⟩ := hI
  rw [codeW_blk (id := 1) (by kernel_rfl), codeW_cut 7, pdqA_W]
  simp only [e0, e1, e2]
  repeat (refine gO ?_; intros)
  rw [subInt (by omega)]
  refine inR_nat (by omega) ?_
  refine Cd.t (leZ_t (by omega)) ?_
  refine call_of (hc _ _ _ rfl) ?_
  rw [insSort_W]
  try rw [addInt]
  refine inR_nat (by omega) ?_
  repeat (refine gO ?_; intros)
  refine LoopC.indP (n := 200) (id := 0) (fun σ1 H1 => Sat L H1) (by kernel_rfl)
    (fun (x : Nat) σ1 H1 => σ1 2 = iN 0 ∧ σ1 6 = iN 1 ∧ Sat L H1)
    (fun x => x) (fun x σ1 H1 hI => ?_) (fun σ1 H1 hP => ?_) 0 _ _ ⟨rfl, rfl, hs1⟩
  · obtain ⟨c2, c6, hs2⟩ := hI
    rw [insSortA_W]
    simp only [c2, c6]
    repeat (refine gO ?_; intros)
    show _ = _ ∧ _
    exact ⟨rfl, hs2⟩
  · show Cd _ _ _
    refine Cd.t rfl ?_
    exact k _ hP
structure ScanS where
  sl : SlotsS
  at_ : Nat
  i : Nat
  fl : Nat
  told : List Nat
  need : List Nat
def ScanS.fin (s : ScanS) : ScanS := if s.i < cnt s.sl.count then { s with at_ := 1 } else { s with at_ := 2, need := rise s.told s.fl }
def ScanS.step (s : ScanS) (M : Mem) (th : Int) : ScanS × Mem :=
  match s.at_ with
  | 0 => (ScanS.fin { s with fl := M.peek s.sl.cam }, M.load th s.sl.cam)
  | _ => (ScanS.fin ⟨s.sl, s.at_, s.i + 1, if kindW (M.peek (addM s.sl.first s.i)) = 2 then Nat.min s.fl (stampW (M.peek (addM s.sl.first s.i))) else s.fl, if kindW (M.peek (addM s.sl.first s.i)) = 3 then s.told ++ [stampW (M.peek (addM s.sl.first s.i))] else s.told, s.need⟩, M.load th (addM s.sl.first s.i))
end Go.Proofs.YtocphcgcpjcfjaaGreat

set_option linter.unusedVariables false
set_option linter.unusedSimpArgs false
namespace Go.Proofs.YtocphcgcpjcfjaaGreat
open Go Go.CM
attribute [local irreducible] AsBool AsWant AsNat AsInt AsCnt AsPtr AsSlc AsLen AsStr AsAgg AsTup AsFn AsIfc Nth Sc NotNil IsNil Must Cd codeW funW Sat SatL wrapN subM mkRow ltZ leZ ltN leN
variable {con : CallT}
end Go.Proofs.YtocphcgcpjcfjaaGreat

set_option linter.unusedVariables false
set_option linter.unusedSimpArgs false
namespace Go.Proofs.YtocphcgcpjcfjaaGreat
open Go Go.CM
attribute [local irreducible] AsBool AsWant AsNat AsInt AsCnt AsPtr AsSlc AsLen AsStr AsAgg AsTup AsFn AsIfc Nth Sc NotNil IsNil Must Cd codeW funW Sat SatL wrapN subM mkRow ltZ leZ ltN leN
variable {con : CallT}
end Go.Proofs.YtocphcgcpjcfjaaGreat

set_option linter.unusedVariables false
set_option linter.unusedSimpArgs false
namespace Go.Proofs.YtocphcgcpjcfjaaGreat
open Go Go.CM
attribute [local irreducible] AsBool AsWant AsNat AsInt AsCnt AsPtr AsSlc AsLen AsStr AsAgg AsTup AsFn AsIfc Nth Sc NotNil IsNil Must Cd codeW funW Sat SatL wrapN subM mkRow ltZ leZ ltN leN
variable {con : CallT}
end Go.Proofs.YtocphcgcpjcfjaaGreat

set_option linter.unusedVariables false
set_option linter.unusedSimpArgs false
namespace Go.Proofs.YtocphcgcpjcfjaaGreat
open Go Go.CM
attribute [local irreducible] AsBool AsWant AsNat AsInt AsCnt AsPtr AsSlc AsLen AsStr AsAgg AsTup AsFn AsIfc Nth Sc NotNil IsNil Must Cd codeW funW Sat SatL wrapN subM mkRow ltZ leZ ltN leN
variable {con : CallT}
def dscC (s : ScanS) (w v : Value) : List Value := [iN s.at_, u64 s.sl.cam, u64 s.sl.first, i64 s.sl.count, u64 s.sl.most, iN s.i, u64 s.fl, v, u64 (if s.at_ = 2 then s.fl else 0), w]
end Go.Proofs.YtocphcgcpjcfjaaGreat

set_option linter.unusedVariables false
set_option linter.unusedSimpArgs false
namespace Go.Proofs.YtocphcgcpjcfjaaGreat
open Go Go.CM
attribute [local irreducible] AsBool AsWant AsNat AsInt AsCnt AsPtr AsSlc AsLen AsStr AsAgg AsTup AsFn AsIfc Nth Sc NotNil IsNil Must Cd codeW funW Sat SatL wrapN subM mkRow ltZ leZ ltN leN
variable {con : CallT}
theorem el_slot : elemOk Tryz.prog 153 157 3 24 = true := by kernel_rfl
theorem sl_slot : ∃ e, Tryz.prog.underlying 153 = some (.slice e) := ⟨157, by kernel_rfl⟩
def slotRows (sl : SlotsS) (M : Mem) (n : Nat) : List (List Value) := (List.range n).map fun i => unpackL (M.peek (addM sl.first i))
theorem slotRows_succ (sl : SlotsS) (M : Mem) (n : Nat) : slotRows sl M (n + 1) = slotRows sl M n ++ [unpackL (M.peek (addM sl.first n))] := by
  unfold slotRows
  rw [List.range_succ, List.map_append]
  rfl
theorem slotRows_len (sl : SlotsS) (M : Mem) (n : Nat) : (slotRows sl M n).length = n := by simp [slotRows]
theorem annSlots_ok (hc : Con con lives) (sl : SlotsS) {L R : List HP} {H : CH} {m : Nat} {M : Mem} {K : KP} (hs : Sat L H) (hm : Pull L (MemP m M) R) (hb : M.Bd)
    (k : ∀ w H1, Sat (Vec w 157 3 (slotRows sl M (cnt sl.count)) :: L) H1 → K w H1) : Call1 Tryz.prog con 77 [ptr m 0, .agg ⟨[u64 sl.cam, u64 sl.first, i64 sl.count, u64 sl.most]⟩] H K := by
  refine call_of (hc _ _ _ rfl) ?_
  rw [annSlots_W]
  repeat (refine gO ?_; intros)
  rename_i p H2 h2
  refine annCount_ok hc sl h2 fun H8 h8 => ?_
  have hcl := cnt_le sl.count
  refine LoopC.indP (n := 200) (id := 0) (fun σ1 H1 => ∃ w, σ1 5 = w ∧ Sat (Vec w 157 3 (slotRows sl M (cnt sl.count)) :: L) H1) (by kernel_rfl)
    (fun (i : Nat) σ1 H1 => i ≤ cnt sl.count ∧ ∃ w, σ1 0 = ptr m 0 ∧ σ1 3 = ptr p 0 ∧ σ1 5 = w ∧ σ1 10 = iN (cnt sl.count) ∧ σ1 11 = iN i ∧ Sat (Vec w 157 3 (slotRows sl M i) :: Own p [u64 sl.cam, u64 sl.first, i64 sl.count, u64 sl.most] :: L) H1)
    (fun i => cnt sl.count - i) (fun i σ1 H1 hI => ?_) (fun σ1 H1 hP => ?_) 0 _ _ ⟨Nat.zero_le _, snil, rfl, rfl, rfl, rfl, rfl, h8.nilV⟩
  · obtain ⟨hi, w, a0, a3, a5, a10, a11, hs1⟩ := hI
    rw [annSlotsL_W]
    simp only [a0, a3, a5, a10, a11]
    repeat (refine gO ?_; intros)
    by_cases h : i < cnt sl.count
    · refine Cd.t (ltZ_t h) ?_
      repeat (refine gO ?_; intros)
      refine annCell_ok hc sl hs1 (by omega) fun H10 h10 => ?_
      refine memPeek_ok hc h10 (Pull.there (Pull.there hm)) ?_
      refine wordUnpack_ok hc h10 (hb.peek _) fun H14 h14 => ?_
      repeat (refine gO ?_; intros)
      rename_i p2 H20 h20
      refine app_vec (new := [unpackL (M.peek (addM sl.first i))]) h20 pp el_slot (by omega) sl_slot (Src.cell (n := 3) (by rfl)) rfl (by simp) (by rw [slotRows_len]; omega) rfl fun w' H3 h3 => ?_
      rw [← slotRows_succ] at h3
      repeat (refine gO ?_; intros)
      try rw [addInt]
      refine inR_nat (by omega) ?_
      repeat (refine gO ?_; intros)
      show ∃ y, _ ∧ _
      exact ⟨i + 1, by omega, h, w', a0, a3, rfl, a10, rfl, h3.ent ee⟩
    · refine Cd.f (ltZ_f (by omega)) ?_
      show _ = _ ∧ _
      obtain rfl : i = cnt sl.count := by omega
      exact ⟨rfl, w, a5, hs1.ent ee⟩
  · obtain ⟨w, a5, hs1⟩ := hP
    show Cd _ _ _
    refine Cd.t rfl ?_
    rw [a5]
    exact k w H1 hs1
end Go.Proofs.YtocphcgcpjcfjaaGreat

set_option linter.unusedVariables false
set_option linter.unusedSimpArgs false
namespace Go.Proofs.YtocphcgcpjcfjaaGreat
open Go Go.CM
theorem ltZ_negO (n k : Nat) : ltZ (Int.negSucc n) (Int.ofNat k) = true := decide_eq_true (Int.lt_of_lt_of_le (Int.negSucc_lt_zero n) (Int.natCast_nonneg k))
attribute [local irreducible] AsBool AsWant AsNat AsInt AsCnt AsPtr AsSlc AsLen AsStr AsAgg AsTup AsFn AsIfc Nth Sc NotNil IsNil Must Cd codeW funW Sat SatL wrapN subM mkRow ltZ leZ ltN leN
variable {con : CallT}
def sl0 : SlotsS := ⟨0, 0, 0, 0⟩
def mkSlots (cam : Nat) (n : Int) (most : Nat) (M : Mem) (th : Int) : SlotsS × Nat × Mem :=
  match n with
  | .negSucc _ => (sl0, 2, M)
  | .ofNat c => if c < 1 then (sl0, 2, M) else if 256 < c then (sl0, 2, M) else if most < 1 then (sl0, 2, M) else if 1099511627776 < most then (sl0, 2, M)
      else if M.room (List.replicate c 0) = 0 then (sl0, 30, M.alloc th (List.replicate c 0)) else (⟨cam, M.room (List.replicate c 0), Int.ofNat c, most⟩, 0, M.alloc th (List.replicate c 0))
theorem zeros_flat : ∀ n, (List.replicate n [u64 0]).flatten = (List.replicate n 0).map u64
  | 0 => rfl
  | n + 1 => by rw [List.replicate_succ, List.replicate_succ, List.flatten_cons, zeros_flat n]; rfl
theorem annMake_ok (hc : Con con lives) {L R1 R2 : List HP} {H : CH} {q m nn cam most : Nat} {n th : Int} {M : Mem} {K : KP} (hs : Sat L H) (hm : Pull L (MemP m M) R1) (hv : Pull R1 (ViewAt q m th nn) R2) (hn : nn < 1000000000) (ht : M.tr.length < 1000000000)
    (k : ∀ nn' H1, nn' ≤ nn + 1 → Sat (MemP m (mkSlots cam n most M th).2.2 :: ViewAt q m th nn' :: R2) H1 → K (.tuple ⟨[slA (mkSlots cam n most M th).1, iN (mkSlots cam n most M th).2.1]⟩) H1) : Call1 Tryz.prog con 37 [ptr q 0, u64 cam, i64 n, u64 most] H K := by
  refine call_of (hc _ _ _ rfl) ?_
  rw [annMake_W]
  have hs0 := hs.takes (.cons hm (.cons hv .nil))
  simp only [List.cons_append, List.nil_append] at hs0
  clear hs hm hv
  repeat (refine gO ?_; intros)
  rename_i p1 H2 h2
  cases n with
  | negSucc c =>
    simp only [mkSlots] at k
    refine Cd.t (ltZ_negO c 1) ?_
    repeat (refine gO ?_; intros)
    refine stN (by assumption) (Nat.le_of_ble_eq_true rfl) rfl fun H3 h3 => ?_
    repeat (refine gO ?_; intros)
    exact k nn _ (Nat.le_succ _) (h3.ent ee)
  | ofNat c =>
    simp only [mkSlots] at k
    by_cases h1 : c < 1
    · simp only [if_pos h1] at k
      refine Cd.t (ltZ_t h1) ?_
      refine stN (by assumption) (Nat.le_of_ble_eq_true rfl) rfl fun H3 h3 => ?_
      repeat (refine gO ?_; intros)
      exact k nn _ (Nat.le_succ _) (h3.ent ee)
    simp only [if_neg h1] at k
    refine Cd.f (ltZ_f (by omega)) ?_
    by_cases h2' : 256 < c
    · simp only [if_pos h2'] at k
      refine Cd.t (ltZ_t h2') ?_
      refine stN (by assumption) (Nat.le_of_ble_eq_true rfl) rfl fun H3 h3 => ?_
      repeat (refine gO ?_; intros)
      exact k nn _ (Nat.le_succ _) (h3.ent ee)
    simp only [if_neg h2'] at k
    refine Cd.f (ltZ_f (by omega)) ?_
    by_cases h3' : most < 1
    · simp only [if_pos h3'] at k
      refine Cd.t (ltN_t h3') ?_
      refine stN (by assumption) (Nat.le_of_ble_eq_true rfl) rfl fun H3 h3 => ?_
      repeat (refine gO ?_; intros)
      exact k nn _ (Nat.le_succ _) (h3.ent ee)
    simp only [if_neg h3'] at k
    refine Cd.f (ltN_f (by omega)) ?_
    by_cases h4' : 1099511627776 < most
    · simp only [if_pos h4'] at k
      refine Cd.t (ltN_t h4') ?_
      refine stN (by assumption) (Nat.le_of_ble_eq_true rfl) rfl fun H3 h3 => ?_
      repeat (refine gO ?_; intros)
      exact k nn _ (Nat.le_succ _) (h3.ent ee)
    simp only [if_neg h4'] at k
    refine Cd.f (ltN_f (by omega)) ?_
    refine mkS h2 el_u64 zero_u (Nat.le_refl c) (by omega) (by omega) fun b H24 h24 => ?_
    rw [zeros_flat] at h24
    replace h24 : Sat (Own b ((List.replicate c 0).map u64) :: _) H24 := h24.imp fun g a => a.obj
    have hq := fun L => Has.own3 (b := b) (l := List.replicate c 0) (L := L)
    rw [List.length_replicate] at hq
    refine viewAlloc_ok (vals := List.replicate c 0) hc h24 pp pp (hq _) (by rw [List.length_replicate]; omega) hn ht fun H26 h26 => ?_
    repeat (refine gO ?_; intros)
    by_cases h5 : M.room (List.replicate c 0) = 0
    · simp only [if_pos h5] at k
      refine Cd.t (eqN_t h5) ?_
      refine stN (by assumption) (Nat.le_of_ble_eq_true rfl) rfl fun H3 h3 => ?_
      repeat (refine gO ?_; intros)
      exact k (nn + 1) _ (Nat.le_refl _) (h3.ent ee)
    · simp only [if_neg h5] at k
      refine Cd.f (eqN_f h5) ?_
      repeat (refine gO ?_; intros)
      refine stN (by assumption) (Nat.le_of_ble_eq_true rfl) rfl fun H3 h3 => ?_
      repeat (refine gO ?_; intros)
      exact k (nn + 1) _ (Nat.le_refl _) (h3.ent ee)
theorem rMake_ok (hc : Con con lives) {L R1 : List HP} {H : CH} {m cam most : Nat} {n th : Int} {M : Mem} {K : KP} (hs : Sat L H) (hm : Pull L (RefP m M) R1) (ht : M.tr.length < 1000000000)
    (k : ∀ H1, Sat (RefP m (mkSlots cam n most M th).2.2 :: R1) H1 → K (.tuple ⟨[slA (mkSlots cam n most M th).1, iN (mkSlots cam n most M th).2.1]⟩) H1) : Call1 Tryz.prog con 71 [ptr m 0, i64 th, u64 cam, i64 n, u64 most] H K := by
  refine call_of (hc _ _ _ rfl) ?_
  rw [rMake_W]
  have hs0 := hs.takes (.cons hm .nil)
  simp only [List.cons_append, List.nil_append] at hs0
  clear hs hm
  repeat (refine gO ?_; intros)
  rename_i p1 H2 h2
  cases n with
  | negSucc c =>
    simp only [mkSlots] at k
    refine Cd.t (ltZ_negO c 1) ?_
    repeat (refine gO ?_; intros)
    refine stN (by assumption) (Nat.le_of_ble_eq_true rfl) rfl fun H3 h3 => ?_
    repeat (refine gO ?_; intros)
    exact k _ (h3.ent ee)
  | ofNat c =>
    simp only [mkSlots] at k
    by_cases h1 : c < 1
    · simp only [if_pos h1] at k
      refine Cd.t (ltZ_t h1) ?_
      refine stN (by assumption) (Nat.le_of_ble_eq_true rfl) rfl fun H3 h3 => ?_
      repeat (refine gO ?_; intros)
      exact k _ (h3.ent ee)
    simp only [if_neg h1] at k
    refine Cd.f (ltZ_f (by omega)) ?_
    by_cases h2' : 256 < c
    · simp only [if_pos h2'] at k
      refine Cd.t (ltZ_t h2') ?_
      refine stN (by assumption) (Nat.le_of_ble_eq_true rfl) rfl fun H3 h3 => ?_
      repeat (refine gO ?_; intros)
      exact k _ (h3.ent ee)
    simp only [if_neg h2'] at k
    refine Cd.f (ltZ_f (by omega)) ?_
    by_cases h3' : most < 1
    · simp only [if_pos h3'] at k
      refine Cd.t (ltN_t h3') ?_
      refine stN (by assumption) (Nat.le_of_ble_eq_true rfl) rfl fun H3 h3 => ?_
      repeat (refine gO ?_; intros)
      exact k _ (h3.ent ee)
    simp only [if_neg h3'] at k
    refine Cd.f (ltN_f (by omega)) ?_
    by_cases h4' : 1099511627776 < most
    · simp only [if_pos h4'] at k
      refine Cd.t (ltN_t h4') ?_
      refine stN (by assumption) (Nat.le_of_ble_eq_true rfl) rfl fun H3 h3 => ?_
      repeat (refine gO ?_; intros)
      exact k _ (h3.ent ee)
    simp only [if_neg h4'] at k
    refine Cd.f (ltN_f (by omega)) ?_
    refine mkS h2 el_u64 zero_u (Nat.le_refl c) (by omega) (by omega) fun b H24 h24 => ?_
    rw [zeros_flat] at h24
    replace h24 : Sat (Own b ((List.replicate c 0).map u64) :: _) H24 := h24.imp fun g a => a.obj
    have hq := fun L => Has.own3 (b := b) (l := List.replicate c 0) (L := L)
    rw [List.length_replicate] at hq
    refine refAlloc_ok (vals := List.replicate c 0) hc h24 pp (hq _) (by rw [List.length_replicate]; omega) ht fun H26 h26 => ?_
    repeat (refine gO ?_; intros)
    by_cases h5 : M.room (List.replicate c 0) = 0
    · simp only [if_pos h5] at k
      refine Cd.t (eqN_t h5) ?_
      refine stN (by assumption) (Nat.le_of_ble_eq_true rfl) rfl fun H3 h3 => ?_
      repeat (refine gO ?_; intros)
      exact k _ (h3.ent ee)
    · simp only [if_neg h5] at k
      refine Cd.f (eqN_f h5) ?_
      repeat (refine gO ?_; intros)
      refine stN (by assumption) (Nat.le_of_ble_eq_true rfl) rfl fun H3 h3 => ?_
      repeat (refine gO ?_; intros)
      exact k _ (h3.ent ee)
end Go.Proofs.YtocphcgcpjcfjaaGreat

set_option linter.unusedVariables false
set_option linter.unusedSimpArgs false
namespace Go.Proofs.YtocphcgcpjcfjaaGreat
open Go Go.CM
attribute [local irreducible] AsBool AsWant AsNat AsInt AsCnt AsPtr AsSlc AsLen AsStr AsAgg AsTup AsFn AsIfc Nth Sc NotNil IsNil Must Cd codeW funW Sat SatL wrapN subM mkRow ltZ leZ ltN leN
variable {con : CallT}
def d13 (kind : Int) (sn : SnapS) (lt : LetS) (sc : ScanS) (w v : Value) (t : List Value) : List Value := i64 kind :: (dsC sn ++ (dlC lt ++ (dscC sc w v ++ t)))
abbrev t13 (h st er nf nv dn : Value) : List Value := [h, st, er, nf, nv, dn]
set_option maxRecDepth 100000 in
theorem rProc0_ok (hc : Con con lives) (s : SnapS) {lt : LetS} {sc : ScanS} {w v h st er nf nv dn : Value} {L R1 R2 : List HP} {H : CH} {p m : Nat} {th : Int} {M : Mem} {K : KP} (hs : Sat L H) (hm : Pull L (RefP m M) R1) (hp : Pull R1 (Own p (d13 (Int.ofNat 0) s lt sc w v (t13 h st er nf nv dn))) R2)
    (ht : M.tr.length < 1000000000) (hb : M.Bd) (hok : s.Ok)
    (k : ∀ H1 b, b = eqZ (Int.ofNat (s.step M th).1.at_) (Int.ofNat 8) → Sat (Own p (d13 (Int.ofNat 0) (s.step M th).1 lt sc w v (t13 (u64 (s.step M th).1.handle) (u64 (s.step M th).1.stamp) (iN (s.step M th).1.err) nf nv (.bool b))) :: RefP m (s.step M th).2 :: R2) H1 → K (.bool b) H1) :
    Call1 Tryz.prog con 92 [ptr p 0, ptr m 0, i64 th] H K := by
  refine call_of (hc _ _ _ rfl) ?_
  rw [rProcStep13_W]
  have hs0 := hs.takes (.cons hm (.cons hp .nil))
  simp only [List.cons_append, List.nil_append] at hs0
  clear hs hm hp
  repeat (refine gO ?_; intros)
  replace hs0 : Sat (RefP m M :: Own p (i64 (Int.ofNat 0) :: (dsC s ++ (dlC lt ++ (dscC sc w v ++ t13 h st er nf nv dn)))) :: R2) H := hs0
  refine rSnapStep_ok hc s hs0 pp pp ht hb hok fun H4 h4 => ?_
  replace h4 : Sat (Own p (d13 (Int.ofNat 0) (s.step M th).1 lt sc w v (t13 h st er nf nv dn)) :: RefP m (s.step M th).2 :: R2) H4 := h4
  clear hs0
  generalize eqZ (Int.ofNat (s.step M th).1.at_) (Int.ofNat 8) = b at *
  generalize (s.step M th).1 = s' at *
  repeat (refine gO ?_; intros)
  exact k _ b rfl (Sat.ent (by assumption) ee)
def c13 (kind : Int) (sn : SnapS) (i : Nat) : Value := ((i64 kind :: dsC sn)[i]?).getD snil
set_option maxRecDepth 100000 in
theorem rProc1_ok (hc : Con con lives) (s : LetS) {kind : Int} {sn : SnapS} {sc : ScanS} {w v h st er nf nv dn : Value} {L R1 R2 : List HP} {H : CH} {p m : Nat} {th : Int} {M : Mem} {K : KP} (hs : Sat L H) (hm : Pull L (RefP m M) R1) (hp : Pull R1 (Own p (d13 kind sn s sc w v (t13 h st er nf nv dn))) R2)
    (hk0 : eqZ kind (Int.ofNat 0) = false) (hk2 : eqZ kind (Int.ofNat 2) = false) (ht : M.tr.length < 1000000000) (hb : M.Bd) (hh : s.h < 18446744073709551616) (hat : s.at_ < 2)
    (k : ∀ H1 b, b = eqZ (Int.ofNat (s.step M th).1.at_) (Int.ofNat 2) → Sat (Own p (d13 kind sn (s.step M th).1 sc w v (t13 h st (iN (s.step M th).1.err) nf nv (.bool b))) :: RefP m (s.step M th).2 :: R2) H1 → K (.bool b) H1) :
    Call1 Tryz.prog con 92 [ptr p 0, ptr m 0, i64 th] H K := by
  refine call_of (hc _ _ _ rfl) ?_
  rw [rProcStep13_W]
  have hs0 := hs.takes (.cons hm (.cons hp .nil))
  simp only [List.cons_append, List.nil_append] at hs0
  clear hs hm hp
  repeat (refine gO ?_; intros)
  refine Cd.f hk0 ?_
  repeat (refine gO ?_; intros)
  refine Cd.f hk2 ?_
  repeat (refine gO ?_; intros)
  replace hs0 : Sat (RefP m M :: Own p (pre13 (c13 kind sn) (dlC s ++ (dscC sc w v ++ t13 h st er nf nv dn))) :: R2) H := hs0
  refine rLetStep_ok hc s hs0 pp pp ht hb hh hat fun H4 h4 => ?_
  replace h4 : Sat (Own p (d13 kind sn (s.step M th).1 sc w v (t13 h st er nf nv dn)) :: RefP m (s.step M th).2 :: R2) H4 := h4
  clear hs0
  generalize eqZ (Int.ofNat (s.step M th).1.at_) (Int.ofNat 2) = b at *
  generalize (s.step M th).1 = s' at *
  repeat (refine gO ?_; intros)
  exact k _ b rfl (Sat.ent (by assumption) ee)
def c23 (kind : Int) (sn : SnapS) (lt : LetS) (i : Nat) : Value := ((i64 kind :: (dsC sn ++ dlC lt))[i]?).getD snil
end Go.Proofs.YtocphcgcpjcfjaaGreat

set_option linter.unusedVariables false
set_option linter.unusedSimpArgs false
namespace Go.Proofs.YtocphcgcpjcfjaaGreat
open Go Go.CM
attribute [local irreducible] AsBool AsWant AsNat AsInt AsCnt AsPtr AsSlc AsLen AsStr AsAgg AsTup AsFn AsIfc Nth Sc NotNil IsNil Must Cd codeW funW Sat SatL wrapN subM mkRow ltZ leZ ltN leN
variable {con : CallT}
def scan0 (sl : SlotsS) : ScanS := ⟨sl, 0, 0, 0, [], []⟩
def z13 : List Value := t13 (u64 0) (u64 0) (iN 0) (u64 0) snil (.bool false)
def bh (kind : Int) (h : Nat) (hd : List Nat) : Nat := if ltZ kind (Int.ofNat 0) || ltZ (Int.ofNat 2) kind then hd.getD h 0 else h
set_option maxRecDepth 100000 in
theorem rBegin13_ok (hc : Con con lives) (sl : SlotsS) {kind : Int} {h et : Nat} {v : Value} {rows : List (List Value)} {hd : List Nat} {L : List HP} {H : CH} {K : KP} (hs : Sat L H) (hv : Has L (Vec v et 6 rows)) (hl : rows.length ≤ 1000000000) (hln : hd.length = rows.length)
    (hr : ∀ (i : Nat) row x, rows[i]? = some row → hd[i]? = some x → row[0]? = some (u64 x))
    (k : ∀ p H1, Sat (Own p (d13 kind (snap0 sl) (let0 sl (bh kind h hd)) (scan0 sl) snil snil z13) :: L) H1 → K (ptr p 0) H1) : Call1 Tryz.prog con 91 [.agg ⟨[u64 sl.cam, u64 sl.first, i64 sl.count, u64 sl.most]⟩, .agg ⟨[i64 kind, u64 h]⟩, v] H K := by
  refine call_of (hc _ _ _ rfl) ?_
  rw [rBegin13_W]
  obtain ⟨pv, ev⟩ := (hs.has hv).shape
  subst ev
  repeat (refine gO ?_; intros)
  cases hk : ltZ kind (Int.ofNat 0) with
  | true =>
    refine Cd.t rfl ?_
    have hkk : (ltZ kind (Int.ofNat 0) || ltZ (Int.ofNat 2) kind) = true := by rw [hk]; rfl
    repeat (refine gO ?_; intros)
    refine Must.mk (cv_small (by omega)) ?_
    rw [wrapN_small (by omega)]
    repeat (refine gO ?_; intros)
    by_cases hlt : h < rows.length
    · refine Cd.t (ltN_t hlt) ?_
      obtain ⟨row, hrow⟩ : ∃ row, rows[h]? = some row := ⟨_, List.getElem?_eq_getElem hlt⟩
      obtain ⟨x, hx⟩ : ∃ x, hd[h]? = some x := ⟨_, List.getElem?_eq_getElem (by omega)⟩
      obtain ⟨bv, ev, _⟩ := (hs.has hv).slot hrow
      injection ev with ev _ _
      subst ev
      repeat (refine gO ?_; intros)
      refine Must.mk (ltN_t hlt) ?_
      refine ldVec (by assumption) (Has.skip (Has.skip hv)) rfl hrow (j := 0) (by show 0 + h * 6 + 0 = _; omega) (by omega) (hr h row x hrow hx) ?_
      have e : bh kind h hd = x := by
        unfold bh
        rw [hkk, if_pos rfl, List.getD_eq_getElem?_getD, hx]; rfl
      rw [e] at k
      repeat (refine gO ?_; intros)
      exact k _ _ (Sat.ent (by assumption) ee)
    · refine Cd.f (ltN_f (by omega)) ?_
      have e : bh kind h hd = 0 := by
        unfold bh
        rw [hkk, if_pos rfl, List.getD_eq_getElem?_getD, List.getElem?_eq_none (by omega)]; rfl
      rw [e] at k
      repeat (refine gO ?_; intros)
      exact k _ _ (Sat.ent (by assumption) ee)
  | false =>
    refine Cd.f rfl ?_
    repeat (refine gO ?_; intros)
    cases hk2 : ltZ (Int.ofNat 2) kind with
    | true =>
      have hkk : (ltZ kind (Int.ofNat 0) || ltZ (Int.ofNat 2) kind) = true := by rw [hk2, Bool.or_true]
      refine Cd.t rfl ?_
      repeat (refine gO ?_; intros)
      refine Must.mk (cv_small (by omega)) ?_
      rw [wrapN_small (by omega)]
      repeat (refine gO ?_; intros)
      by_cases hlt : h < rows.length
      · refine Cd.t (ltN_t hlt) ?_
        obtain ⟨row, hrow⟩ : ∃ row, rows[h]? = some row := ⟨_, List.getElem?_eq_getElem hlt⟩
        obtain ⟨x, hx⟩ : ∃ x, hd[h]? = some x := ⟨_, List.getElem?_eq_getElem (by omega)⟩
        obtain ⟨bv, ev, _⟩ := (hs.has hv).slot hrow
        injection ev with ev _ _
        subst ev
        repeat (refine gO ?_; intros)
        refine Must.mk (ltN_t hlt) ?_
        refine ldVec (by assumption) (Has.skip (Has.skip hv)) rfl hrow (j := 0) (by show 0 + h * 6 + 0 = _; omega) (by omega) (hr h row x hrow hx) ?_
        have e : bh kind h hd = x := by
          unfold bh
          rw [hkk, if_pos rfl, List.getD_eq_getElem?_getD, hx]; rfl
        rw [e] at k
        repeat (refine gO ?_; intros)
        exact k _ _ (Sat.ent (by assumption) ee)
      · refine Cd.f (ltN_f (by omega)) ?_
        have e : bh kind h hd = 0 := by
          unfold bh
          rw [hkk, if_pos rfl, List.getD_eq_getElem?_getD, List.getElem?_eq_none (by omega)]; rfl
        rw [e] at k
        repeat (refine gO ?_; intros)
        exact k _ _ (Sat.ent (by assumption) ee)
    | false =>
      refine Cd.f rfl ?_
      repeat (refine gO ?_; intros)
      have e : bh kind h hd = h := by
        unfold bh
        rw [hk, hk2]; rfl
      rw [e] at k
      exact k _ _ (Sat.ent (by assumption) ee)
end Go.Proofs.YtocphcgcpjcfjaaGreat

set_option linter.unusedVariables false
set_option linter.unusedSimpArgs false
namespace Go.Proofs.YtocphcgcpjcfjaaGreat
open Go Go.CM
attribute [local irreducible] AsBool AsWant AsNat AsInt AsCnt AsPtr AsSlc AsLen AsStr AsAgg AsTup AsFn AsIfc Nth Sc NotNil IsNil Must Cd codeW funW Sat SatL wrapN subM mkRow ltZ leZ ltN leN
variable {con : CallT}
end Go.Proofs.YtocphcgcpjcfjaaGreat

set_option linter.unusedVariables false
set_option linter.unusedSimpArgs false
namespace Go.Proofs.YtocphcgcpjcfjaaGreat
open Go Go.CM
theorem Same.agg4 {k1 k2 k3 k4 : IntKind} {a b c d : Int} {K : Prop} (h : K) : Same (.agg ⟨[.int k1 a, .int k2 b, .int k3 c, .int k4 d]⟩) (.agg ⟨[.int k1 a, .int k2 b, .int k3 c, .int k4 d]⟩) K := ⟨Must.mk (by simp [veq, veqL]) h⟩
instance {k1 k2 k3 k4 : IntKind} {a b c d : Int} {K : Prop} : Stp (Same (.agg ⟨[.int k1 a, .int k2 b, .int k3 c, .int k4 d]⟩) (.agg ⟨[.int k1 a, .int k2 b, .int k3 c, .int k4 d]⟩) K) K := ⟨Same.agg4⟩
attribute [local irreducible] AsBool AsWant AsNat AsInt AsCnt AsPtr AsSlc AsLen AsStr AsAgg AsTup AsFn AsIfc Nth Sc NotNil IsNil Must Cd codeW funW Sat SatL wrapN subM mkRow ltZ leZ ltN leN
variable {con : CallT}
end Go.Proofs.YtocphcgcpjcfjaaGreat

set_option linter.unusedVariables false
set_option linter.unusedSimpArgs false
namespace Go.Proofs.YtocphcgcpjcfjaaGreat
open Go Go.CM
attribute [local irreducible] AsBool AsWant AsNat AsInt AsCnt AsPtr AsSlc AsLen AsStr AsAgg AsTup AsFn AsIfc Nth Sc NotNil IsNil Must Cd codeW funW Sat SatL wrapN subM mkRow ltZ leZ ltN leN
variable {con : CallT}
end Go.Proofs.YtocphcgcpjcfjaaGreat

set_option linter.unusedVariables false
set_option linter.unusedSimpArgs false
namespace Go.Proofs.YtocphcgcpjcfjaaGreat
open Go Go.CM
attribute [local irreducible] AsBool AsWant AsNat AsInt AsCnt AsPtr AsSlc AsLen AsStr AsAgg AsTup AsFn AsIfc Nth Sc NotNil IsNil Must Cd codeW funW Sat SatL wrapN subM mkRow ltZ leZ ltN leN
variable {con : CallT}
set_option maxRecDepth 100000
end Go.Proofs.YtocphcgcpjcfjaaGreat

set_option linter.unusedVariables false
set_option linter.unusedSimpArgs false
namespace Go.Proofs.YtocphcgcpjcfjaaGreat
open Go Go.CM
attribute [local irreducible] AsBool AsWant AsNat AsInt AsCnt AsPtr AsSlc AsLen AsStr AsAgg AsTup AsFn AsIfc Nth Sc NotNil IsNil Must Cd codeW funW Sat SatL wrapN subM mkRow ltZ leZ ltN leN
variable {con : CallT}
theorem qld (M : Mem) (th : Int) (a : Nat) : (M.load th a).tr.length = M.tr.length + 1 := by simp [Mem.load, Mem.note]
theorem qst (M : Mem) (th : Int) (a x : Nat) : (M.store th a x).tr.length = M.tr.length + 1 := by simp [Mem.store, Mem.note, Mem.put]
theorem qcs (M : Mem) (th : Int) (a x y : Nat) : (M.cas th a x y).tr.length = M.tr.length + 1 := by
  simp only [Mem.cas, Mem.note]
  split <;> simp [Mem.put]
structure Fine (M : Mem) : Prop where
  bd : M.Bd
  vals : ∀ a ∈ M.tr, a.vals.length ≤ 1000000000
theorem fine_note {M : Mem} {c : Acs} (h : ∀ a ∈ M.tr, a.vals.length ≤ 1000000000) (hc : c.vals.length ≤ 1000000000) : ∀ a ∈ (M.note c).tr, a.vals.length ≤ 1000000000 := fun a ha => by
  simp only [Mem.note, List.mem_append, List.mem_singleton] at ha
  rcases ha with ha | rfl
  · exact h a ha
  · exact hc
structure Nxt (M M' : Mem) : Prop where
  fine : Fine M → Fine M'
  tr : M'.tr.length ≤ M.tr.length + 1
  lo : M.tr.length ≤ M'.tr.length
theorem Nxt.refl (M : Mem) : Nxt M M := ⟨id, Nat.le_succ _, Nat.le_refl _⟩
theorem Nxt.load (M : Mem) (th : Int) (a : Nat) : Nxt M (M.load th a) := ⟨fun h => ⟨h.bd.load th a, fine_note h.vals (by simp [accLd])⟩, by rw [qld]; omega, by rw [qld]; omega⟩
theorem Nxt.store (M : Mem) (th : Int) (a : Nat) {x : Nat} (hx : x < 18446744073709551616) : Nxt M (M.store th a x) := ⟨fun h => ⟨h.bd.store th a hx, fine_note (M := M.put a x) h.vals (by simp [accSt])⟩, by rw [qst]; omega, by rw [qst]; omega⟩
theorem Nxt.cas (M : Mem) (th : Int) (a x : Nat) {y : Nat} (hy : y < 18446744073709551616) : Nxt M (M.cas th a x y) := ⟨fun h => ⟨h.bd.cas th a x hy, by
  unfold Mem.cas
  split
  · exact fine_note (M := M.put a y) h.vals (by simp [accCas])
  · exact fine_note h.vals (by simp [accCas])⟩, by rw [qcs]; omega, by rw [qcs]; omega⟩
theorem addM_lt (a b : Nat) : addM a b < 18446744073709551616 := Nat.mod_lt _ (by omega)
theorem snap_nxt (s : SnapS) (M : Mem) (th : Int) : Nxt M (s.step M th).2 := by
  unfold SnapS.step
  split
  · split
    · exact .refl M
    · exact .load M th _
  · exact .cas M th _ _ (slotW_lt ..)
  · exact .load M th _
  · exact .store M th _ (slotW_lt ..)
  · exact .load M th _
  · exact .cas M th _ _ (addM_lt ..)
  · exact .store M th _ (slotW_lt ..)
  · exact .store M th _ (slotW_lt ..)
theorem let_nxt (s : LetS) (M : Mem) (th : Int) : Nxt M (s.step M th).2 := by
  unfold LetS.step
  split
  · split
    · exact .load M th _
    · exact .refl M
  · exact .cas M th _ _ (slotW_lt ..)
theorem scan_nxt (s : ScanS) (M : Mem) (th : Int) : Nxt M (s.step M th).2 := by
  unfold ScanS.step
  split
  · exact .load M th _
  · exact .load M th _
def SnapS.rem (s : SnapS) : Nat := match s.at_ with | 0 => 2 * (cnt s.sl.count - s.i) + 8 | 1 => 2 * (cnt s.sl.count - s.i) + 7 | a => 8 - a
theorem genW_lt (w : Nat) : genW w < 1048576 := by unfold genW; omega
theorem snap_step (s : SnapS) (M : Mem) (th : Int) (h : s.Ok) : ((s.step M th).1.at_ ≠ 8 → (s.step M th).1.Ok) ∧ (s.step M th).1.at_ ≤ 8 ∧ (s.step M th).1.rem < s.rem ∧ ((s.step M th).1.ok = true → (s.step M th).1.i < 256 ∧ (s.step M th).1.gen < 1048576) ∧ (s.step M th).1.sl = s.sl := by
  obtain ⟨sl, at_, i, w, gen, t, ok, err⟩ := s
  obtain ⟨h1, h2, h3, h4, h5⟩ := h
  simp only at h1 h2 h3 h4 h5
  subst h2 h3
  have hc := cnt_le sl.count
  have hg := genW_lt (M.peek (addM sl.first i))
  rcases (by omega : at_ = 0 ∨ at_ = 1 ∨ at_ = 2 ∨ at_ = 3 ∨ at_ = 4 ∨ at_ = 5 ∨ at_ = 6 ∨ at_ = 7) with rfl | rfl | rfl | rfl | rfl | rfl | rfl | rfl
  · simp only [SnapS.step, SnapS.on, SnapS.cell]
    by_cases hz : cnt sl.count = 0
    · simp only [if_pos hz]; simp [SnapS.Ok, SnapS.rem] <;> omega
    · simp only [if_neg hz]
      by_cases hk : kindW (M.peek (addM sl.first i)) = 0
      · by_cases hgg : 1048575 ≤ genW (M.peek (addM sl.first i))
        · simp only [hgg, or_true, if_true]
          by_cases hi : i + 1 < cnt sl.count
          · simp only [if_pos hi]; simp [SnapS.Ok, SnapS.rem] <;> omega
          · simp only [if_neg hi]; simp [SnapS.Ok, SnapS.rem] <;> omega
        · simp only [hk, hgg, ne_eq, not_true_eq_false, or_false, if_false]; simp [SnapS.Ok, SnapS.rem] <;> omega
      · simp only [hk, ne_eq, not_false_eq_true, true_or, if_true]
        by_cases hi : i + 1 < cnt sl.count
        · simp only [if_pos hi]; simp [SnapS.Ok, SnapS.rem] <;> omega
        · simp only [if_neg hi]; simp [SnapS.Ok, SnapS.rem] <;> omega
  · simp only [SnapS.step, SnapS.on, SnapS.cell]
    cases M.swaps (addM sl.first i) w with
    | true => simp [SnapS.Ok, SnapS.rem] <;> omega
    | false =>
      simp only [Bool.false_eq_true, if_false]
      by_cases hi : i + 1 < cnt sl.count
      · simp only [if_pos hi]; simp [SnapS.Ok, SnapS.rem] <;> omega
      · simp only [if_neg hi]; simp [SnapS.Ok, SnapS.rem] <;> omega
  · simp only [SnapS.step]; simp [SnapS.Ok, SnapS.rem] <;> omega
  · simp only [SnapS.step]; simp [SnapS.Ok, SnapS.rem] <;> omega
  · simp only [SnapS.step]
    by_cases hm : sl.most ≤ M.peek sl.cam
    · simp only [if_pos hm]; simp [SnapS.Ok, SnapS.rem] <;> omega
    · simp only [if_neg hm]; simp [SnapS.Ok, SnapS.rem] <;> omega
  · simp only [SnapS.step]; simp [SnapS.Ok, SnapS.rem] <;> omega
  · simp only [SnapS.step]; simp [SnapS.Ok, SnapS.rem] <;> omega
  · simp only [SnapS.step]; simp [SnapS.Ok, SnapS.rem] <;> omega
def LetS.rem (s : LetS) : Nat := 2 - s.at_
theorem let_step (s : LetS) (M : Mem) (th : Int) (h : s.at_ < 2) : (s.step M th).1.at_ ≤ 2 ∧ (s.step M th).1.rem < s.rem ∧ (s.step M th).1.h = s.h ∧ (s.step M th).1.sl = s.sl := by
  obtain ⟨sl, h', at_, slot, w, gen, err⟩ := s
  simp only at h
  rcases (by omega : at_ = 0 ∨ at_ = 1) with rfl | rfl <;> simp only [LetS.step] <;> (repeat' split) <;> simp [LetS.rem]
theorem insU_le (x : Nat) : ∀ l : List Nat, (insU x l).length ≤ l.length + 1
  | [] => Nat.le_refl _
  | y :: r => by
    unfold insU
    split
    · simp
    · split
      · simp
      · have := insU_le x r; simp only [List.length_cons]; omega
theorem rise_le (b : Nat) : ∀ l : List Nat, (rise l b).length ≤ l.length
  | [] => Nat.le_refl _
  | x :: l => by
    show (if x < b then insU x (rise l b) else rise l b).length ≤ _
    have h1 := rise_le b l
    have h2 := insU_le x (rise l b)
    simp only [List.length_cons]
    split <;> omega
def ScanS.Ok (s : ScanS) : Prop := s.at_ < 2 ∧ s.i ≤ 256 ∧ (s.at_ = 1 → s.i < cnt s.sl.count) ∧ s.told.length ≤ s.i ∧ s.need = []
def ScanS.rem (s : ScanS) : Nat := match s.at_ with | 0 => cnt s.sl.count - s.i + 1 | 1 => cnt s.sl.count - s.i | _ => 0
theorem scan_step (s : ScanS) (M : Mem) (th : Int) (h : s.Ok) : ((s.step M th).1.at_ ≠ 2 → (s.step M th).1.Ok) ∧ (s.step M th).1.at_ ≤ 2 ∧ (s.step M th).1.at_ ≠ 0 ∧ (s.step M th).1.rem < s.rem ∧ (s.step M th).1.need.length ≤ 256 ∧ (s.step M th).1.sl = s.sl := by
  obtain ⟨sl, at_, i, fl, told, need⟩ := s
  obtain ⟨h1, h2, h3, h4, h5⟩ := h
  simp only at h1 h2 h3 h4 h5
  subst h5
  have hc := cnt_le sl.count
  rcases (by omega : at_ = 0 ∨ at_ = 1) with rfl | rfl
  · simp only [ScanS.step, ScanS.fin]
    have := rise_le (M.peek sl.cam) told
    split <;> simp [ScanS.Ok, ScanS.rem] <;> omega
  · have h6 := h3 rfl
    simp only [ScanS.step, ScanS.fin]
    by_cases h3 : kindW (M.peek (addM sl.first i)) = 3
    · simp only [if_pos h3]
      rw [if_neg (show ¬ kindW (M.peek (addM sl.first i)) = 2 by omega)]
      have := rise_le fl (told ++ [stampW (M.peek (addM sl.first i))])
      rw [List.length_append] at this
      simp only [List.length_cons, List.length_nil] at this
      split <;> simp [ScanS.Ok, ScanS.rem] <;> omega
    · simp only [if_neg h3]
      by_cases h2 : kindW (M.peek (addM sl.first i)) = 2
      · simp only [if_pos h2]
        have := rise_le (Nat.min fl (stampW (M.peek (addM sl.first i)))) told
        split <;> simp [ScanS.Ok, ScanS.rem] <;> omega
      · simp only [if_neg h2]
        have := rise_le fl told
        split <;> simp [ScanS.Ok, ScanS.rem] <;> omega
structure P13 where
  kind : Int
  sn : SnapS
  lt : LetS
  sc : ScanS
def P13.isS (s : P13) : Bool := eqZ s.kind (Int.ofNat 0)
def P13.isN (s : P13) : Bool := eqZ s.kind (Int.ofNat 2)
noncomputable def P13.step (s : P13) (M : Mem) (th : Int) : P13 × Mem :=
  bif s.isS then ({ s with sn := (s.sn.step M th).1 }, (s.sn.step M th).2)
  else bif s.isN then ({ s with sc := (s.sc.step M th).1 }, (s.sc.step M th).2)
  else ({ s with lt := (s.lt.step M th).1 }, (s.lt.step M th).2)
def P13.fin (s : P13) : Bool :=
  bif s.isS then eqZ (Int.ofNat s.sn.at_) (Int.ofNat 8) else bif s.isN then eqZ (Int.ofNat s.sc.at_) (Int.ofNat 2) else eqZ (Int.ofNat s.lt.at_) (Int.ofNat 2)
def P13.rem (s : P13) : Nat := bif s.isS then s.sn.rem else bif s.isN then s.sc.rem else s.lt.rem
structure T13 where
  h : Nat
  st : Nat
  er : Nat
  fl : Nat
  need : List Nat
def P13.told (s : P13) : T13 :=
  bif s.isS then ⟨s.sn.handle, s.sn.stamp, s.sn.err, 0, []⟩ else bif s.isN then ⟨0, 0, 0, if s.sc.at_ = 2 then s.sc.fl else 0, s.sc.need⟩ else ⟨0, 0, s.lt.err, 0, []⟩
structure P13.Ok (s : P13) : Prop where
  sn : s.isS = true → s.sn.Ok
  sc : s.isS = false → s.isN = true → s.sc.Ok
  lt : s.isS = false → s.isN = false → s.lt.at_ < 2 ∧ s.lt.h < 18446744073709551616
structure P13.Tl (s : P13) : Prop where
  sn : s.isS = true → s.sn.ok = true → s.sn.i < 256 ∧ s.sn.gen < 1048576
  sc : s.isN = true → s.sc.need.length ≤ 256 ∧ (s.sc.at_ ≠ 2 → s.sc.need = [])
  no : s.isN = false → s.sc.need = []
def P13.fresh (sl : SlotsS) (kind : Int) (h : Nat) : P13 := ⟨kind, snap0 sl, let0 sl h, scan0 sl⟩
theorem p13_isS {s : P13} (h : s.isS = true) : s.kind = Int.ofNat 0 := of_decide_eq_true h
theorem p13_not {s : P13} (h : s.isS = true) : s.isN = false := by
  unfold P13.isN
  rw [p13_isS h]; rfl
theorem p13_stepS {s : P13} (h : s.isS = true) (M : Mem) (th : Int) : s.step M th = ({ s with sn := (s.sn.step M th).1 }, (s.sn.step M th).2) := by unfold P13.step; rw [h]; rfl
theorem p13_stepN {s : P13} (h0 : s.isS = false) (h : s.isN = true) (M : Mem) (th : Int) : s.step M th = ({ s with sc := (s.sc.step M th).1 }, (s.sc.step M th).2) := by unfold P13.step; rw [h0, h]; rfl
theorem p13_stepL {s : P13} (h0 : s.isS = false) (h : s.isN = false) (M : Mem) (th : Int) : s.step M th = ({ s with lt := (s.lt.step M th).1 }, (s.lt.step M th).2) := by unfold P13.step; rw [h0, h]; rfl
theorem p13_finS {s : P13} (h : s.isS = true) : s.fin = eqZ (Int.ofNat s.sn.at_) (Int.ofNat 8) := by unfold P13.fin; rw [h]; rfl
theorem p13_finN {s : P13} (h0 : s.isS = false) (h : s.isN = true) : s.fin = eqZ (Int.ofNat s.sc.at_) (Int.ofNat 2) := by unfold P13.fin; rw [h0, h]; rfl
theorem p13_finL {s : P13} (h0 : s.isS = false) (h : s.isN = false) : s.fin = eqZ (Int.ofNat s.lt.at_) (Int.ofNat 2) := by unfold P13.fin; rw [h0, h]; rfl
theorem p13_toldS {s : P13} (h : s.isS = true) : s.told = ⟨s.sn.handle, s.sn.stamp, s.sn.err, 0, []⟩ := by unfold P13.told; rw [h]; rfl
theorem p13_toldL {s : P13} (h0 : s.isS = false) (h : s.isN = false) : s.told = ⟨0, 0, s.lt.err, 0, []⟩ := by unfold P13.told; rw [h0, h]; rfl
theorem p13_nxt (s : P13) (M : Mem) (th : Int) : Nxt M (s.step M th).2 := by
  cases h0 : s.isS with
  | true => rw [p13_stepS h0]; exact snap_nxt s.sn M th
  | false =>
    cases h2 : s.isN with
    | true => rw [p13_stepN h0 h2]; exact scan_nxt s.sc M th
    | false => rw [p13_stepL h0 h2]; exact let_nxt s.lt M th
theorem p13_kind (s : P13) (M : Mem) (th : Int) : (s.step M th).1.kind = s.kind := by
  unfold P13.step
  cases s.isS with
  | true => rfl
  | false => cases s.isN <;> rfl
theorem eqZ_ne {a b : Nat} (h : eqZ (Int.ofNat a) (Int.ofNat b) = false) : a ≠ b := fun e => by rw [eqZ_t e] at h; cases h
theorem p13_step (s : P13) (M : Mem) (th : Int) (h : s.Ok) (ht : s.Tl) : ((s.step M th).1.fin = false → (s.step M th).1.Ok) ∧ (s.step M th).1.Tl ∧ (s.step M th).1.rem < s.rem := by
  cases h0 : s.isS with
  | true =>
    have hn : s.isN = false := p13_not h0
    obtain ⟨g1, g2, g3, g4, g5⟩ := snap_step s.sn M th (h.sn h0)
    rw [p13_stepS h0]
    generalize (s.sn.step M th).1 = x at *
    have i0 : P13.isS { s with sn := x } = true := h0
    refine ⟨fun hf => ⟨fun _ => g1 (eqZ_ne ((p13_finS i0).symm.trans hf)), fun q _ => (by rw [i0] at q; cases q), fun q _ => (by rw [i0] at q; cases q)⟩, ⟨fun _ => g4, fun q => ht.sc q, fun q => ht.no q⟩, ?_⟩
    show (bif P13.isS { s with sn := x } then x.rem else _) < (bif s.isS then s.sn.rem else _)
    rw [i0, h0]; exact g3
  | false =>
    cases h2 : s.isN with
    | true =>
      obtain ⟨g1, g2, g3, g4, g5, g6⟩ := scan_step s.sc M th (h.sc h0 h2)
      rw [p13_stepN h0 h2]
      generalize (s.sc.step M th).1 = x at *
      have i0 : P13.isS { s with sc := x } = false := h0
      have i2 : P13.isN { s with sc := x } = true := h2
      refine ⟨fun hf => ⟨fun q => (by rw [i0] at q; cases q), fun _ _ => g1 (eqZ_ne ((p13_finN i0 i2).symm.trans hf)), fun _ q => (by rw [i2] at q; cases q)⟩, ⟨fun q => (by rw [i0] at q; cases q), fun _ => ⟨g5, fun q => (g1 q).2.2.2.2⟩, fun q => (by rw [i2] at q; cases q)⟩, ?_⟩
      show (bif P13.isS { s with sc := x } then s.sn.rem else bif P13.isN { s with sc := x } then x.rem else _) < (bif s.isS then s.sn.rem else bif s.isN then s.sc.rem else _)
      rw [i0, h0, i2, h2]; exact g4
    | false =>
      obtain ⟨g1, g2, g3, g4⟩ := let_step s.lt M th (h.lt h0 h2).1
      have g5 := (h.lt h0 h2).2
      rw [p13_stepL h0 h2]
      generalize (s.lt.step M th).1 = x at *
      have i0 : P13.isS { s with lt := x } = false := h0
      have i2 : P13.isN { s with lt := x } = false := h2
      refine ⟨fun hf => ⟨fun q => (by rw [i0] at q; cases q), fun _ q => (by rw [i2] at q; cases q), fun _ _ => ⟨?_, by show x.h < _; rw [g3]; exact g5⟩⟩, ⟨fun q => (by rw [i0] at q; cases q), fun q => (by rw [i2] at q; cases q), fun q => ht.no h2⟩, ?_⟩
      · have := eqZ_ne ((p13_finL i0 i2).symm.trans hf)
        show x.at_ < 2
        have : x.at_ ≠ 2 := this
        omega
      · show (bif P13.isS { s with lt := x } then s.sn.rem else bif P13.isN { s with lt := x } then s.sc.rem else x.rem) < (bif s.isS then s.sn.rem else bif s.isN then s.sc.rem else s.lt.rem)
        rw [i0, h0, i2, h2]; exact g2
theorem p13_fresh (sl : SlotsS) (kind : Int) {h : Nat} (hh : h < 18446744073709551616) : (P13.fresh sl kind h).Ok ∧ (P13.fresh sl kind h).Tl ∧ (P13.fresh sl kind h).rem ≤ 520 ∧ (P13.fresh sl kind h).fin = false := by
  have hc := cnt_le sl.count
  refine ⟨⟨fun _ => ⟨by show 0 < 8; omega, rfl, rfl, by show 0 < 1048576; omega, by show 0 < 256; omega⟩, fun _ _ => ⟨by show 0 < 2; omega, by show 0 ≤ 256; omega, fun q => (by cases q), Nat.le_refl _, rfl⟩, fun _ _ => ⟨by show 0 < 2; omega, hh⟩⟩, ⟨fun _ q => (by cases q), fun _ => ⟨(by show 0 ≤ 256; omega), fun _ => rfl⟩, fun _ => rfl⟩, ?_, ?_⟩
  · unfold P13.rem
    cases (P13.fresh sl kind h).isS with
    | true => show 2 * (cnt sl.count - 0) + 8 ≤ 520; omega
    | false =>
      cases (P13.fresh sl kind h).isN with
      | true => show cnt sl.count - 0 + 1 ≤ 520; omega
      | false => show 2 - 0 ≤ 520; omega
  · unfold P13.fin
    cases (P13.fresh sl kind h).isS with
    | true => rfl
    | false => cases (P13.fresh sl kind h).isN <;> rfl
end Go.Proofs.YtocphcgcpjcfjaaGreat

set_option linter.unusedVariables false
set_option linter.unusedSimpArgs false
namespace Go.Proofs.YtocphcgcpjcfjaaGreat
open Go Go.CM
attribute [local irreducible] AsBool AsWant AsNat AsInt AsCnt AsPtr AsSlc AsLen AsStr AsAgg AsTup AsFn AsIfc Nth Sc NotNil IsNil Must Cd codeW funW Sat SatL wrapN subM mkRow ltZ leZ ltN leN
variable {con : CallT}
theorem vec_nil {x : Value} {e s : Nat} {h : PH} (a : Vec x e s [] h) : x = snil := by
  rcases a.2 with ⟨rfl, _⟩ | ⟨b, hb, _⟩
  · rfl
  · exact absurd rfl hb
def RAt13 (p : Nat) (s : P13) : HP := fun h => ∃ w v, SatL [Own p (d13 s.kind s.sn s.lt s.sc w v (t13 (u64 s.told.h) (u64 s.told.st) (iN s.told.er) (u64 s.told.fl) w (.bool s.fin))), Vec w tU 1 (rowsU s.sc.need), Vec v tU 1 (rowsU s.sc.told)] h
theorem rbegin13_ok (hc : Con con lives) (sl : SlotsS) {kind : Int} {h et : Nat} {v : Value} {rows : List (List Value)} {hd : List Nat} {L : List HP} {H : CH} {K : KP} (hs : Sat L H) (hv : Has L (Vec v et 6 rows)) (hl : rows.length ≤ 1000000000) (hln : hd.length = rows.length)
    (hr : ∀ (i : Nat) row x, rows[i]? = some row → hd[i]? = some x → row[0]? = some (u64 x))
    (k : ∀ p H1, Sat (RAt13 p (P13.fresh sl kind (bh kind h hd)) :: L) H1 → K (ptr p 0) H1) : Call1 Tryz.prog con 91 [.agg ⟨[u64 sl.cam, u64 sl.first, i64 sl.count, u64 sl.most]⟩, .agg ⟨[i64 kind, u64 h]⟩, v] H K := by
  refine rBegin13_ok hc sl hs hv hl hln hr fun p H1 h1 => k p H1 ?_
  have h2 := ((h1.nilV (e := tU) (s := 1)).nilV (e := tU) (s := 1))
  have h5 : Sat ([Own p (d13 kind (snap0 sl) (let0 sl (bh kind h hd)) (scan0 sl) snil snil z13), Vec snil tU 1 [], Vec snil tU 1 []] ++ L) H1 := h2.ent ee
  refine h5.close fun g a => ⟨snil, snil, ?_⟩
  have e1 : (P13.fresh sl kind (bh kind h hd)).told = ⟨0, 0, 0, 0, []⟩ := by
    unfold P13.told
    cases (P13.fresh sl kind (bh kind h hd)).isS with
    | true => rfl
    | false => cases (P13.fresh sl kind (bh kind h hd)).isN <;> rfl
  have e2 : (P13.fresh sl kind (bh kind h hd)).fin = false := by
    unfold P13.fin
    cases (P13.fresh sl kind (bh kind h hd)).isS with
    | true => rfl
    | false => cases (P13.fresh sl kind (bh kind h hd)).isN <;> rfl
  rw [e1, e2]
  exact a
end Go.Proofs.YtocphcgcpjcfjaaGreat

set_option linter.unusedVariables false
set_option linter.unusedSimpArgs false
namespace Go.Proofs.YtocphcgcpjcfjaaGreat
open Go Go.CM
theorem Same.agg6 {h st er fl : Nat} {p : Option Addr} {l c : Nat} {b : Bool} {K : Prop} (k : K) : Same (.agg ⟨[u64 h, u64 st, iN er, u64 fl, .slice p l c, .bool b]⟩) (.agg ⟨[u64 h, u64 st, iN er, u64 fl, .slice p l c, .bool b]⟩) K := ⟨Must.mk (by simp [veq, veqL]) k⟩
instance {h st er fl : Nat} {p : Option Addr} {l c : Nat} {b : Bool} {K : Prop} : Stp (Same (.agg ⟨[u64 h, u64 st, iN er, u64 fl, .slice p l c, .bool b]⟩) (.agg ⟨[u64 h, u64 st, iN er, u64 fl, .slice p l c, .bool b]⟩) K) K := ⟨Same.agg6⟩
attribute [local irreducible] AsBool AsWant AsNat AsInt AsCnt AsPtr AsSlc AsLen AsStr AsAgg AsTup AsFn AsIfc Nth Sc NotNil IsNil Must Cd codeW funW Sat SatL wrapN subM mkRow ltZ leZ ltN leN
variable {con : CallT}
def Hds (rows : List (List Value)) (hd : List Nat) : Prop := hd.length = rows.length ∧ (∀ (i : Nat) row x, rows[i]? = some row → hd[i]? = some x → row[0]? = some (u64 x)) ∧ ∀ x ∈ hd, x < 18446744073709551616
theorem Hds.nil : Hds [] [] := ⟨rfl, fun i row x h => by simp at h, fun x h => nomatch h⟩
theorem Hds.snoc {rows : List (List Value)} {hd : List Nat} (h : Hds rows hd) {x : Nat} {r : List Value} (hr : r[0]? = some (u64 x)) (hx : x < 18446744073709551616) : Hds (rows ++ [r]) (hd ++ [x]) := by
  obtain ⟨h1, h2, h3⟩ := h
  refine ⟨by simp [h1], fun i row y hi hy => ?_, fun y hy => ?_⟩
  · by_cases hl : i < rows.length
    · rw [List.getElem?_append_left hl] at hi
      rw [List.getElem?_append_left (by omega)] at hy
      exact h2 i row y hi hy
    · rw [List.getElem?_append_right (by omega)] at hi hy
      rw [h1] at hy
      cases e : i - rows.length with
      | zero => rw [e] at hi hy; cases hi; cases hy; exact hr
      | succ k => rw [e] at hi; simp at hi
  · rcases List.mem_append.1 hy with h | h
    · exact h3 y h
    · rw [List.mem_singleton.1 h]; exact hx
theorem bh_lt {kind : Int} {h : Nat} {hd : List Nat} (h1 : h < 18446744073709551616) (h2 : ∀ x ∈ hd, x < 18446744073709551616) : bh kind h hd < 18446744073709551616 := by
  unfold bh
  split
  · rw [List.getD_eq_getElem?_getD]
    cases e : hd[h]? with
    | none => simp
    | some x => exact h2 x (List.mem_of_getElem? e)
  · exact h1
theorem call_yes {f : FuncId} {args : List Value} {H : CH} {K : KP} {v : Value} (h : con f ⟨args⟩ H = some (v, H)) (k : K v H) : Call1 Tryz.prog con f args H K := ⟨⟨0, v, H, h, k⟩⟩
theorem fine0 (n : Nat) : Fine (mem0 n) := ⟨fun x hx => by
  have := List.eq_of_mem_replicate hx
  omega, fun a ha => nomatch ha⟩
end Go.Proofs.YtocphcgcpjcfjaaGreat

