/- What the functions do to the memories and procs that they are given: their contracts. The conditions stand in each. -/
import Derived.Test.YtipbbnoepphdkaaGreatDec
import Derived.Test.YtipbbnoepphdkaaGreatDecA
import Derived.Test.YtipbbnoepphdkaaGreatCmF
import Derived.Sort.AssemblyPlain
set_option linter.unusedVariables false
set_option linter.unusedSimpArgs false

set_option linter.unusedVariables false
set_option linter.unusedSimpArgs false
namespace Go.Proofs.YtipbbnoepphdkaaGreat
open Go Go.CM
abbrev lives : List Nat := [8, 28]
abbrev tPl : Nat := 147
abbrev tA : Nat := 161
abbrev tU : Nat := 32
abbrev tAS : Nat := 55
abbrev tUS : Nat := 36
abbrev MemP (m : Nat) (M : Mem) : HP := MemAt tPl tA tU m M
abbrev RefP (m : Nat) (M : Mem) : HP := RefAt tA tU m M
attribute [local irreducible] AsBool AsWant AsNat AsInt AsCnt AsPtr AsSlc AsLen AsStr AsAgg AsTup AsFn AsIfc Nth Sc NotNil IsNil Must Cd codeW funW Sat SatL wrapN subM mkRow ltZ leZ ltN leN
variable {con : CallT}
theorem el_acc : elemOk Tryz.prog tAS tA 8 80 = true := by kernel_rfl
theorem el_u64 : elemOk Tryz.prog tUS tU 1 8 = true := by kernel_rfl
theorem sl_acc : ∃ e, Tryz.prog.underlying tAS = some (.slice e) := ⟨tA, by kernel_rfl⟩
theorem sl_u64 : ∃ e, Tryz.prog.underlying tUS = some (.slice e) := ⟨tU, by kernel_rfl⟩
theorem off1 (a : Nat) : Nat.add 0 (Nat.mul a 1) = a := by show 0 + a * 1 = a; omega
theorem map_get (l : List Nat) {a : Nat} (h : a < l.length) : (l.map u64)[a]? = some (u64 (l.getD a 0)) := by
  rw [List.getElem?_map, List.getElem?_eq_getElem h, List.getD_eq_getElem?_getD, List.getElem?_eq_getElem h]; rfl
theorem plainSize_ok (hc : Con con lives) {L : List HP} {H : CH} {b x c n : Nat} {o : Nat} {f : Value} {K : KP} (hs : Sat L H) [HasCell L b [slc x o n c, f]] (k : K (iN n) H) : Call1 Tryz.prog con 211 [ptr b 0] H K := by
  refine call_of (hc _ _ _ rfl) ?_
  rw [plainSize_W]
  repeat (first | refine run ?_ | refine ct ?_ | refine cf ?_ | refine sk ?_ | refine la rfl ?_ | refine na fun _ _ _ => ?_ | refine sa rfl fun _ _ => ?_ | refine nk ?_ | refine mu ?_ | refine ac ?_ | refine ai ?_)
  exact k
theorem plainLoad_ok (hc : Con con lives) {L : List HP} {H : CH} {b x c n a : Nat} {f v : Value} {cs : List Value} {K : KP} (hs : Sat L H) [HasCell L b [slc x 0 n c, f]] [HasCell L x cs] (ha : a < n) (hv : cs[a]? = some v) (k : K v H) : Call1 Tryz.prog con 209 [ptr b 0, u64 a] H K := by
  refine call_of (hc _ _ _ rfl) ?_
  rw [plainLoad_W]
  repeat (first | refine run ?_ | refine ct ?_ | refine cf ?_ | refine sk ?_ | refine la rfl ?_ | refine na fun _ _ _ => ?_ | refine sa rfl fun _ _ => ?_ | refine nk ?_ | refine mu ?_ | refine ac ?_ | refine ai ?_)
  refine Must.mk (ltN_t ha) (ld hs (by rw [off1]; exact hv) k)
theorem plainStore_ok (hc : Con con lives) {L : List HP} {H : CH} {b x c n a y : Nat} {f : Value} {cs : List Value} {F : List Value → List HP} {K : KP} (hs : Sat L H) [HasCell L b [slc x 0 n c, f]] [HasObj L x cs F] (ha : a < n) (hn : n = cs.length) (k : ∀ H1, Sat (F (cs.set a (u64 y))) H1 → K unit H1) : Call1 Tryz.prog con 212 [ptr b 0, u64 a, u64 y] H K := by
  refine call_of (hc _ _ _ rfl) ?_
  rw [plainStore_W]
  repeat (first | refine run ?_ | refine ct ?_ | refine cf ?_ | refine sk ?_ | refine la rfl ?_ | refine na fun _ _ _ => ?_ | refine sa rfl fun _ _ => ?_ | refine nk ?_ | refine mu ?_ | refine ac ?_ | refine ai ?_)
  refine Must.mk (ltN_t ha) (st hs (by rw [off1]; omega) rfl fun H1 h => k H1 ?_)
  rw [off1] at h
  exact h
theorem memHas_ok (hc : Con con lives) {L R : List HP} {H : CH} {m a : Nat} {M : Mem} {K : KP} (hs : Sat L H) (hp : Pull L (MemP m M) R) (k : K (.bool (ltN a M.cells.length)) H) : Call1 Tryz.prog con 65 [ptr m 0, u64 a] H K := by
  refine call_of (hc _ _ _ rfl) ?_
  rw [memHas_W]
  obtain ⟨h1, h2, s1, s2, d, ⟨bp, bl, tr, ⟨hn, hf⟩, hin⟩, hR⟩ := hs.opens hp
  have hs1 := Sat.merge s1 s2 d hin hR
  simp only [List.cons_append, List.nil_append] at hs1
  repeat (first | refine run ?_ | refine ct ?_ | refine cf ?_ | refine sk ?_ | refine la rfl ?_ | refine na fun _ _ _ => ?_ | refine sa rfl fun _ _ => ?_ | refine nk ?_ | refine mu ?_ | refine ac ?_ | refine ai ?_)
  refine Mth.of (f := 211) (rc := ptr bp 0) (by kernel_rfl) (by kernel_rfl) ?_
  refine plainSize_ok hc hs1 ?_
  repeat (first | refine run ?_ | refine ct ?_ | refine cf ?_ | refine sk ?_ | refine la rfl ?_ | refine na fun _ _ _ => ?_ | refine sa rfl fun _ _ => ?_ | refine nk ?_ | refine mu ?_ | refine ac ?_ | refine ai ?_)
  refine Must.mk (cv_small (by omega)) ?_
  rw [wrapN_small (by omega)]
  exact k
theorem memPeek_ok (hc : Con con lives) {L R : List HP} {H : CH} {m a : Nat} {M : Mem} {K : KP} (hs : Sat L H) (hp : Pull L (MemP m M) R) (k : K (u64 (M.peek a)) H) : Call1 Tryz.prog con 48 [ptr m 0, u64 a] H K := by
  refine call_of (hc _ _ _ rfl) ?_
  rw [memPeek_W]
  refine memHas_ok hc hs hp ?_
  obtain ⟨h1, h2, s1, s2, d, ⟨bp, bl, tr, ⟨hn, hf⟩, hin⟩, hR⟩ := hs.opens hp
  have hs1 := Sat.merge s1 s2 d hin hR
  simp only [List.cons_append, List.nil_append] at hs1
  repeat (first | refine run ?_ | refine ct ?_ | refine cf ?_ | refine sk ?_ | refine la rfl ?_ | refine na fun _ _ _ => ?_ | refine sa rfl fun _ _ => ?_ | refine nk ?_ | refine mu ?_ | refine ac ?_ | refine ai ?_)
  by_cases h : a < M.cells.length
  · refine Cd.f (by rw [ltN_t h]; rfl) ?_
    repeat (first | refine run ?_ | refine ct ?_ | refine cf ?_ | refine sk ?_ | refine la rfl ?_ | refine na fun _ _ _ => ?_ | refine sa rfl fun _ _ => ?_ | refine nk ?_ | refine mu ?_ | refine ac ?_ | refine ai ?_)
    refine Mth.of (f := 209) (rc := ptr bp 0) (by kernel_rfl) (by kernel_rfl) ?_
    exact plainLoad_ok hc hs1 h (map_get _ h) k
  · refine Cd.t (by rw [ltN_f (by omega)]; rfl) ?_
    have e : M.peek a = 0 := by unfold Mem.peek; rw [List.getD_eq_getElem?_getD, List.getElem?_eq_none (by omega)]; rfl
    rw [e] at k
    exact k
theorem note_ok (hc : Con con lives) {L R1 R2 R3 : List HP} {H : CH} {p m n : Nat} {th : Int} {M : Mem} {v0 : Value} {c : Acs} {K : KP} (hs : Sat L H) (hm' : Pull L (MemP m M) R1) (hv : Pull R1 (ViewAt p m th n) R2) (hq : Pull R2 (Nums v0 c.vals) R3)
    (hn : n < 1000000000) (ht : M.tr.length < 1000000000) (hv0 : isCell v0 = true) (k : ∀ H1, Sat (MemP m (M.note { c with th := th }) :: ViewAt p m th (n + 1) :: R3) H1 → K unit H1) :
    Call1 Tryz.prog con 49 [ptr p 0, .agg ⟨[i64 (Int.ofNat 0), u8 c.kind, u64 c.a, u64 c.x, u64 c.y, v0, u64 c.got, .bool c.ok]⟩] H K := by
  refine call_of (hc _ _ _ rfl) ?_
  rw [viewNote_W]
  have hs0 := hs.takes (.cons hm' (.cons hv (.cons hq .nil)))
  simp only [List.cons_append, List.nil_append] at hs0
  obtain ⟨h1, h2, s1, s2, d, ⟨bp, bl, tr, ⟨hn1, hf⟩, hin⟩, hR⟩ := hs0.opens Pull.here
  have hs1 := Sat.merge s1 s2 d hin hR
  simp only [List.cons_append, List.nil_append] at hs1
  obtain ⟨g1, g2, t1, t2, d2, hT, _⟩ := hs1.opens (.there (.there (.there .here)))
  obtain ⟨q, rfl⟩ := hT.shape
  repeat (first | refine run ?_ | refine ct ?_ | refine cf ?_ | refine sk ?_ | refine la rfl ?_ | refine na fun _ _ _ => ?_ | refine sa rfl fun _ _ => ?_ | refine nk ?_ | refine mu ?_ | refine ac ?_ | refine ai ?_)
  refine inR_nat (n := n + 1) (by omega) ?_
  repeat (first | refine run ?_ | refine ct ?_ | refine cf ?_ | refine sk ?_ | refine la rfl ?_ | refine na fun _ _ _ => ?_ | refine sa rfl fun _ _ => ?_ | refine nk ?_ | refine mu ?_ | refine ac ?_ | refine ai ?_)
  refine app_trace (c := { c with th := th }) (v0 := v0) (by assumption) (by repeat (first | exact pH | apply pT)) (by repeat (first | exact pH | apply pT)) el_acc (by omega) sl_acc hv0 ht (fun q H1 hs2 => ?_)
  repeat (first | refine run ?_ | refine ct ?_ | refine cf ?_ | refine sk ?_ | refine la rfl ?_ | refine na fun _ _ _ => ?_ | refine sa rfl fun _ _ => ?_ | refine nk ?_ | refine mu ?_ | refine ac ?_ | refine ai ?_)
  refine k _ (Sat.close (L1 := [_, _, _, _]) (Sat.ent (by assumption) (by repeat (first | exact eN _ | exact eZ | apply eC (by repeat (first | exact pH | apply pT)) | refine eD ?_))) fun g a => ⟨bp, bl, _, ⟨hn1, hf⟩, a⟩)
end Go.Proofs.YtipbbnoepphdkaaGreat

set_option linter.unusedVariables false
set_option linter.unusedSimpArgs false
namespace Go.Proofs.YtipbbnoepphdkaaGreat
open Go Go.CM
attribute [local irreducible] AsBool AsWant AsNat AsInt AsCnt AsPtr AsSlc AsLen AsStr AsAgg AsTup AsFn AsIfc Nth Sc NotNil IsNil Must Cd codeW funW Sat SatL wrapN subM mkRow ltZ leZ ltN leN
variable {con : CallT}
theorem viewLoad_ok (hc : Con con lives) {L R1 R2 : List HP} {H : CH} {p m n a : Nat} {th : Int} {M : Mem} {K : KP} (hs : Sat L H) (hm : Pull L (MemP m M) R1) (hv : Pull R1 (ViewAt p m th n) R2)
    (hn : n < 1000000000) (ht : M.tr.length < 1000000000) (k : ∀ H1, Sat (MemP m (M.load th a) :: ViewAt p m th (n + 1) :: R2) H1 → K (u64 (M.peek a)) H1) : Call1 Tryz.prog con 125 [ptr p 0, u64 a] H K := by
  refine call_of (hc _ _ _ rfl) ?_
  rw [viewLoad_W]
  have hs0 := hs.takes (.cons hm (.cons hv .nil))
  simp only [List.cons_append, List.nil_append] at hs0
  repeat (first | refine run ?_ | refine ct ?_ | refine cf ?_ | refine sk ?_ | refine la rfl ?_ | refine na fun _ _ _ => ?_ | refine sa rfl fun _ _ => ?_ | refine nk ?_ | refine mu ?_ | refine ac ?_ | refine ai ?_)
  refine memPeek_ok hc hs0 (by repeat (first | exact pH | apply pT)) ?_
  repeat (first | refine run ?_ | refine ct ?_ | refine cf ?_ | refine sk ?_ | refine la rfl ?_ | refine na fun _ _ _ => ?_ | refine sa rfl fun _ _ => ?_ | refine nk ?_ | refine mu ?_ | refine ac ?_ | refine ai ?_)
  refine note_ok (c := accLd 0 a (M.peek a)) (v0 := snil) hc hs0.nil (by repeat (first | exact pH | apply pT)) (by repeat (first | exact pH | apply pT)) (by repeat (first | exact pH | apply pT)) hn ht rfl fun H1 h => ?_
  exact k _ h
theorem put_oob {M : Mem} {a x : Nat} (h : M.cells.length ≤ a) : M.put a x = M := by
  unfold Mem.put; rw [List.set_eq_of_length_le h]
theorem viewStore_ok (hc : Con con lives) {L R1 R2 : List HP} {H : CH} {p m n a x : Nat} {th : Int} {M : Mem} {K : KP} (hs : Sat L H) (hm : Pull L (MemP m M) R1) (hv : Pull R1 (ViewAt p m th n) R2)
    (hn : n < 1000000000) (ht : M.tr.length < 1000000000) (k : ∀ H1, Sat (MemP m (M.store th a x) :: ViewAt p m th (n + 1) :: R2) H1 → K unit H1) : Call1 Tryz.prog con 20 [ptr p 0, u64 a, u64 x] H K := by
  refine call_of (hc _ _ _ rfl) ?_
  rw [viewStore_W]
  have hs0 := hs.takes (.cons hm (.cons hv .nil))
  simp only [List.cons_append, List.nil_append] at hs0
  repeat (first | refine run ?_ | refine ct ?_ | refine cf ?_ | refine sk ?_ | refine la rfl ?_ | refine na fun _ _ _ => ?_ | refine sa rfl fun _ _ => ?_ | refine nk ?_ | refine mu ?_ | refine ac ?_ | refine ai ?_)
  refine memHas_ok hc hs0 (by repeat (first | exact pH | apply pT)) ?_
  repeat (first | refine run ?_ | refine ct ?_ | refine cf ?_ | refine sk ?_ | refine la rfl ?_ | refine na fun _ _ _ => ?_ | refine sa rfl fun _ _ => ?_ | refine nk ?_ | refine mu ?_ | refine ac ?_ | refine ai ?_)
  refine Cd.of (fun hlt => ?_) (fun hge => ?_)
  · have hlt' : a < M.cells.length := ltN_iff.1 hlt
    obtain ⟨h1, h2, s1, s2, d, ⟨bp, bl, tr, ⟨hn1, hf⟩, hin⟩, hR⟩ := hs0.opens Pull.here
    have hs1 := Sat.merge s1 s2 d hin hR
    simp only [List.cons_append, List.nil_append] at hs1
    repeat (first | refine run ?_ | refine ct ?_ | refine cf ?_ | refine sk ?_ | refine la rfl ?_ | refine na fun _ _ _ => ?_ | refine sa rfl fun _ _ => ?_ | refine nk ?_ | refine mu ?_ | refine ac ?_ | refine ai ?_)
    refine Mth.of (f := 212) (rc := ptr bp 0) (by kernel_rfl) (by kernel_rfl) ?_
    refine plainStore_ok hc hs1 hlt' (by simp) fun H1 h => ?_
    rw [← List.map_set] at h
    have hs2 : Sat (MemP m (M.put a x) :: ViewAt p m th n :: R2) H1 := Sat.close (L1 := [_, _, _, _]) (h.ent (by repeat (first | exact eN _ | exact eZ | apply eC (by repeat (first | exact pH | apply pT)) | refine eD ?_))) fun g a => ⟨bp, bl, tr, ⟨by rw [put_len]; exact hn1, by rw [put_len]; exact hf⟩, by rw [put_len]; exact a⟩
    refine note_ok (M := M.put a x) (c := accSt 0 a x) (v0 := snil) hc hs2.nil (by repeat (first | exact pH | apply pT)) (by repeat (first | exact pH | apply pT)) (by repeat (first | exact pH | apply pT)) hn ht rfl fun H1 h => ?_
    exact k _ h
  · have hge' : M.cells.length ≤ a := by
      rcases Nat.lt_or_ge a M.cells.length with h | h
      · rw [ltN_t h] at hge; cases hge
      · exact h
    refine note_ok (c := accSt 0 a x) (v0 := snil) hc hs0.nil (by repeat (first | exact pH | apply pT)) (by repeat (first | exact pH | apply pT)) (by repeat (first | exact pH | apply pT)) hn ht rfl fun H1 h => ?_
    refine k _ ?_
    unfold Mem.store
    rw [put_oob hge']
    exact h
theorem plainCas_ok (hc : Con con lives) {L : List HP} {H : CH} {b x c n a y z v : Nat} {f : Value} {cs : List Value} {F : List Value → List HP} {K : KP} (hs : Sat L H) [HasCell L b [slc x 0 n c, f]] [HasObj L x cs F] [HasCell L x cs] (ha : a < n) (hn : n = cs.length) (hv : cs[a]? = some (u64 v))
    (k : v ≠ y → K (.bool false) H) (k2 : v = y → ∀ H1, Sat (F (cs.set a (u64 z))) H1 → K (.bool true) H1) : Call1 Tryz.prog con 207 [ptr b 0, u64 a, u64 y, u64 z] H K := by
  refine call_of (hc _ _ _ rfl) ?_
  rw [plainCas_W]
  repeat (first | refine run ?_ | refine ct ?_ | refine cf ?_ | refine sk ?_ | refine la rfl ?_ | refine na fun _ _ _ => ?_ | refine sa rfl fun _ _ => ?_ | refine nk ?_ | refine mu ?_ | refine ac ?_ | refine ai ?_)
  refine Must.mk (ltN_t ha) (ld hs (by rw [off1]; exact hv) ?_)
  repeat (first | refine run ?_ | refine ct ?_ | refine cf ?_ | refine sk ?_ | refine la rfl ?_ | refine na fun _ _ _ => ?_ | refine sa rfl fun _ _ => ?_ | refine nk ?_ | refine mu ?_ | refine ac ?_ | refine ai ?_)
  by_cases e : v = y
  · refine Cd.f (by rw [eqN_t e]; rfl) ?_
    repeat (first | refine run ?_ | refine ct ?_ | refine cf ?_ | refine sk ?_ | refine la rfl ?_ | refine na fun _ _ _ => ?_ | refine sa rfl fun _ _ => ?_ | refine nk ?_ | refine mu ?_ | refine ac ?_ | refine ai ?_)
    refine Must.mk (ltN_t ha) (st hs (by rw [off1]; omega) rfl fun H1 h => k2 e H1 ?_)
    rw [off1] at h
    exact h
  · exact Cd.t (by rw [eqN_f e]; rfl) (k e)
theorem viewCas_ok (hc : Con con lives) {L R1 R2 : List HP} {H : CH} {p m n a x y : Nat} {th : Int} {M : Mem} {K : KP} (hs : Sat L H) (hm : Pull L (MemP m M) R1) (hv : Pull R1 (ViewAt p m th n) R2)
    (hn : n < 1000000000) (ht : M.tr.length < 1000000000) (k : ∀ H1, Sat (MemP m (M.cas th a x y) :: ViewAt p m th (n + 1) :: R2) H1 → K (.bool (M.swaps a x)) H1) : Call1 Tryz.prog con 129 [ptr p 0, u64 a, u64 x, u64 y] H K := by
  refine call_of (hc _ _ _ rfl) ?_
  rw [viewCas_W]
  have hs0 := hs.takes (.cons hm (.cons hv .nil))
  simp only [List.cons_append, List.nil_append] at hs0
  repeat (first | refine run ?_ | refine ct ?_ | refine cf ?_ | refine sk ?_ | refine la rfl ?_ | refine na fun _ _ _ => ?_ | refine sa rfl fun _ _ => ?_ | refine nk ?_ | refine mu ?_ | refine ac ?_ | refine ai ?_)
  refine memHas_ok hc hs0 (by repeat (first | exact pH | apply pT)) ?_
  repeat (first | refine run ?_ | refine ct ?_ | refine cf ?_ | refine sk ?_ | refine la rfl ?_ | refine na fun _ _ _ => ?_ | refine sa rfl fun _ _ => ?_ | refine nk ?_ | refine mu ?_ | refine ac ?_ | refine ai ?_)
  refine Cd.of (fun hlt => ?_) (fun hge => ?_)
  · have hlt' : a < M.cells.length := ltN_iff.1 hlt
    obtain ⟨h1, h2, s1, s2, d, ⟨bp, bl, tr, ⟨hn1, hf⟩, hin⟩, hR⟩ := hs0.opens Pull.here
    have hs1 := Sat.merge s1 s2 d hin hR
    simp only [List.cons_append, List.nil_append] at hs1
    repeat (first | refine run ?_ | refine ct ?_ | refine cf ?_ | refine sk ?_ | refine la rfl ?_ | refine na fun _ _ _ => ?_ | refine sa rfl fun _ _ => ?_ | refine nk ?_ | refine mu ?_ | refine ac ?_ | refine ai ?_)
    refine Mth.of (f := 207) (rc := ptr bp 0) (by kernel_rfl) (by kernel_rfl) ?_
    refine plainCas_ok hc hs1 hlt' (by simp) (map_get _ hlt') (fun hne => ?_) (fun he H1 h => ?_)
    · have e : M.swaps a x = false := by unfold Mem.swaps Mem.peek; rw [decide_eq_false hne, Bool.and_false]
      repeat (first | refine run ?_ | refine ct ?_ | refine cf ?_ | refine sk ?_ | refine la rfl ?_ | refine na fun _ _ _ => ?_ | refine sa rfl fun _ _ => ?_ | refine nk ?_ | refine mu ?_ | refine ac ?_ | refine ai ?_)
      refine note_ok (c := accCas 0 a x y false) (v0 := snil) hc hs0.nil (by repeat (first | exact pH | apply pT)) (by repeat (first | exact pH | apply pT)) (by repeat (first | exact pH | apply pT)) hn ht rfl fun H1 h => ?_
      have e2 : M.cas th a x y = M.note { accCas 0 a x y false with th := th } := by unfold Mem.cas; rw [e]; rfl
      rw [← e2] at h
      rw [← e]
      exact k _ h
    · have e : M.swaps a x = true := by unfold Mem.swaps Mem.peek; rw [decide_eq_true hlt', decide_eq_true he]; rfl
      rw [← List.map_set] at h
      have hs2 : Sat (MemP m (M.put a y) :: ViewAt p m th n :: R2) H1 := Sat.close (L1 := [_, _, _, _]) (h.ent (by repeat (first | exact eN _ | exact eZ | apply eC (by repeat (first | exact pH | apply pT)) | refine eD ?_))) fun g a => ⟨bp, bl, tr, ⟨by rw [put_len]; exact hn1, by rw [put_len]; exact hf⟩, by rw [put_len]; exact a⟩
      repeat (first | refine run ?_ | refine ct ?_ | refine cf ?_ | refine sk ?_ | refine la rfl ?_ | refine na fun _ _ _ => ?_ | refine sa rfl fun _ _ => ?_ | refine nk ?_ | refine mu ?_ | refine ac ?_ | refine ai ?_)
      refine note_ok (M := M.put a y) (c := accCas 0 a x y true) (v0 := snil) hc hs2.nil (by repeat (first | exact pH | apply pT)) (by repeat (first | exact pH | apply pT)) (by repeat (first | exact pH | apply pT)) hn ht rfl fun H1 h => ?_
      have e2 : M.cas th a x y = (M.put a y).note { accCas 0 a x y true with th := th } := by unfold Mem.cas; rw [e]; rfl
      rw [← e2] at h
      rw [← e]
      exact k _ h
  · have hge' : M.cells.length ≤ a := by
      rcases Nat.lt_or_ge a M.cells.length with h | h
      · rw [ltN_t h] at hge; cases hge
      · exact h
    have e : M.swaps a x = false := by unfold Mem.swaps; rw [decide_eq_false (by omega)]; rfl
    refine note_ok (c := accCas 0 a x y false) (v0 := snil) hc hs0.nil (by repeat (first | exact pH | apply pT)) (by repeat (first | exact pH | apply pT)) (by repeat (first | exact pH | apply pT)) hn ht rfl fun H1 h => ?_
    have e2 : M.cas th a x y = M.note { accCas 0 a x y false with th := th } := by unfold Mem.cas; rw [e]; rfl
    rw [← e2] at h
    rw [← e]
    exact k _ h
theorem memView_ok (hc : Con con lives) {L : List HP} {H : CH} {m : Nat} {th : Int} {K : KP} (hs : Sat L H) (k : ∀ p H1, Sat (ViewAt p m th 0 :: L) H1 → K (ptr p 0) H1) : Call1 Tryz.prog con 10 [ptr m 0, i64 th] H K := by
  refine call_of (hc _ _ _ rfl) ?_
  rw [memView_W]
  exact nw hs k
def mem0 (n : Nat) : Mem := { cells := List.replicate n 0, free := 1, tr := [] }
theorem zero_u : (zeroOf Tryz.prog tU).map cellsF = some [u64 0] := by kernel_rfl
theorem rep_u (n : Nat) : (List.replicate n [u64 0]).flatten = (List.replicate n 0).map u64 := by
  induction n with
  | zero => rfl
  | succ n ih => rw [List.replicate_succ, List.replicate_succ, List.flatten_cons, List.map_cons, ih]; rfl
theorem arenaNew_ok (hc : Con con lives) {L : List HP} {H : CH} {n : Nat} {K : KP} (hs : Sat L H) (h1 : 128 ≤ n) (h2 : n ≤ 4194304) (k : ∀ m H1, Sat (MemP m (mem0 n) :: L) H1 → K (.tuple ⟨[ptr m 0, iN 0]⟩) H1) : Call1 Tryz.prog con 7 [iN n, .bool false] H K := by
  refine call_of (hc _ _ _ rfl) ?_
  rw [arenaNew_W]
  refine Cd.f (ltZ_f (by omega)) ?_
  refine Cd.f (ltZ_f (by omega)) ?_
  repeat (first | refine run ?_ | refine ct ?_ | refine cf ?_ | refine sk ?_ | refine la rfl ?_ | refine na fun _ _ _ => ?_ | refine sa rfl fun _ _ => ?_ | refine nk ?_ | refine mu ?_ | refine ac ?_ | refine ai ?_)
  refine mkS hs el_u64 zero_u (Nat.le_refl n) (by omega) (by omega) fun b H1 h => ?_
  rw [rep_u] at h
  refine Sc.mk rfl ?_
  refine nw h fun bp H2 h2 => nw h2 fun m H3 h3 => ?_
  refine k _ _ (Sat.close (L1 := [Own m [.iface tPl (ptr bp 0), .bool false, snil], Own bp [slc b 0 n n, iN 1], Row b tU 0 true ((List.replicate n 0).map u64), TrAt snil tA []]) (Sat.ent (Sat.nilT (e := tA) h3) (by repeat (first | exact eN _ | exact eZ | apply eC (by repeat (first | exact pH | apply pT)) | refine eD ?_))) fun g a => ⟨bp, b, snil, ⟨by simp [mem0]; omega, by simp [mem0]; omega⟩, by simpa only [mem0, List.length_replicate] using a⟩)
theorem refNew_ok (hc : Con con lives) {L : List HP} {H : CH} {n : Nat} {K : KP} (hs : Sat L H) (h1 : 128 ≤ n) (h2 : n ≤ 4194304) (k : ∀ m H1, Sat (RefP m (mem0 n) :: L) H1 → K (.tuple ⟨[ptr m 0, iN 0]⟩) H1) : Call1 Tryz.prog con 9 [iN n, .bool false] H K := by
  refine call_of (hc _ _ _ rfl) ?_
  rw [refNew_W]
  refine Cd.f (ltZ_f (by omega)) ?_
  refine Cd.f (ltZ_f (by omega)) ?_
  refine mkS hs el_u64 zero_u (Nat.le_refl n) (by omega) (by omega) fun b H1 h => ?_
  rw [rep_u] at h
  refine Sc.mk rfl ?_
  refine nw h fun m H3 h3 => ?_
  refine k _ _ (Sat.close (L1 := [Own m [slc b 0 n n, iN 1, snil, .bool false], Row b tU 0 true ((List.replicate n 0).map u64), TrAt snil tA []]) (Sat.ent (Sat.nilT (e := tA) h3) (by repeat (first | exact eN _ | exact eZ | apply eC (by repeat (first | exact pH | apply pT)) | refine eD ?_))) fun g a => ⟨b, snil, ⟨by simp [mem0]; omega, by simp [mem0]; omega⟩, by simpa only [mem0, List.length_replicate] using a⟩)
theorem refPeek_ok (hc : Con con lives) {L R : List HP} {H : CH} {m a : Nat} {M : Mem} {K : KP} (hs : Sat L H) (hp : Pull L (RefP m M) R) (k : K (u64 (M.peek a)) H) : Call1 Tryz.prog con 86 [ptr m 0, u64 a] H K := by
  refine call_of (hc _ _ _ rfl) ?_
  rw [refPeek_W]
  obtain ⟨h1, h2, s1, s2, d, ⟨bl, tr, ⟨hn, hf⟩, hin⟩, hR⟩ := hs.opens hp
  have hs1 := Sat.merge s1 s2 d hin hR
  simp only [List.cons_append, List.nil_append] at hs1
  repeat (first | refine run ?_ | refine ct ?_ | refine cf ?_ | refine sk ?_ | refine la rfl ?_ | refine na fun _ _ _ => ?_ | refine sa rfl fun _ _ => ?_ | refine nk ?_ | refine mu ?_ | refine ac ?_ | refine ai ?_)
  refine Must.mk (cv_small (by omega)) ?_
  rw [wrapN_small (by omega)]
  by_cases h : a < M.cells.length
  · refine Cd.f (leN_f h) ?_
    repeat (first | refine run ?_ | refine ct ?_ | refine cf ?_ | refine sk ?_ | refine la rfl ?_ | refine na fun _ _ _ => ?_ | refine sa rfl fun _ _ => ?_ | refine nk ?_ | refine mu ?_ | refine ac ?_ | refine ai ?_)
    refine Must.mk (ltN_t h) (ld hs1 (by rw [off1]; exact map_get _ h) k)
  · refine Cd.t (leN_t (by omega)) ?_
    have e : M.peek a = 0 := by unfold Mem.peek; rw [List.getD_eq_getElem?_getD, List.getElem?_eq_none (by omega)]; rfl
    rw [e] at k
    exact k
theorem refSet_ok (hc : Con con lives) {L R : List HP} {H : CH} {m a x : Nat} {M : Mem} {K : KP} (hs : Sat L H) (hp : Pull L (RefP m M) R) (k : ∀ H1, Sat (RefP m (M.put a x) :: R) H1 → K unit H1) : Call1 Tryz.prog con 66 [ptr m 0, u64 a, u64 x] H K := by
  refine call_of (hc _ _ _ rfl) ?_
  rw [refSet_W]
  obtain ⟨h1, h2, s1, s2, d, ⟨bl, tr, ⟨hn, hf⟩, hin⟩, hR⟩ := hs.opens hp
  have hs1 := Sat.merge s1 s2 d hin hR
  simp only [List.cons_append, List.nil_append] at hs1
  repeat (first | refine run ?_ | refine ct ?_ | refine cf ?_ | refine sk ?_ | refine la rfl ?_ | refine na fun _ _ _ => ?_ | refine sa rfl fun _ _ => ?_ | refine nk ?_ | refine mu ?_ | refine ac ?_ | refine ai ?_)
  refine Must.mk (cv_small (by omega)) ?_
  rw [wrapN_small (by omega)]
  by_cases h : a < M.cells.length
  · refine Cd.t (ltN_t h) ?_
    repeat (first | refine run ?_ | refine ct ?_ | refine cf ?_ | refine sk ?_ | refine la rfl ?_ | refine na fun _ _ _ => ?_ | refine sa rfl fun _ _ => ?_ | refine nk ?_ | refine mu ?_ | refine ac ?_ | refine ai ?_)
    refine Must.mk (ltN_t h) (st hs1 (by rw [off1]; simpa using h) rfl fun H1 h3 => k H1 ?_)
    rw [off1, ← List.map_set] at h3
    exact Sat.close (L1 := [_, _, _]) (h3.ent (by repeat (first | exact eN _ | exact eZ | apply eC (by repeat (first | exact pH | apply pT)) | refine eD ?_))) fun g a => ⟨bl, tr, ⟨by rw [put_len]; exact hn, by rw [put_len]; exact hf⟩, by rw [put_len]; exact a⟩
  · refine Cd.f (ltN_f (by omega)) (k H ?_)
    rw [put_oob (by omega)]
    exact hs.pull hp
theorem refNote_ok (hc : Con con lives) {L R2 R3 : List HP} {H : CH} {m : Nat} {M : Mem} {v0 : Value} {c : Acs} {K : KP} (hs : Sat L H) (hm' : Pull L (RefP m M) R2) (hq : Pull R2 (Nums v0 c.vals) R3)
    (ht : M.tr.length < 1000000000) (hv0 : isCell v0 = true) (k : ∀ H1, Sat (RefP m (M.note c) :: R3) H1 → K unit H1) :
    Call1 Tryz.prog con 52 [ptr m 0, .agg ⟨[i64 c.th, u8 c.kind, u64 c.a, u64 c.x, u64 c.y, v0, u64 c.got, .bool c.ok]⟩] H K := by
  refine call_of (hc _ _ _ rfl) ?_
  rw [refNote_W]
  have hs0 := hs.takes (.cons hm' (.cons hq .nil))
  simp only [List.cons_append, List.nil_append] at hs0
  obtain ⟨h1, h2, s1, s2, d, ⟨bl, tr, ⟨hn1, hf⟩, hin⟩, hR⟩ := hs0.opens Pull.here
  have hs1 := Sat.merge s1 s2 d hin hR
  simp only [List.cons_append, List.nil_append] at hs1
  obtain ⟨g1, g2, t1, t2, d2, hT, _⟩ := hs1.opens (A := TrAt tr tA M.tr) (.there (.there .here))
  obtain ⟨q, rfl⟩ := hT.shape
  repeat (first | refine run ?_ | refine ct ?_ | refine cf ?_ | refine sk ?_ | refine la rfl ?_ | refine na fun _ _ _ => ?_ | refine sa rfl fun _ _ => ?_ | refine nk ?_ | refine mu ?_ | refine ac ?_ | refine ai ?_)
  refine app_trace (c := c) (v0 := v0) (by assumption) (by repeat (first | exact pH | apply pT)) (by repeat (first | exact pH | apply pT)) el_acc (by omega) sl_acc hv0 ht (fun q H1 hs2 => ?_)
  repeat (first | refine run ?_ | refine ct ?_ | refine cf ?_ | refine sk ?_ | refine la rfl ?_ | refine na fun _ _ _ => ?_ | refine sa rfl fun _ _ => ?_ | refine nk ?_ | refine mu ?_ | refine ac ?_ | refine ai ?_)
  refine k _ (Sat.close (L1 := [_, _, _]) (Sat.ent (by assumption) (by repeat (first | exact eN _ | exact eZ | apply eC (by repeat (first | exact pH | apply pT)) | refine eD ?_))) fun g a => ⟨bl, _, ⟨hn1, hf⟩, a⟩)
theorem refLoad_ok (hc : Con con lives) {L R1 : List HP} {H : CH} {m a : Nat} {th : Int} {M : Mem} {K : KP} (hs : Sat L H) (hm : Pull L (RefP m M) R1)
    (ht : M.tr.length < 1000000000) (k : ∀ H1, Sat (RefP m (M.load th a) :: R1) H1 → K (u64 (M.peek a)) H1) : Call1 Tryz.prog con 115 [ptr m 0, i64 th, u64 a] H K := by
  refine call_of (hc _ _ _ rfl) ?_
  rw [refLoad_W]
  have hs0 := hs.pull hm
  refine refPeek_ok hc hs0 (by repeat (first | exact pH | apply pT)) ?_
  repeat (first | refine run ?_ | refine ct ?_ | refine cf ?_ | refine sk ?_ | refine la rfl ?_ | refine na fun _ _ _ => ?_ | refine sa rfl fun _ _ => ?_ | refine nk ?_ | refine mu ?_ | refine ac ?_ | refine ai ?_)
  refine refNote_ok (c := accLd th a (M.peek a)) (v0 := snil) hc hs0.nil (by repeat (first | exact pH | apply pT)) (by repeat (first | exact pH | apply pT)) ht rfl fun H1 h => ?_
  exact k _ h
theorem refStore_ok (hc : Con con lives) {L R1 : List HP} {H : CH} {m a x : Nat} {th : Int} {M : Mem} {K : KP} (hs : Sat L H) (hm : Pull L (RefP m M) R1)
    (ht : M.tr.length < 1000000000) (k : ∀ H1, Sat (RefP m (M.store th a x) :: R1) H1 → K unit H1) : Call1 Tryz.prog con 21 [ptr m 0, i64 th, u64 a, u64 x] H K := by
  refine call_of (hc _ _ _ rfl) ?_
  rw [refStore_W]
  have hs0 := hs.pull hm
  refine refSet_ok hc hs0 (by repeat (first | exact pH | apply pT)) fun H1 h => ?_
  refine refNote_ok (M := M.put a x) (c := accSt th a x) (v0 := snil) hc h.nil (by repeat (first | exact pH | apply pT)) (by repeat (first | exact pH | apply pT)) ht rfl fun H1 h => ?_
  exact k _ h
end Go.Proofs.YtipbbnoepphdkaaGreat

set_option linter.unusedVariables false
set_option linter.unusedSimpArgs false
namespace Go.Proofs.YtipbbnoepphdkaaGreat
open Go Go.CM
attribute [local irreducible] AsBool AsWant AsNat AsInt AsCnt AsPtr AsSlc AsLen AsStr AsAgg AsTup AsFn AsIfc Nth Sc NotNil IsNil Must Cd codeW funW Sat SatL wrapN subM mkRow ltZ leZ ltN leN
variable {con : CallT}
theorem cloneN_ok (hc : Con con lives) {L : List HP} {H : CH} {v : Value} {l : List Nat} {K : KP} (hs : Sat L H) (hq : Has L (Nums v l)) (hl : l.length ≤ 1000000000) (k : ∀ v' H1, isCell v' = true → Sat (Nums v' l :: L) H1 → K v' H1) : Call1 Tryz.prog con 50 [v] H K := by
  refine call_of (hc _ _ _ rfl) ?_
  rw [cloneN_W]
  rcases (hs.has hq).shape with ⟨rfl, rfl⟩ | ⟨b, o, c, rfl⟩
  · repeat (first | refine run ?_ | refine ct ?_ | refine cf ?_ | refine sk ?_ | refine la rfl ?_ | refine na fun _ _ _ => ?_ | refine sa rfl fun _ _ => ?_ | refine nk ?_ | refine mu ?_ | refine ac ?_ | refine ai ?_)
    exact k _ _ rfl hs.nil
  · refine IsNil.slc (Cd.f rfl ?_)
    refine nwR hs fun p H1 h1 => ?_
    rcases Nat.eq_zero_or_pos l.length with h0 | hpos
    · have hl0 : l = [] := List.eq_nil_of_length_eq_zero h0
      subst hl0
      refine app_none h1 el_u64 sl_u64 (Src.skip (hq.src rfl)) ?_
      exact k _ _ rfl (h1.imp fun g r => .inr ⟨p, 0, 0, tU, 0, true, [], rfl, Nat.le_refl _, Nat.le_refl _, rfl, r⟩)
    · refine app_clone (new := l.map fun x => [u64 x]) h1 el_u64 (by omega) sl_u64 (by rw [flat1]; exact hq.src rfl) (by simp) (by simp) hl hpos fun v' H2 h2 => ?_
      have h3 : Sat (Nums v' l :: L) H2 := h2.imp fun g a => a.nums
      refine k _ _ ?_ h3
      obtain ⟨p, c, rfl⟩ := (h3.has Has.nums).len
      rfl
/-- Two accesses that are the same. -/
theorem sameAccess_ok (hc : Con con lives) {L : List HP} {H : CH} {v w : Value} {c : Acs} {K : KP} (hs : Sat L H) (hv : Has L (Nums v c.vals)) (hw : Has L (Nums w c.vals)) (hl : c.vals.length ≤ 1000000000) (k : ∀ H1, Sat L H1 → K (.bool true) H1) :
    Call1 Tryz.prog con 63 [.agg ⟨encA c v⟩, .agg ⟨encA c w⟩] H K := by
  refine call_of (hc _ _ _ rfl) ?_
  unfold encA
  rw [sameAccess_W]
  obtain ⟨pv, cv, rfl⟩ := (hs.has hv).len
  obtain ⟨pw, cw, rfl⟩ := (hs.has hw).len
  refine nw hs fun p1 H1 h1 => nw h1 fun p3 H2 h2 => ?_
  repeat (first | refine run ?_ | refine ct ?_ | refine cf ?_ | refine sk ?_ | refine la rfl ?_ | refine na fun _ _ _ => ?_ | refine sa rfl fun _ _ => ?_ | refine nk ?_ | refine mu ?_ | refine ac ?_ | refine ai ?_)
  refine Cd.f (by rw [eqZ_self]; rfl) ?_
  repeat (first | refine run ?_ | refine ct ?_ | refine cf ?_ | refine sk ?_ | refine la rfl ?_ | refine na fun _ _ _ => ?_ | refine sa rfl fun _ _ => ?_ | refine nk ?_ | refine mu ?_ | refine ac ?_ | refine ai ?_)
  refine Cd.f (by rw [eqN_self]; rfl) ?_
  repeat (first | refine run ?_ | refine ct ?_ | refine cf ?_ | refine sk ?_ | refine la rfl ?_ | refine na fun _ _ _ => ?_ | refine sa rfl fun _ _ => ?_ | refine nk ?_ | refine mu ?_ | refine ac ?_ | refine ai ?_)
  refine Cd.f (by rw [eqN_self]; rfl) ?_
  repeat (first | refine run ?_ | refine ct ?_ | refine cf ?_ | refine sk ?_ | refine la rfl ?_ | refine na fun _ _ _ => ?_ | refine sa rfl fun _ _ => ?_ | refine nk ?_ | refine mu ?_ | refine ac ?_ | refine ai ?_)
  refine Cd.f (by rw [eqN_self]; rfl) ?_
  repeat (first | refine run ?_ | refine ct ?_ | refine cf ?_ | refine sk ?_ | refine la rfl ?_ | refine na fun _ _ _ => ?_ | refine sa rfl fun _ _ => ?_ | refine nk ?_ | refine mu ?_ | refine ac ?_ | refine ai ?_)
  refine Cd.f (by rw [eqN_self]; rfl) ?_
  repeat (first | refine run ?_ | refine ct ?_ | refine cf ?_ | refine sk ?_ | refine la rfl ?_ | refine na fun _ _ _ => ?_ | refine sa rfl fun _ _ => ?_ | refine nk ?_ | refine mu ?_ | refine ac ?_ | refine ai ?_)
  refine Cd.f (by rw [eqN_self]; rfl) ?_
  repeat (first | refine run ?_ | refine ct ?_ | refine cf ?_ | refine sk ?_ | refine la rfl ?_ | refine na fun _ _ _ => ?_ | refine sa rfl fun _ _ => ?_ | refine nk ?_ | refine mu ?_ | refine ac ?_ | refine ai ?_)
  refine Cd.f (by rw [eqB_self]; rfl) ?_
  repeat (first | refine run ?_ | refine ct ?_ | refine cf ?_ | refine sk ?_ | refine la rfl ?_ | refine na fun _ _ _ => ?_ | refine sa rfl fun _ _ => ?_ | refine nk ?_ | refine mu ?_ | refine ac ?_ | refine ai ?_)
  refine Cd.f (by rw [eqZ_self]; rfl) ?_
  refine LoopC.ind (n := 100) (by kernel_rfl) (fun (i : Nat) σ H => σ 2 = ptr p1 0 ∧ σ 3 = ptr p3 0 ∧ σ 5 = iN i ∧ i ≤ c.vals.length ∧ H = H2) (fun i => c.vals.length - i) (fun i σ H hI => ?_) 0 _ _ ⟨rfl, rfl, rfl, Nat.zero_le _, rfl⟩
  obtain ⟨e2, e3, e5, hi, rfl⟩ := hI
  rw [sameAccessL_W]
  simp only [e2, e3, e5]
  repeat (first | refine run ?_ | refine ct ?_ | refine cf ?_ | refine sk ?_ | refine la rfl ?_ | refine na fun _ _ _ => ?_ | refine sa rfl fun _ _ => ?_ | refine nk ?_ | refine mu ?_ | refine ac ?_ | refine ai ?_)
  rcases Nat.lt_or_ge i c.vals.length with hlt | hge
  · refine Cd.t (ltZ_t (by omega)) ?_
    rcases (hs.has hv).shape with ⟨h3, h4⟩ | ⟨b, o, c', h3⟩
    · rw [h4] at hlt; simp at hlt
    rcases (hs.has hw).shape with ⟨h5, h6⟩ | ⟨b', o', c'', h5⟩
    · rw [h6] at hlt; simp at hlt
    cases h3
    cases h5
    repeat (first | refine run ?_ | refine ct ?_ | refine cf ?_ | refine sk ?_ | refine la rfl ?_ | refine na fun _ _ _ => ?_ | refine sa rfl fun _ _ => ?_ | refine nk ?_ | refine mu ?_ | refine ac ?_ | refine ai ?_)
    refine Must.mk (ltN_t hlt) ?_
    refine ldSrc h2 (Src.skip (Src.skip (hv.src rfl))) (by rw [show Nat.mul i 1 = i from Nat.mul_one i]; rfl) (map_get _ hlt) ?_
    repeat (first | refine run ?_ | refine ct ?_ | refine cf ?_ | refine sk ?_ | refine la rfl ?_ | refine na fun _ _ _ => ?_ | refine sa rfl fun _ _ => ?_ | refine nk ?_ | refine mu ?_ | refine ac ?_ | refine ai ?_)
    refine Must.mk (ltN_t hlt) ?_
    refine ldSrc h2 (Src.skip (Src.skip (hw.src rfl))) (by rw [show Nat.mul i 1 = i from Nat.mul_one i]; rfl) (map_get _ hlt) ?_
    repeat (first | refine run ?_ | refine ct ?_ | refine cf ?_ | refine sk ?_ | refine la rfl ?_ | refine na fun _ _ _ => ?_ | refine sa rfl fun _ _ => ?_ | refine nk ?_ | refine mu ?_ | refine ac ?_ | refine ai ?_)
    refine Cd.f (by rw [eqN_self]; rfl) ?_
    repeat (first | refine run ?_ | refine ct ?_ | refine cf ?_ | refine sk ?_ | refine la rfl ?_ | refine na fun _ _ _ => ?_ | refine sa rfl fun _ _ => ?_ | refine nk ?_ | refine mu ?_ | refine ac ?_ | refine ai ?_)
    refine inR_nat (n := i + 1) (by omega) ?_
    show ∃ y, _ ∧ _
    exact ⟨i + 1, by omega, e2, e3, rfl, hlt, rfl⟩
  · refine Cd.f (ltZ_f (by omega)) ?_
    show Cd _ _ _
    refine Cd.t (eqN_self 0) ?_
    exact k _ h2.drop.drop
/-- Two traces that are the same; the first is let go. -/
theorem sameTraceK_ok (hc : Con con lives) {L R1 R2 : List HP} {H : CH} {x y : Value} {e e' : Nat} {l : List Acs} {K : KP} (hs : Sat L H) (hp : Pull L (TrAt x e l) R1) (hq : Pull R1 (TrAt y e' l) R2) (hl : l.length ≤ 1000000000) (hvl : ∀ a ∈ l, a.vals.length ≤ 1000000000) (k : ∀ H1, Sat (TrAt y e' l :: R2) H1 → K (.bool true) H1) :
    Call1 Tryz.prog con 18 [x, y] H K := by
  refine call_of (hc _ _ _ rfl) ?_
  rw [sameTrace_W]
  have hs0 := hs.takes (.cons hp (.cons hq .nil))
  simp only [List.cons_append, List.nil_append] at hs0
  obtain ⟨h1, h2, s1, s2, d, ⟨vs, hvs, hva⟩, hR⟩ := hs0.opens Pull.here
  have hsa := Sat.merge s1 s2 d hva hR
  have hsb : Sat (TrAt y e' l :: (Vec x e 8 (List.zipWith encA l vs) :: valsL l vs ++ R2)) H := by
    refine hsa.pull ?_
    have pu : ∀ (L1 : List HP), Pull (L1 ++ (TrAt y e' l :: R2)) (TrAt y e' l) (L1 ++ R2) := fun L1 => by
      induction L1 with
      | nil => exact Pull.here
      | cons A L1 ih => exact Pull.there ih
    exact pu _
  obtain ⟨g1, g2, t1, t2, d2, ⟨ws, hws, hb⟩, hR2⟩ := hsb.opens Pull.here
  have hs1 := Sat.merge t1 t2 d2 hb hR2
  have hV : Has (Vec y e' 8 (List.zipWith encA l ws) :: valsL l ws ++ (Vec x e 8 (List.zipWith encA l vs) :: valsL l vs ++ R2)) (Vec x e 8 (List.zipWith encA l vs)) := Has.app Has.vec
  have hW : Has (Vec y e' 8 (List.zipWith encA l ws) :: valsL l ws ++ (Vec x e 8 (List.zipWith encA l vs) :: valsL l vs ++ R2)) (Vec y e' 8 (List.zipWith encA l ws)) := Has.vec
  have hNv : ∀ (i : Nat) (c : Acs) (v : Value), l[i]? = some c → vs[i]? = some v → Has (Vec y e' 8 (List.zipWith encA l ws) :: valsL l ws ++ (Vec x e 8 (List.zipWith encA l vs) :: valsL l vs ++ R2)) (Nums v c.vals) := fun i c v h1 h2 => Has.app (Has.skip (Has.vals h1 h2))
  have hNw : ∀ (i : Nat) (c : Acs) (v : Value), l[i]? = some c → ws[i]? = some v → Has (Vec y e' 8 (List.zipWith encA l ws) :: valsL l ws ++ (Vec x e 8 (List.zipWith encA l vs) :: valsL l vs ++ R2)) (Nums v c.vals) := fun i c v h1 h2 => Has.skip (Has.vals h1 h2)
  have hend : ∀ {H1}, Sat (Vec y e' 8 (List.zipWith encA l ws) :: valsL l ws ++ (Vec x e 8 (List.zipWith encA l vs) :: valsL l vs ++ R2)) H1 → Sat (TrAt y e' l :: R2) H1 := fun h => by
    have dr : ∀ (L1 : List HP) {R : List HP} {h : PH}, SatL (L1 ++ R) h → SatL R h := fun L1 => by
      induction L1 with
      | nil => exact fun h => h
      | cons A L1 ih => exact fun h => ih (SatL.drop h)
    have h2 : Sat (TrAt y e' l :: (Vec x e 8 (List.zipWith encA l vs) :: valsL l vs ++ R2)) _ := Sat.close (L1 := Vec y e' 8 (List.zipWith encA l ws) :: valsL l ws) h fun g a => ⟨ws, hws, a⟩
    exact Sat.mk (SatL.under (fun g a => dr _ a) (Sat.out h2))
  generalize (Vec y e' 8 (List.zipWith encA l ws) :: valsL l ws ++ (Vec x e 8 (List.zipWith encA l vs) :: valsL l vs ++ R2)) = L' at hs1 hV hW hNv hNw hend
  have lv : (List.zipWith encA l vs).length = l.length := by rw [List.length_zipWith, hvs, Nat.min_self]
  have lw : (List.zipWith encA l ws).length = l.length := by rw [List.length_zipWith, hws, Nat.min_self]
  obtain ⟨px, ex⟩ := (hs1.has hV).shape
  obtain ⟨py, ey⟩ := (hs1.has hW).shape
  rw [lv] at ex
  rw [lw] at ey
  subst ex; subst ey
  repeat (first | refine run ?_ | refine ct ?_ | refine cf ?_ | refine sk ?_ | refine la rfl ?_ | refine na fun _ _ _ => ?_ | refine sa rfl fun _ _ => ?_ | refine nk ?_ | refine mu ?_ | refine ac ?_ | refine ai ?_)
  refine Cd.f (by rw [eqZ_self]; rfl) ?_
  refine LoopC.ind (n := 100) (by kernel_rfl) (fun (i : Nat) σ H => σ 0 = .slice px l.length l.length ∧ σ 1 = .slice py l.length l.length ∧ σ 5 = iN i ∧ i ≤ l.length ∧ Sat L' H) (fun i => l.length - i) (fun i σ H hI => ?_) 0 _ _ ⟨rfl, rfl, rfl, Nat.zero_le _, hs1⟩
  obtain ⟨e0, e1, e5, hi, hs2⟩ := hI
  rw [sameTraceL_W]
  simp only [e0, e1, e5]
  repeat (first | refine run ?_ | refine ct ?_ | refine cf ?_ | refine sk ?_ | refine la rfl ?_ | refine na fun _ _ _ => ?_ | refine sa rfl fun _ _ => ?_ | refine nk ?_ | refine mu ?_ | refine ac ?_ | refine ai ?_)
  rcases Nat.lt_or_ge i l.length with hlt | hge
  · refine Cd.t (ltZ_t (by omega)) ?_
    obtain ⟨a, ha⟩ : ∃ a, l[i]? = some a := ⟨_, List.getElem?_eq_getElem hlt⟩
    obtain ⟨v, hv⟩ : ∃ v, vs[i]? = some v := ⟨_, List.getElem?_eq_getElem (by omega)⟩
    obtain ⟨w, hw⟩ : ∃ w, ws[i]? = some w := ⟨_, List.getElem?_eq_getElem (by omega)⟩
    have hne : l ≠ [] := by rintro rfl; simp at hlt
    have ox : ∃ b, Value.slice px l.length l.length = slc b 0 l.length l.length := by
      rcases (hs2.has hV).2 with ⟨e1, e2⟩ | ⟨b, _, e2, _⟩
      · have e3 : l.length = 0 := by injection e1
        omega
      · rw [lv] at e2; exact ⟨b, e2⟩
    have oy : ∃ b, Value.slice py l.length l.length = slc b 0 l.length l.length := by
      rcases (hs2.has hW).2 with ⟨e1, e2⟩ | ⟨b, _, e2, _⟩
      · have e3 : l.length = 0 := by injection e1
        omega
      · rw [lw] at e2; exact ⟨b, e2⟩
    obtain ⟨bx, ox⟩ := ox
    obtain ⟨by_, oy⟩ := oy
    cases ox
    cases oy
    repeat (first | refine run ?_ | refine ct ?_ | refine cf ?_ | refine sk ?_ | refine la rfl ?_ | refine na fun _ _ _ => ?_ | refine sa rfl fun _ _ => ?_ | refine nk ?_ | refine mu ?_ | refine ac ?_ | refine ai ?_)
    refine Must.mk (ltN_t hlt) ?_
    refine ldTr hs2 hV rfl ha hv (j := 0) (by simp) (by omega) rfl ?_
    refine ldTr hs2 hV rfl ha hv (j := 1) (by simp) (by omega) rfl ?_
    refine ldTr hs2 hV rfl ha hv (j := 2) (by simp) (by omega) rfl ?_
    refine ldTr hs2 hV rfl ha hv (j := 3) (by simp) (by omega) rfl ?_
    refine ldTr hs2 hV rfl ha hv (j := 4) (by simp) (by omega) rfl ?_
    refine ldTr hs2 hV rfl ha hv (j := 5) (by simp) (by omega) rfl ?_
    refine ldTr hs2 hV rfl ha hv (j := 6) (by simp) (by omega) rfl ?_
    refine ldTr hs2 hV rfl ha hv (j := 7) (by simp) (by omega) rfl ?_
    repeat (first | refine run ?_ | refine ct ?_ | refine cf ?_ | refine sk ?_ | refine la rfl ?_ | refine na fun _ _ _ => ?_ | refine sa rfl fun _ _ => ?_ | refine nk ?_ | refine mu ?_ | refine ac ?_ | refine ai ?_)
    refine Must.mk (ltN_t hlt) ?_
    refine ldTr hs2 hW rfl ha hw (j := 0) (by simp) (by omega) rfl ?_
    refine ldTr hs2 hW rfl ha hw (j := 1) (by simp) (by omega) rfl ?_
    refine ldTr hs2 hW rfl ha hw (j := 2) (by simp) (by omega) rfl ?_
    refine ldTr hs2 hW rfl ha hw (j := 3) (by simp) (by omega) rfl ?_
    refine ldTr hs2 hW rfl ha hw (j := 4) (by simp) (by omega) rfl ?_
    refine ldTr hs2 hW rfl ha hw (j := 5) (by simp) (by omega) rfl ?_
    refine ldTr hs2 hW rfl ha hw (j := 6) (by simp) (by omega) rfl ?_
    refine ldTr hs2 hW rfl ha hw (j := 7) (by simp) (by omega) rfl ?_
    refine sameAccess_ok (c := a) hc hs2 (hNv i a v ha hv) (hNw i a w ha hw) (hvl a (List.mem_of_getElem? ha)) fun H3 h3 => ?_
    repeat (first | refine run ?_ | refine ct ?_ | refine cf ?_ | refine sk ?_ | refine la rfl ?_ | refine na fun _ _ _ => ?_ | refine sa rfl fun _ _ => ?_ | refine nk ?_ | refine mu ?_ | refine ac ?_ | refine ai ?_)
    refine inR_nat (n := i + 1) (by omega) ?_
    show ∃ y, _ ∧ _
    exact ⟨i + 1, by omega, e0, e1, rfl, hlt, h3⟩
  · refine Cd.f (ltZ_f (by omega)) ?_
    show Cd _ _ _
    refine Cd.t (eqN_self 0) ?_
    exact k _ (hend hs2)
theorem cloneA_ok (hc : Con con lives) {L : List HP} {H : CH} {v : Value} {e : Nat} {l : List (List Value)} {K : KP} (hs : Sat L H) (hq : Has L (Vec v e 8 l)) (hl : l.length ≤ 1000000000) (k : ∀ v' H1, Sat (Vec v' tA 8 l :: L) H1 → K v' H1) : Call1 Tryz.prog con 64 [v] H K := by
  refine call_of (hc _ _ _ rfl) ?_
  rw [cloneA_W]
  rcases (hs.has hq) with ⟨h8, ⟨rfl, rfl⟩ | ⟨b, h1, rfl, h3⟩⟩
  · repeat (first | refine run ?_ | refine ct ?_ | refine cf ?_ | refine sk ?_ | refine la rfl ?_ | refine na fun _ _ _ => ?_ | refine sa rfl fun _ _ => ?_ | refine nk ?_ | refine mu ?_ | refine ac ?_ | refine ai ?_)
    exact k _ _ (hs.nilV)
  · refine IsNil.slc (Cd.f rfl ?_)
    refine nwR hs fun p H1 h1 => ?_
    have hpos : 0 < l.length := by cases l with | nil => contradiction | cons _ _ => simp
    exact app_clone (new := l) h1 el_acc (by omega) sl_acc (hq.vecSrc rfl) rfl h8 hl hpos k
/-- A trace is told: a row of its own. -/
theorem memTraceK_ok (hc : Con con lives) {L R : List HP} {H : CH} {m : Nat} {M : Mem} {K : KP} (hs : Sat L H) (hp : Pull L (MemP m M) R) (hl : M.tr.length ≤ 1000000000) (hvl : ∀ a ∈ M.tr, a.vals.length ≤ 1000000000)
    (k : ∀ x H1, Sat (TrAt x tA M.tr :: MemP m M :: R) H1 → K x H1) : Call1 Tryz.prog con 19 [ptr m 0] H K := by
  refine call_of (hc _ _ _ rfl) ?_
  rw [memTrace_W]
  obtain ⟨h1, h2, s1, s2, d, ⟨bp, bl, tr, ⟨hn, hf⟩, hin⟩, hR⟩ := hs.opens hp
  have hs1 := Sat.merge s1 s2 d hin hR
  simp only [List.cons_append, List.nil_append] at hs1
  have hs2 : Sat (TrAt tr tA M.tr :: Own m [.iface tPl (ptr bp 0), .bool false, tr] :: Own bp [slc bl 0 M.cells.length M.cells.length, iN M.free] :: Row bl tU 0 true (M.cells.map u64) :: R) H := hs1.ent (by repeat (first | exact eN _ | exact eZ | apply eC (by repeat (first | exact pH | apply pT)) | refine eD ?_))
  obtain ⟨g1, g2, t1, t2, d2, ⟨vs, hvs, hva⟩, hR2⟩ := hs2.opens Pull.here
  have hs3 := Sat.merge t1 t2 d2 hva hR2
  have hV : Has (Vec tr tA 8 (List.zipWith encA M.tr vs) :: valsL M.tr vs ++ (Own m [.iface tPl (ptr bp 0), .bool false, tr] :: Own bp [slc bl 0 M.cells.length M.cells.length, iN M.free] :: Row bl tU 0 true (M.cells.map u64) :: R)) (Vec tr tA 8 (List.zipWith encA M.tr vs)) := Has.vec
  have hN : ∀ (i : Nat) (c : Acs) (v : Value), M.tr[i]? = some c → vs[i]? = some v → Has (Vec tr tA 8 (List.zipWith encA M.tr vs) :: valsL M.tr vs ++ (Own m [.iface tPl (ptr bp 0), .bool false, tr] :: Own bp [slc bl 0 M.cells.length M.cells.length, iN M.free] :: Row bl tU 0 true (M.cells.map u64) :: R)) (Nums v c.vals) := fun i c v h1 h2 => Has.skip (Has.vals h1 h2)
  have hC : HasCell (Vec tr tA 8 (List.zipWith encA M.tr vs) :: valsL M.tr vs ++ (Own m [.iface tPl (ptr bp 0), .bool false, tr] :: Own bp [slc bl 0 M.cells.length M.cells.length, iN M.free] :: Row bl tU 0 true (M.cells.map u64) :: R)) m [.iface tPl (ptr bp 0), .bool false, tr] := by
    have dr : ∀ (L1 : List HP), HasCell (L1 ++ (Own m [.iface tPl (ptr bp 0), .bool false, tr] :: Own bp [slc bl 0 M.cells.length M.cells.length, iN M.free] :: Row bl tU 0 true (M.cells.map u64) :: R)) m [.iface tPl (ptr bp 0), .bool false, tr] := fun L1 => by
      induction L1 with
      | nil => exact HasCell.obj
      | cons A L1 ih => exact @HasCell.skip A m _ _ ih
    exact dr _
  have hend : ∀ {H1} {A : List HP}, Sat (A ++ (Vec tr tA 8 (List.zipWith encA M.tr vs) :: valsL M.tr vs ++ (Own m [.iface tPl (ptr bp 0), .bool false, tr] :: Own bp [slc bl 0 M.cells.length M.cells.length, iN M.free] :: Row bl tU 0 true (M.cells.map u64) :: R))) H1 → Sat (A ++ (MemP m M :: R)) H1 := fun {H1} {A} h => by
    have un : ∀ (A : List HP) {L R : List HP} {h : PH}, (∀ h, SatL L h → SatL R h) → SatL (A ++ L) h → SatL (A ++ R) h := fun A => by
      induction A with
      | nil => exact fun f a => f _ a
      | cons B A ih => exact fun f a => SatL.under (fun g => ih f) a
    have fin : ∀ h, SatL (Vec tr tA 8 (List.zipWith encA M.tr vs) :: valsL M.tr vs ++ (Own m [.iface tPl (ptr bp 0), .bool false, tr] :: Own bp [slc bl 0 M.cells.length M.cells.length, iN M.free] :: Row bl tU 0 true (M.cells.map u64) :: R)) h → SatL (MemP m M :: R) h := fun h a => by
      have b : SatL (TrAt tr tA M.tr :: (Own m [.iface tPl (ptr bp 0), .bool false, tr] :: Own bp [slc bl 0 M.cells.length M.cells.length, iN M.free] :: Row bl tU 0 true (M.cells.map u64) :: R)) h := SatL.close (L1 := Vec tr tA 8 (List.zipWith encA M.tr vs) :: valsL M.tr vs) a fun g a => ⟨vs, hvs, a⟩
      have en : Ent (TrAt tr tA M.tr :: (Own m [.iface tPl (ptr bp 0), .bool false, tr] :: Own bp [slc bl 0 M.cells.length M.cells.length, iN M.free] :: Row bl tU 0 true (M.cells.map u64) :: R)) ([Own m [.iface tPl (ptr bp 0), .bool false, tr], Own bp [slc bl 0 M.cells.length M.cells.length, iN M.free], Row bl tU 0 true (M.cells.map u64), TrAt tr tA M.tr] ++ R) := (by repeat (first | exact eN _ | exact eZ | apply eC (by repeat (first | exact pH | apply pT)) | refine eD ?_))
      exact SatL.close (en h b) fun g a => ⟨bp, bl, tr, ⟨hn, hf⟩, a⟩
    exact Sat.mk (un A fin (Sat.out h))
  generalize (Vec tr tA 8 (List.zipWith encA M.tr vs) :: valsL M.tr vs ++ (Own m [.iface tPl (ptr bp 0), .bool false, tr] :: Own bp [slc bl 0 M.cells.length M.cells.length, iN M.free] :: Row bl tU 0 true (M.cells.map u64) :: R)) = L' at hs3 hV hN hC hend
  refine ld hs3 rfl ?_
  have lv : (List.zipWith encA M.tr vs).length = M.tr.length := by rw [List.length_zipWith, hvs, Nat.min_self]
  refine cloneA_ok hc hs3 hV (by rw [lv]; exact hl) fun x H1 h1 => ?_
  obtain ⟨px, ex⟩ := (h1.has Has.vec).shape
  rw [lv] at ex
  subst ex
  repeat (first | refine run ?_ | refine ct ?_ | refine cf ?_ | refine sk ?_ | refine la rfl ?_ | refine na fun _ _ _ => ?_ | refine sa rfl fun _ _ => ?_ | refine nk ?_ | refine mu ?_ | refine ac ?_ | refine ai ?_)
  refine LoopC.ind (n := 100) (by kernel_rfl) (fun (i : Nat) σ H => σ 3 = .slice px M.tr.length M.tr.length ∧ σ 13 = iN M.tr.length ∧ σ 14 = iN i ∧ i ≤ M.tr.length ∧ ∃ ws : List Value, ws.length = M.tr.length ∧ (∀ j, i ≤ j → ws[j]? = vs[j]?) ∧ Sat (Vec (.slice px M.tr.length M.tr.length) tA 8 (List.zipWith encA M.tr ws) :: (valsL (M.tr.take i) (ws.take i) ++ L')) H)
    (fun i => M.tr.length - i) (fun i σ H hI => ?_) 0 _ _ ⟨rfl, rfl, rfl, Nat.zero_le _, vs, hvs, fun _ _ => rfl, by rw [List.take_zero]; exact h1⟩
  obtain ⟨e3, e13, e14, hi, ws, hws, hwv, hs4⟩ := hI
  rw [memTraceL_W]
  simp only [e3, e13, e14]
  repeat (first | refine run ?_ | refine ct ?_ | refine cf ?_ | refine sk ?_ | refine la rfl ?_ | refine na fun _ _ _ => ?_ | refine sa rfl fun _ _ => ?_ | refine nk ?_ | refine mu ?_ | refine ac ?_ | refine ai ?_)
  have lw : ∀ us : List Value, us.length = M.tr.length → (List.zipWith encA M.tr us).length = M.tr.length := fun us h => by rw [List.length_zipWith, h, Nat.min_self]
  rcases Nat.lt_or_ge i M.tr.length with hlt | hge
  · refine Cd.t (ltZ_t (by omega)) ?_
    obtain ⟨a, ha⟩ : ∃ a, M.tr[i]? = some a := ⟨_, List.getElem?_eq_getElem hlt⟩
    obtain ⟨v, hv⟩ : ∃ v, vs[i]? = some v := ⟨_, List.getElem?_eq_getElem (by omega)⟩
    have hw : ws[i]? = some v := (hwv i (Nat.le_refl _)).trans hv
    obtain ⟨f1, f2, u1, u2, d4, ⟨q1, ⟨q2, q3⟩ | ⟨b, q2, q3, q4⟩⟩, q5⟩ := hs4.opens Pull.here
    · have e3 : M.tr.length = 0 := by injection q2
      omega
    rw [lw ws hws] at q3
    cases q3
    have hs5 : Sat (Row b tA 8 true (List.zipWith encA M.tr ws).flatten :: (valsL (M.tr.take i) (ws.take i) ++ L')) H := Sat.merge (L1 := [_]) u1 u2 d4 (SatL.one q4) q5
    repeat (first | refine run ?_ | refine ct ?_ | refine cf ?_ | refine sk ?_ | refine la rfl ?_ | refine na fun _ _ _ => ?_ | refine sa rfl fun _ _ => ?_ | refine nk ?_ | refine mu ?_ | refine ac ?_ | refine ai ?_)
    refine Must.mk (ltN_t hlt) ?_
    refine ldTr hs4 Has.vec rfl ha hw (j := 5) (by simp) (by omega) rfl ?_
    refine cloneN_ok hc hs5 (Has.skip (Has.app (hN i a v ha hv))) (hvl a (List.mem_of_getElem? ha)) fun v' H6 hv' h6 => ?_
    repeat (first | refine run ?_ | refine ct ?_ | refine cf ?_ | refine sk ?_ | refine la rfl ?_ | refine na fun _ _ _ => ?_ | refine sa rfl fun _ _ => ?_ | refine nk ?_ | refine mu ?_ | refine ac ?_ | refine ai ?_)
    refine Must.mk (ltN_t hlt) (Sc.mk hv' ?_)
    refine st h6 (by rw [flat_len (zip_len _ _), lw ws hws]; show 0 + i * 8 + 5 < M.tr.length * 8; omega) hv' fun H7 h7 => ?_
    rw [show Nat.add (Nat.add 0 (Nat.mul i 8)) 5 = i * 8 + 5 from by show 0 + i * 8 + 5 = _; omega, flat_set (zip_len _ _) i 5 _ v' (zip_get ha hw) (by omega)] at h7
    have e1 : (List.zipWith encA M.tr ws).set i ((encA a v).set 5 v') = List.zipWith encA M.tr (ws.set i v') := by
      apply List.ext_getElem?
      intro j
      rw [List.getElem?_set, List.getElem?_zipWith, List.getElem?_zipWith, List.getElem?_set]
      by_cases hj : i = j
      · subst hj
        rw [if_pos rfl, if_pos rfl, if_pos (by rw [lw ws hws]; exact hlt), if_pos (by omega), ha]
        rfl
      · rw [if_neg hj, if_neg hj]
    rw [e1] at h7
    repeat (first | refine run ?_ | refine ct ?_ | refine cf ?_ | refine sk ?_ | refine la rfl ?_ | refine na fun _ _ _ => ?_ | refine sa rfl fun _ _ => ?_ | refine nk ?_ | refine mu ?_ | refine ac ?_ | refine ai ?_)
    refine inR_nat (n := i + 1) (by omega) ?_
    show ∃ y, _ ∧ _
    refine ⟨i + 1, by omega, e3, e13, rfl, hlt, ws.set i v', by simp [hws], fun j hj => ?_, ?_⟩
    · rw [List.getElem?_set, if_neg (by omega)]; exact hwv j (by omega)
    · have h8 : Sat (Vec (slc b 0 M.tr.length M.tr.length) tA 8 (List.zipWith encA M.tr (ws.set i v')) :: Nums v' a.vals :: (valsL (M.tr.take i) (ws.take i) ++ L')) H7 := (h7.ent (by repeat (first | exact Ent.refl _ | apply Ent.cons (by repeat (first | exact pH | apply pT)) | refine Ent.drop ?_))).imp fun g r => ⟨zip_len _ _, .inr ⟨b, by
          intro h0; have := lw (ws.set i v') (by simp [hws]); rw [h0] at this; simp at this; omega, by rw [lw _ (by simp [hws])], r⟩⟩
      have e2 : valsL (M.tr.take (i + 1)) ((ws.set i v').take (i + 1)) = valsL (M.tr.take i) (ws.take i) ++ [Nums v' a.vals] := by
        have t1 : M.tr.take (i + 1) = M.tr.take i ++ [a] := by rw [List.take_add_one, ha]; rfl
        have t2 : (ws.set i v').take (i + 1) = ws.take i ++ [v'] := by
          rw [List.take_add_one, List.getElem?_set, if_pos rfl, if_pos (by omega), List.take_set_of_le (Nat.le_refl _)]; rfl
        rw [t1, t2]
        exact zip_snoc _ (by simp; omega) a v'
      rw [e2, List.append_assoc]
      refine h8.ent ?_
      refine Ent.cons Pull.here ?_
      have mv : ∀ (L1 : List HP) {A : HP} {R : List HP}, Ent (A :: (L1 ++ R)) (L1 ++ ([A] ++ R)) := fun L1 => by
        induction L1 with
        | nil => exact fun {A R} => Ent.refl _
        | cons B L1 ih => exact fun {A R} => Ent.cons (Pull.there Pull.here) ih
      exact mv _
  · refine Cd.f (ltZ_f (by omega)) ?_
    show Cd _ _ _
    refine Cd.t (eqN_self 0) ?_
    have hie : i = M.tr.length := by omega
    subst hie
    rw [List.take_length, List.take_of_length_le (by omega)] at hs4
    have h9 : Sat ((Vec (.slice px M.tr.length M.tr.length) tA 8 (List.zipWith encA M.tr ws) :: valsL M.tr ws) ++ (MemP m M :: R)) H := hend hs4
    have e : (upd σ 15 (.bool (ltZ (Int.ofNat M.tr.length) (Int.ofNat M.tr.length)))) 3 = .slice px M.tr.length M.tr.length := e3
    show K ((upd σ 15 _) 3) H
    rw [e]
    exact k _ _ (h9.close fun g a => ⟨ws, hws, a⟩)
end Go.Proofs.YtipbbnoepphdkaaGreat

set_option linter.unusedVariables false
set_option linter.unusedSimpArgs false
namespace Go.Proofs.YtipbbnoepphdkaaGreat
open Go Go.CM
attribute [local irreducible] AsBool AsWant AsNat AsInt AsCnt AsPtr AsSlc AsLen AsStr AsAgg AsTup AsFn AsIfc Nth Sc NotNil IsNil Must Cd codeW funW Sat SatL wrapN subM mkRow ltZ leZ ltN leN
variable {con : CallT}
/-! ### what is needed -/
def asksB (a b t : Nat) : Bool := decide (a ≤ t) && decide (t < b)
def needed (fl : Nat) (st : List Nat) (a b : Nat) : Bool := if b ≤ a then false else if fl < b then true else st.any (asksB a b)
end Go.Proofs.YtipbbnoepphdkaaGreat

set_option linter.unusedVariables false
set_option linter.unusedSimpArgs false
namespace Go.Proofs.YtipbbnoepphdkaaGreat
open Go Go.CM
attribute [local irreducible] AsBool AsWant AsNat AsInt AsCnt AsPtr AsSlc AsLen AsStr AsAgg AsTup AsFn AsIfc Nth Sc NotNil IsNil Must Cd codeW funW Sat SatL wrapN subM mkRow ltZ leZ ltN leN
variable {con : CallT}
end Go.Proofs.YtipbbnoepphdkaaGreat

set_option linter.unusedVariables false
set_option linter.unusedSimpArgs false
namespace Go.Proofs.YtipbbnoepphdkaaGreat
open Go Go.CM
attribute [local irreducible] AsBool AsWant AsNat AsInt AsCnt AsPtr AsSlc AsLen AsStr AsAgg AsTup AsFn AsIfc Nth Sc NotNil IsNil Must Cd codeW funW Sat SatL wrapN subM mkRow ltZ leZ ltN leN
variable {con : CallT}
theorem refCas_ok (hc : Con con lives) {L R : List HP} {H : CH} {m a x y : Nat} {th : Int} {M : Mem} {K : KP} (hs : Sat L H) (hp : Pull L (RefP m M) R) (ht : M.tr.length < 1000000000)
    (k : ∀ H1, Sat (RefP m (M.cas th a x y) :: R) H1 → K (.bool (M.swaps a x)) H1) : Call1 Tryz.prog con 133 [ptr m 0, i64 th, u64 a, u64 x, u64 y] H K := by
  refine call_of (hc _ _ _ rfl) ?_
  rw [refCas_W]
  have hs0 := hs.pull hp
  obtain ⟨h1, h2, s1, s2, d, ⟨bl, tr, ⟨hn1, hf1⟩, hin⟩, hR⟩ := hs0.opens Pull.here
  have hs1 := Sat.merge s1 s2 d hin hR
  simp only [List.cons_append, List.nil_append] at hs1
  repeat (first | refine run ?_ | refine ct ?_ | refine cf ?_ | refine sk ?_ | refine la rfl ?_ | refine na fun _ _ _ => ?_ | refine sa rfl fun _ _ => ?_ | refine nk ?_ | refine mu ?_ | refine ac ?_ | refine ai ?_)
  refine Must.mk (cv_small (by omega)) ?_
  rw [wrapN_small (by omega)]
  by_cases hlt : a < M.cells.length
  · refine Cd.t (ltN_t hlt) ?_
    repeat (first | refine run ?_ | refine ct ?_ | refine cf ?_ | refine sk ?_ | refine la rfl ?_ | refine na fun _ _ _ => ?_ | refine sa rfl fun _ _ => ?_ | refine nk ?_ | refine mu ?_ | refine ac ?_ | refine ai ?_)
    refine Must.mk (ltN_t hlt) (ld hs1 (by rw [off1]; exact map_get _ hlt) ?_)
    repeat (first | refine run ?_ | refine ct ?_ | refine cf ?_ | refine sk ?_ | refine la rfl ?_ | refine na fun _ _ _ => ?_ | refine sa rfl fun _ _ => ?_ | refine nk ?_ | refine mu ?_ | refine ac ?_ | refine ai ?_)
    by_cases e : M.peek a = x
    · have es : M.swaps a x = true := by unfold Mem.swaps; rw [decide_eq_true hlt, decide_eq_true e]; rfl
      have e2 : M.cas th a x y = (M.put a y).note (accCas th a x y true) := by unfold Mem.cas; rw [es]; rfl
      rw [e2, es] at k
      refine Cd.t (eqN_t e) ?_
      refine refSet_ok hc hs0 (by repeat (first | exact pH | apply pT)) fun H1 h1 => ?_
      rw [show eqN (M.cells.getD a 0) x = true from eqN_t e]
      exact refNote_ok (M := M.put a y) (c := accCas th a x y true) (v0 := snil) hc h1.nil (by repeat (first | exact pH | apply pT)) (by repeat (first | exact pH | apply pT)) ht rfl fun H1 h => k _ h
    · have es : M.swaps a x = false := by unfold Mem.swaps; rw [decide_eq_false e, Bool.and_false]
      have e2 : M.cas th a x y = M.note (accCas th a x y false) := by unfold Mem.cas; rw [es]; rfl
      rw [e2, es] at k
      refine Cd.f (eqN_f e) ?_
      rw [show eqN (M.cells.getD a 0) x = false from eqN_f e]
      exact refNote_ok (c := accCas th a x y false) (v0 := snil) hc hs0.nil (by repeat (first | exact pH | apply pT)) (by repeat (first | exact pH | apply pT)) ht rfl fun H1 h => k _ h
  · have es : M.swaps a x = false := by unfold Mem.swaps; rw [decide_eq_false hlt]; rfl
    have e2 : M.cas th a x y = M.note (accCas th a x y false) := by unfold Mem.cas; rw [es]; rfl
    rw [e2, es] at k
    refine Cd.f (ltN_f (by omega)) ?_
    exact refNote_ok (c := accCas th a x y false) (v0 := snil) hc hs0.nil (by repeat (first | exact pH | apply pT)) (by repeat (first | exact pH | apply pT)) ht rfl fun H1 h => k _ h
end Go.Proofs.YtipbbnoepphdkaaGreat

set_option linter.unusedVariables false
set_option linter.unusedSimpArgs false
namespace Go.Proofs.YtipbbnoepphdkaaGreat
open Go Go.CM
attribute [local irreducible] AsBool AsWant AsNat AsInt AsCnt AsPtr AsSlc AsLen AsStr AsAgg AsTup AsFn AsIfc Nth Sc NotNil IsNil Must Cd codeW funW Sat SatL wrapN subM mkRow ltZ leZ ltN leN
variable {con : CallT}
/-! ### words of slots, in the program and in the document -/
theorem slot_eq (H : CH) (a0 a1 a2 b0 b1 b2 : Nat) : ceq Tryz.prog H 10000 202 (.agg ⟨[u8 a0, u64 a1, u64 a2]⟩) (.agg ⟨[u8 b0, u64 b1, u64 b2]⟩) = some (eqN a0 b0 && (eqN a1 b1 && (eqN a2 b2 && true))) := by
  have e : ceq Tryz.prog H 10000 202 (.agg ⟨[u8 a0, u64 a1, u64 a2]⟩) (.agg ⟨[u8 b0, u64 b1, u64 b2]⟩) = brk (Int.ofNat a0 == Int.ofNat b0) (brk (Int.ofNat a1 == Int.ofNat b1) (brk (Int.ofNat a2 == Int.ofNat b2) (some true))) := by kernel_rfl
  rw [e, eqInt, eqInt, eqInt, brk_eq, brk_eq, brk_eq]
theorem slot_guard : Tryz.prog.eqGuardType Tryz.prog.depth 202 = false := by kernel_rfl
abbrev unpackL (w : Nat) : List Value := [u8 (kindW w), u64 (genW w), u64 (stampW w)]
theorem wordUnpack_ok (hc : Con con lives) {L : List HP} {H : CH} {w : Nat} {K : KP} (hs : Sat L H) (hw : w < 18446744073709551616) (k : ∀ H1, Sat L H1 → K (.agg ⟨unpackL w⟩) H1) : Call1 Tryz.prog con 82 [u64 w] H K := by
  refine call_of (hc _ _ _ rfl) ?_
  rw [wordUnpack_W]
  repeat (first | refine run ?_ | refine ct ?_ | refine cf ?_ | refine sk ?_ | refine la rfl ?_ | refine na fun _ _ _ => ?_ | refine sa rfl fun _ _ => ?_ | refine nk ?_ | refine mu ?_ | refine ac ?_ | refine ai ?_)
  refine CInt.and hw (by omega) (and3 w) ?_
  repeat (first | refine run ?_ | refine ct ?_ | refine cf ?_ | refine sk ?_ | refine la rfl ?_ | refine na fun _ _ _ => ?_ | refine sa rfl fun _ _ => ?_ | refine nk ?_ | refine mu ?_ | refine ac ?_ | refine ai ?_)
  refine CInt.and (by show w / 4 < _; omega) (by omega) (and20 _) ?_
  repeat (first | refine run ?_ | refine ct ?_ | refine cf ?_ | refine sk ?_ | refine la rfl ?_ | refine na fun _ _ _ => ?_ | refine sa rfl fun _ _ => ?_ | refine nk ?_ | refine mu ?_ | refine ac ?_ | refine ai ?_)
  rename_i p1 H2 h2
  refine stN h2 (Nat.le_of_ble_eq_true rfl) rfl fun H6 h6 => ?_
  repeat (first | refine run ?_ | refine ct ?_ | refine cf ?_ | refine sk ?_ | refine la rfl ?_ | refine na fun _ _ _ => ?_ | refine sa rfl fun _ _ => ?_ | refine nk ?_ | refine mu ?_ | refine ac ?_ | refine ai ?_)
  have e : unpackL w = [u8 (Nat.mod (w % 4) 256), u64 (w / 4 % 1048576), u64 (w / 4194304)] := by
    unfold unpackL kindW genW stampW
    rw [show Nat.mod (w % 4) 256 = w % 4 from Nat.mod_eq_of_lt (by omega)]
  have := k H6 (h6.ent (by repeat (first | exact eN _ | exact eZ | apply eC (by repeat (first | exact pH | apply pT)) | refine eD ?_)))
  rw [e] at this
  exact this
theorem rUnpack_ok (hc : Con con lives) {L : List HP} {H : CH} {w : Nat} {K : KP} (hs : Sat L H) (hw : w < 18446744073709551616) (k : ∀ H1, Sat L H1 → K (.agg ⟨unpackL w⟩) H1) : Call1 Tryz.prog con 85 [u64 w] H K := by
  refine call_of (hc _ _ _ rfl) ?_
  rw [rUnpack_W]
  repeat (first | refine run ?_ | refine ct ?_ | refine cf ?_ | refine sk ?_ | refine la rfl ?_ | refine na fun _ _ _ => ?_ | refine sa rfl fun _ _ => ?_ | refine nk ?_ | refine mu ?_ | refine ac ?_ | refine ai ?_)
  rename_i p1 H2 h2
  refine stN h2 (Nat.le_of_ble_eq_true rfl) rfl fun H6 h6 => ?_
  repeat (first | refine run ?_ | refine ct ?_ | refine cf ?_ | refine sk ?_ | refine la rfl ?_ | refine na fun _ _ _ => ?_ | refine sa rfl fun _ _ => ?_ | refine nk ?_ | refine mu ?_ | refine ac ?_ | refine ai ?_)
  have e : unpackL w = [u8 (Nat.mod (Nat.mod w 4) 256), u64 (Nat.mod (Nat.mod (Nat.div w 4) 18446744073709551616) 1048576), u64 (Nat.mod (Nat.div (Nat.mod (Nat.div w 4) 18446744073709551616) 1048576) 18446744073709551616)] := by
    unfold unpackL kindW genW stampW
    have h1 : Nat.mod (Nat.mod w 4) 256 = w % 4 := by show w % 4 % 256 = _; omega
    have h2 : Nat.mod (Nat.mod (Nat.div w 4) 18446744073709551616) 1048576 = w / 4 % 1048576 := by show w / 4 % 18446744073709551616 % 1048576 = _; omega
    have h3 : Nat.mod (Nat.div (Nat.mod (Nat.div w 4) 18446744073709551616) 1048576) 18446744073709551616 = w / 4194304 := by show w / 4 % 18446744073709551616 / 1048576 % 18446744073709551616 = _; omega
    rw [h1, h2, h3]
  have := k H6 (h6.ent (by repeat (first | exact eN _ | exact eZ | apply eC (by repeat (first | exact pH | apply pT)) | refine eD ?_)))
  rw [e] at this
  exact this
theorem wordPack_ok (hc : Con con lives) {L : List HP} {H : CH} {c g : Nat} {K : KP} (hs : Sat L H) (h3 : c ≤ 3) (hg : g < 1048576) (k : ∀ H1, Sat L H1 → K (.tuple ⟨[u64 (c + 4 * g), iN 0]⟩) H1) : Call1 Tryz.prog con 150 [.agg ⟨[u8 c, u64 g, u64 0]⟩] H K := by
  refine call_of (hc _ _ _ rfl) ?_
  rw [wordPack_W]
  repeat (first | refine run ?_ | refine ct ?_ | refine cf ?_ | refine sk ?_ | refine la rfl ?_ | refine na fun _ _ _ => ?_ | refine sa rfl fun _ _ => ?_ | refine nk ?_ | refine mu ?_ | refine ac ?_ | refine ai ?_)
  refine Cd.f (ltN_f h3) ?_
  repeat (first | refine run ?_ | refine ct ?_ | refine cf ?_ | refine sk ?_ | refine la rfl ?_ | refine na fun _ _ _ => ?_ | refine sa rfl fun _ _ => ?_ | refine nk ?_ | refine mu ?_ | refine ac ?_ | refine ai ?_)
  refine Cd.f (leN_f hg) ?_
  repeat (first | refine run ?_ | refine ct ?_ | refine cf ?_ | refine sk ?_ | refine la rfl ?_ | refine na fun _ _ _ => ?_ | refine sa rfl fun _ _ => ?_ | refine nk ?_ | refine mu ?_ | refine ac ?_ | refine ai ?_)
  refine Must.mk (ltN_t (by omega)) ?_
  repeat (first | refine run ?_ | refine ct ?_ | refine cf ?_ | refine sk ?_ | refine la rfl ?_ | refine na fun _ _ _ => ?_ | refine sa rfl fun _ _ => ?_ | refine nk ?_ | refine mu ?_ | refine ac ?_ | refine ai ?_)
  refine CInt.or (m := c + 4 * g) (by omega) (Nat.mod_lt _ (by omega)) ?_ (by omega) ?_
  · rw [show Nat.mod (Nat.mul g 4) 18446744073709551616 = g * 4 from Nat.mod_eq_of_lt (by show g * 4 < _; omega)]
    exact or4 (by omega)
  repeat (first | refine run ?_ | refine ct ?_ | refine cf ?_ | refine sk ?_ | refine la rfl ?_ | refine na fun _ _ _ => ?_ | refine sa rfl fun _ _ => ?_ | refine nk ?_ | refine mu ?_ | refine ac ?_ | refine ai ?_)
  refine CInt.or (m := c + 4 * g) (by omega) (Nat.mod_lt _ (by omega)) (Nat.or_zero _) (by omega) ?_
  exact k _ (Sat.ent (by assumption) (by repeat (first | exact eN _ | exact eZ | apply eC (by repeat (first | exact pH | apply pT)) | refine eD ?_)))
theorem wordPack1_ok (hc : Con con lives) {L : List HP} {H : CH} {K : KP} (hs : Sat L H) (k : ∀ H1, Sat L H1 → K (.tuple ⟨[u64 4194304, iN 0]⟩) H1) : Call1 Tryz.prog con 150 [.agg ⟨[u8 0, u64 0, u64 1]⟩] H K := by
  refine call_of (hc _ _ _ rfl) ?_
  rw [wordPack_W]
  repeat (first | refine run ?_ | refine ct ?_ | refine cf ?_ | refine sk ?_ | refine la rfl ?_ | refine na fun _ _ _ => ?_ | refine sa rfl fun _ _ => ?_ | refine nk ?_ | refine mu ?_ | refine ac ?_ | refine ai ?_)
  refine Must.mk (ltN_t (by omega)) ?_
  repeat (first | refine run ?_ | refine ct ?_ | refine cf ?_ | refine sk ?_ | refine la rfl ?_ | refine na fun _ _ _ => ?_ | refine sa rfl fun _ _ => ?_ | refine nk ?_ | refine mu ?_ | refine ac ?_ | refine ai ?_)
  refine CInt.or (m := 0) (by omega) (by decide) (by decide) (by omega) ?_
  repeat (first | refine run ?_ | refine ct ?_ | refine cf ?_ | refine sk ?_ | refine la rfl ?_ | refine na fun _ _ _ => ?_ | refine sa rfl fun _ _ => ?_ | refine nk ?_ | refine mu ?_ | refine ac ?_ | refine ai ?_)
  refine CInt.or (m := 4194304) (by omega) (by decide) (by decide) (by omega) ?_
  exact k _ (Sat.ent (by assumption) (by repeat (first | exact eN _ | exact eZ | apply eC (by repeat (first | exact pH | apply pT)) | refine eD ?_)))
theorem annPack_ok (hc : Con con lives) {L : List HP} {H : CH} {c g t : Nat} {K : KP} (hs : Sat L H) (h3 : c ≤ 3) (k : ∀ H1, Sat L H1 → K (u64 (slotW c g t)) H1) : Call1 Tryz.prog con 130 [.agg ⟨[u8 c, u64 g, u64 t]⟩] H K := by
  refine call_of (hc _ _ _ rfl) ?_
  rw [annPack_W]
  repeat (first | refine run ?_ | refine ct ?_ | refine cf ?_ | refine sk ?_ | refine la rfl ?_ | refine na fun _ _ _ => ?_ | refine sa rfl fun _ _ => ?_ | refine nk ?_ | refine mu ?_ | refine ac ?_ | refine ai ?_)
  refine wordPack_ok hc (by assumption) h3 (Nat.mod_lt _ (by omega)) fun H7 h7 => ?_
  refine AsTup.mk (Nth.mk rfl (AsTup.mk (Nth.mk rfl ?_)))
  refine wordPack1_ok hc h7 fun H13 h13 => ?_
  refine AsTup.mk (Nth.mk rfl (AsTup.mk (Nth.mk rfl ?_)))
  repeat (first | refine run ?_ | refine ct ?_ | refine cf ?_ | refine sk ?_ | refine la rfl ?_ | refine na fun _ _ _ => ?_ | refine sa rfl fun _ _ => ?_ | refine nk ?_ | refine mu ?_ | refine ac ?_ | refine ai ?_)
  have e : slotW c g t = Nat.mod (Nat.add (c + 4 * (Nat.mod g 1048576)) (Nat.mod (Nat.mul 4194304 t) 18446744073709551616)) 18446744073709551616 := by
    show _ = (c + 4 * (g % 1048576) + (4194304 * t) % 18446744073709551616) % 18446744073709551616
    unfold slotW
    rw [Nat.mul_comm t, Nat.add_mod_mod]
  rw [← e]
  exact k _ (h13.ent (by repeat (first | exact eN _ | exact eZ | apply eC (by repeat (first | exact pH | apply pT)) | refine eD ?_)))
theorem rWord_ok (hc : Con con lives) {L : List HP} {H : CH} {c g t : Nat} {K : KP} (hs : Sat L H) (h3 : c ≤ 3) (k : ∀ H1, Sat L H1 → K (u64 (slotW c g t)) H1) : Call1 Tryz.prog con 151 [.agg ⟨[u8 c, u64 g, u64 t]⟩] H K := by
  refine call_of (hc _ _ _ rfl) ?_
  rw [rWord_W]
  repeat (first | refine run ?_ | refine ct ?_ | refine cf ?_ | refine sk ?_ | refine la rfl ?_ | refine na fun _ _ _ => ?_ | refine sa rfl fun _ _ => ?_ | refine nk ?_ | refine mu ?_ | refine ac ?_ | refine ai ?_)
  refine Must.mk (ltN_t (by omega)) ?_
  repeat (first | refine run ?_ | refine ct ?_ | refine cf ?_ | refine sk ?_ | refine la rfl ?_ | refine na fun _ _ _ => ?_ | refine sa rfl fun _ _ => ?_ | refine nk ?_ | refine mu ?_ | refine ac ?_ | refine ai ?_)
  have e : slotW c g t = Nat.mod (Nat.add (Nat.mod (Nat.add (Nat.mod c 4) (Nat.mod (Nat.mul 4 (Nat.mod g 1048576)) 18446744073709551616)) 18446744073709551616) (Nat.mod (Nat.mul (Nat.mod (Nat.mul t 4) 18446744073709551616) 1048576) 18446744073709551616)) 18446744073709551616 := by
    show _ = ((c % 4 + 4 * (g % 1048576) % 18446744073709551616) % 18446744073709551616 + (t * 4 % 18446744073709551616 * 1048576) % 18446744073709551616) % 18446744073709551616
    unfold slotW
    omega
  rw [← e]
  exact k _ (Sat.ent (by assumption) (by repeat (first | exact eN _ | exact eZ | apply eC (by repeat (first | exact pH | apply pT)) | refine eD ?_)))
theorem rWord13_ok (hc : Con con lives) {L : List HP} {H : CH} {c g t : Nat} {K : KP} (hs : Sat L H) (h3 : c ≤ 3) (k : ∀ H1, Sat L H1 → K (u64 (slotW c g t)) H1) : Call1 Tryz.prog con 134 [u8 c, u64 g, u64 t] H K := by
  refine call_of (hc _ _ _ rfl) ?_
  rw [rWord13_W]
  exact rWord_ok hc hs h3 k
/-! ### handles -/
def hOk (h : Nat) : Bool := decide (1 ≤ h % 65536) && (decide (h % 65536 ≤ 256) && decide (h / 65536 < 1048576))
theorem wordHandle_ok (hc : Con con lives) {H : CH} {i g : Nat} {K : KP} (hi : i < 256) (hg : g < 1048576) (k : K (.tuple ⟨[u64 (i + 1 + g * 65536), iN 0]⟩) H) : Call1 Tryz.prog con 136 [iN i, u64 g] H K := by
  refine call_of (hc _ _ _ rfl) ?_
  rw [wordHandle_W]
  refine Cd.f (ltZ_f (by omega)) (Cd.f (leZ_f hi) (Cd.f (leN_f hg) (Must.mk (cv_small (by omega)) ?_)))
  have e : Nat.mod (Nat.add (Nat.mod (Nat.add (wrapN .u64 (Int.ofNat i)) 1) 18446744073709551616) (Nat.mod (Nat.mul 65536 g) 18446744073709551616)) 18446744073709551616 = i + 1 + g * 65536 := by
    rw [wrapN_small (by omega)]
    show ((i + 1) % 18446744073709551616 + 65536 * g % 18446744073709551616) % 18446744073709551616 = _
    omega
  rw [e]
  exact k
theorem wordUnhandle_ok (hc : Con con lives) {H : CH} {h : Nat} {K : KP} (hh : h < 18446744073709551616) (kf : hOk h = false → K (.tuple ⟨[iN 0, u64 0, iN 33]⟩) H) (kt : hOk h = true → K (.tuple ⟨[iN (h % 65536 - 1), u64 (h / 65536), iN 0]⟩) H) :
    Call1 Tryz.prog con 131 [u64 h] H K := by
  refine call_of (hc _ _ _ rfl) ?_
  rw [wordUnhandle_W]
  have e1 : IntKind.wrap .i64 (Int.ofNat (Nat.mod h 65536)) = Int.ofNat (h % 65536) := wrapI_small (by show h % 65536 < _; omega)
  have e2 : Nat.mod (Nat.div h 65536) 18446744073709551616 = h / 65536 := Nat.mod_eq_of_lt (by show h / 65536 < _; omega)
  rw [e1, e2]
  by_cases h0 : h % 65536 = 0
  · have e3 : Int.sub (Int.ofNat (h % 65536)) (Int.ofNat 1) = Int.negSucc 0 := by rw [h0]; rfl
    rw [e3]
    have hf : hOk h = false := by unfold hOk; rw [decide_eq_false (by omega)]; rfl
    refine ⟨⟨by decide, by decide⟩, ?_⟩
    refine call_of (hc _ _ _ rfl) ?_
    rw [wordHandle_W]
    refine Cd.t ltZ_neg ?_
    refine AsTup.mk (Nth.mk rfl (AsTup.mk (Nth.mk rfl (AsInt.mk (Cd.t rfl (kf hf))))))
  · rw [subInt (by omega)]
    refine inR_nat (by omega) ?_
    refine call_of (hc _ _ _ rfl) ?_
    rw [wordHandle_W]
    refine Cd.f (ltZ_f (by omega)) ?_
    by_cases h1 : 256 ≤ h % 65536 - 1
    · have hf : hOk h = false := by unfold hOk; rw [decide_eq_false (show ¬ h % 65536 ≤ 256 by omega)]; simp
      exact Cd.t (leZ_t h1) (AsTup.mk (Nth.mk rfl (AsTup.mk (Nth.mk rfl (AsInt.mk (Cd.t rfl (kf hf)))))))
    refine Cd.f (leZ_f (by omega)) ?_
    by_cases h2 : 1048576 ≤ h / 65536
    · have hf : hOk h = false := by unfold hOk; rw [decide_eq_false (show ¬ h / 65536 < 1048576 by omega)]; simp
      exact Cd.t (leN_t h2) (AsTup.mk (Nth.mk rfl (AsTup.mk (Nth.mk rfl (AsInt.mk (Cd.t rfl (kf hf)))))))
    refine Cd.f (leN_f (by omega)) (Must.mk (cv_small (by omega)) ?_)
    have e : Nat.mod (Nat.add (Nat.mod (Nat.add (wrapN .u64 (Int.ofNat (h % 65536 - 1))) 1) 18446744073709551616) (Nat.mod (Nat.mul 65536 (h / 65536)) 18446744073709551616)) 18446744073709551616 = h := by
      rw [wrapN_small (by omega)]
      show ((h % 65536 - 1 + 1) % 18446744073709551616 + 65536 * (h / 65536) % 18446744073709551616) % 18446744073709551616 = _
      omega
    rw [e]
    have ht : hOk h = true := by unfold hOk; rw [decide_eq_true (show 1 ≤ h % 65536 by omega), decide_eq_true (show h % 65536 ≤ 256 by omega), decide_eq_true (show h / 65536 < 1048576 by omega)]; rfl
    exact AsTup.mk (Nth.mk rfl (AsTup.mk (Nth.mk rfl (AsInt.mk (Cd.f rfl (AsNat.mk (Cd.f (by rw [eqN_self]; rfl) (kt ht))))))))
theorem rUnhandle_ok (hc : Con con lives) {H : CH} {h : Nat} {K : KP} (hh : h < 18446744073709551616) (kf : hOk h = false → K (.tuple ⟨[iN 0, u64 0, iN 33]⟩) H) (kt : hOk h = true → K (.tuple ⟨[iN (h % 65536 - 1), u64 (h / 65536), iN 0]⟩) H) :
    Call1 Tryz.prog con 41 [u64 h] H K := by
  refine call_of (hc _ _ _ rfl) ?_
  rw [rUnhandle_W]
  have e1 : IntKind.wrap .i64 (Int.ofNat (Nat.mod h 65536)) = Int.ofNat (h % 65536) := wrapI_small (by show h % 65536 < _; omega)
  have e2 : Nat.mod (Nat.div h 65536) 18446744073709551616 = h / 65536 := Nat.mod_eq_of_lt (by show h / 65536 < _; omega)
  rw [e1, e2]
  by_cases h0 : h % 65536 < 1
  · have hf : hOk h = false := by unfold hOk; rw [decide_eq_false (by omega)]; rfl
    exact Cd.t (ltN_t h0) (kf hf)
  refine Cd.f (ltN_f (show 1 ≤ h % 65536 by omega)) ?_
  by_cases h1 : 256 < h % 65536
  · have hf : hOk h = false := by unfold hOk; rw [decide_eq_false (show ¬ h % 65536 ≤ 256 by omega)]; simp
    exact Cd.t (ltN_t h1) (kf hf)
  refine Cd.f (ltN_f (show h % 65536 ≤ 256 by omega)) ?_
  by_cases h2 : 1048576 ≤ h / 65536
  · have hf : hOk h = false := by unfold hOk; rw [decide_eq_false (show ¬ h / 65536 < 1048576 by omega)]; simp
    exact Cd.t (leN_t h2) (kf hf)
  refine Cd.f (leN_f (by omega)) ?_
  rw [subInt (by omega)]
  refine inR_nat (by omega) ?_
  have ht : hOk h = true := by unfold hOk; rw [decide_eq_true (show 1 ≤ h % 65536 by omega), decide_eq_true (show h % 65536 ≤ 256 by omega), decide_eq_true (show h / 65536 < 1048576 by omega)]; rfl
  exact kt ht
/-! ### where slots lie -/
structure SlotsS where
  cam : Nat
  first : Nat
  count : Int
  most : Nat
def cnt (z : Int) : Nat := match z with | .ofNat k => if 256 < k then 256 else k | .negSucc _ => 0
theorem cnt_le (z : Int) : cnt z ≤ 256 := by
  unfold cnt
  split
  · split <;> omega
  · omega
theorem annCount_ok (hc : Con con lives) (s : SlotsS) {L : List HP} {H : CH} {K : KP} (hs : Sat L H) (k : ∀ H1, Sat L H1 → K (iN (cnt s.count)) H1) : Call1 Tryz.prog con 81 [.agg ⟨[u64 s.cam, u64 s.first, i64 s.count, u64 s.most]⟩] H K := by
  refine call_of (hc _ _ _ rfl) ?_
  rw [annCount_W]
  repeat (first | refine run ?_ | refine ct ?_ | refine cf ?_ | refine sk ?_ | refine la rfl ?_ | refine na fun _ _ _ => ?_ | refine sa rfl fun _ _ => ?_ | refine nk ?_ | refine mu ?_ | refine ac ?_ | refine ai ?_)
  have k' := k _ (Sat.ent (by assumption) (by repeat (first | exact eN _ | exact eZ | apply eC (by repeat (first | exact pH | apply pT)) | refine eD ?_)))
  obtain ⟨cam, first, count, most⟩ := s
  revert k'
  unfold cnt
  cases count with
  | negSucc n =>
    intro k'
    exact Cd.f (ltZ_ns _ _) (Cd.f (ltZ_ns _ _) k')
  | ofNat n =>
    intro k'
    simp only at k'
    by_cases h : 256 < n
    · rw [if_pos h] at k'
      exact Cd.t (ltZ_t h) k'
    · rw [if_neg h] at k'
      refine Cd.f (ltZ_f (by omega)) (Cd.of (fun _ => k') fun h0 => ?_)
      have := ltZ_n h0
      have e : n = 0 := by omega
      subst e
      exact k'
theorem rCount_ok (hc : Con con lives) (s : SlotsS) {L : List HP} {H : CH} {K : KP} (hs : Sat L H) (k : ∀ H1, Sat L H1 → K (iN (cnt s.count)) H1) : Call1 Tryz.prog con 84 [.agg ⟨[u64 s.cam, u64 s.first, i64 s.count, u64 s.most]⟩] H K := by
  refine call_of (hc _ _ _ rfl) ?_
  rw [rCount_W]
  repeat (first | refine run ?_ | refine ct ?_ | refine cf ?_ | refine sk ?_ | refine la rfl ?_ | refine na fun _ _ _ => ?_ | refine sa rfl fun _ _ => ?_ | refine nk ?_ | refine mu ?_ | refine ac ?_ | refine ai ?_)
  have k' := k _ (Sat.ent (by assumption) (by repeat (first | exact eN _ | exact eZ | apply eC (by repeat (first | exact pH | apply pT)) | refine eD ?_)))
  obtain ⟨cam, first, count, most⟩ := s
  revert k'
  unfold cnt
  cases count with
  | negSucc n =>
    intro k'
    refine Cd.t ltZ_neg k'
  | ofNat n =>
    intro k'
    simp only at k'
    refine Cd.f (ltZ_f (Nat.zero_le _)) ?_
    refine ld (by assumption) rfl (AsInt.mk ?_)
    by_cases h : 256 < n
    · rw [if_pos h] at k'
      exact Cd.t (ltZ_t h) k'
    · rw [if_neg h] at k'
      exact Cd.f (ltZ_f (by omega)) (ld (by assumption) rfl k')
theorem annCell_ok (hc : Con con lives) (s : SlotsS) {i : Nat} {L : List HP} {H : CH} {K : KP} (hs : Sat L H) (hi : i < 1000000000) (k : ∀ H1, Sat L H1 → K (u64 (addM s.first i)) H1) : Call1 Tryz.prog con 83 [.agg ⟨[u64 s.cam, u64 s.first, i64 s.count, u64 s.most]⟩, iN i] H K := by
  refine call_of (hc _ _ _ rfl) ?_
  rw [annCell_W]
  repeat (first | refine run ?_ | refine ct ?_ | refine cf ?_ | refine sk ?_ | refine la rfl ?_ | refine na fun _ _ _ => ?_ | refine sa rfl fun _ _ => ?_ | refine nk ?_ | refine mu ?_ | refine ac ?_ | refine ai ?_)
  refine Must.mk (cv_small (by omega)) ?_
  repeat (first | refine run ?_ | refine ct ?_ | refine cf ?_ | refine sk ?_ | refine la rfl ?_ | refine na fun _ _ _ => ?_ | refine sa rfl fun _ _ => ?_ | refine nk ?_ | refine mu ?_ | refine ac ?_ | refine ai ?_)
  rw [wrapN_small (by omega)]
  exact k _ (Sat.ent (by assumption) (by repeat (first | exact eN _ | exact eZ | apply eC (by repeat (first | exact pH | apply pT)) | refine eD ?_)))
end Go.Proofs.YtipbbnoepphdkaaGreat

set_option linter.unusedVariables false
set_option linter.unusedSimpArgs false
namespace Go.Proofs.YtipbbnoepphdkaaGreat
open Go Go.CM
attribute [local irreducible] AsBool AsWant AsNat AsInt AsCnt AsPtr AsSlc AsLen AsStr AsAgg AsTup AsFn AsIfc Nth Sc NotNil IsNil Must Cd codeW funW Sat SatL wrapN subM mkRow ltZ leZ ltN leN
variable {con : CallT}
/-! ### a snapshot that is announced -/
structure SnapS where
  sl : SlotsS
  at_ : Nat
  i : Nat
  w : Nat
  gen : Nat
  t : Nat
  ok : Bool
  err : Nat
def SnapS.cell (s : SnapS) : Nat := addM s.sl.first s.i
def SnapS.on (s : SnapS) : SnapS := if s.i + 1 < cnt s.sl.count then { s with i := s.i + 1, at_ := 0 } else { s with i := s.i + 1, at_ := 8, err := 32 }
def SnapS.step (s : SnapS) (M : Mem) (th : Int) : SnapS × Mem :=
  match s.at_ with
  | 0 => if cnt s.sl.count = 0 then ({ s with at_ := 8, err := 32 }, M) else
      (if kindW (M.peek s.cell) ≠ 0 ∨ 1048575 ≤ genW (M.peek s.cell) then ({ s with w := M.peek s.cell, gen := genW (M.peek s.cell) } : SnapS).on else { s with w := M.peek s.cell, gen := genW (M.peek s.cell), at_ := 1 }, M.load th s.cell)
  | 1 => (if M.swaps s.cell s.w then { s with at_ := 2 } else s.on, M.cas th s.cell s.w (slotW 1 s.gen 0))
  | 2 => ({ s with t := M.peek s.sl.cam, at_ := 3 }, M.load th s.sl.cam)
  | 3 => ({ s with at_ := 4 }, M.store th s.cell (slotW 2 s.gen s.t))
  | 4 => ({ s with t := M.peek s.sl.cam, at_ := if s.sl.most ≤ M.peek s.sl.cam then 7 else 5 }, M.load th s.sl.cam)
  | 5 => ({ s with at_ := 6 }, M.cas th s.sl.cam s.t (addM s.t 1))
  | 6 => ({ s with at_ := 8, ok := true }, M.store th s.cell (slotW 3 s.gen s.t))
  | _ => ({ s with at_ := 8, err := 31 }, M.store th s.cell (slotW 0 s.gen 0))
def snapC (a : Nat) (s : SnapS) (g : Nat) : List Value := [u64 s.sl.cam, u64 s.sl.first, i64 s.sl.count, u64 s.sl.most, iN a, iN s.i, u64 s.w, u64 g, u64 s.t, u8 (if s.ok then 3 else 0), u64 (if s.ok then s.gen else 0), u64 (if s.ok then s.t else 0), iN s.err]
/-- Under way, and as it may be. -/
def SnapS.Ok (s : SnapS) : Prop := s.at_ < 8 ∧ s.ok = false ∧ s.err = 0 ∧ s.gen < 1048576 ∧ s.i < 256
/-- Which generation it holds. -/
def JG (s : SnapS) (g : Nat) : Prop := (1 ≤ s.at_ ∧ s.at_ < 8) ∨ s.ok = true → g = s.gen
def snap0 (sl : SlotsS) : SnapS := ⟨sl, 0, 0, 0, 0, 0, false, 0⟩
theorem newSnap_ok (hc : Con con lives) (s : SlotsS) {L : List HP} {H : CH} {K : KP} (hs : Sat L H) (k : ∀ p H1, Sat (Own p (snapC 0 (snap0 s) 0) :: L) H1 → K (ptr p 0) H1) : Call1 Tryz.prog con 67 [.agg ⟨[u64 s.cam, u64 s.first, i64 s.count, u64 s.most]⟩] H K := by
  refine call_of (hc _ _ _ rfl) ?_
  rw [newSnap_W]
  repeat (first | refine run ?_ | refine ct ?_ | refine cf ?_ | refine sk ?_ | refine la rfl ?_ | refine na fun _ _ _ => ?_ | refine sa rfl fun _ _ => ?_ | refine nk ?_ | refine mu ?_ | refine ac ?_ | refine ai ?_)
  exact k _ _ (Sat.ent (by assumption) (by repeat (first | exact eN _ | exact eZ | apply eC (by repeat (first | exact pH | apply pT)) | refine eD ?_)))
theorem snapSlot_ok (hc : Con con lives) (s : SnapS) {a g : Nat} {L R : List HP} {H : CH} {p : Nat} {K : KP} (hs : Sat L H) (hp : Pull L (Own p (snapC a s g)) R) (hi : s.i < 256) (k : ∀ H1, Sat (Own p (snapC a s g) :: R) H1 → K (u64 s.cell) H1) : Call1 Tryz.prog con 152 [ptr p 0] H K := by
  refine call_of (hc _ _ _ rfl) ?_
  rw [snapSlot_W]
  have hs0 := hs.pull hp
  clear hs hp
  repeat (first | refine run ?_ | refine ct ?_ | refine cf ?_ | refine sk ?_ | refine la rfl ?_ | refine na fun _ _ _ => ?_ | refine sa rfl fun _ _ => ?_ | refine nk ?_ | refine mu ?_ | refine ac ?_ | refine ai ?_)
  exact annCell_ok hc s.sl hs0 (by omega) fun H1 h1 => k _ h1
theorem snapOn_ok (hc : Con con lives) (s : SnapS) {a g : Nat} {L R : List HP} {H : CH} {p : Nat} {K : KP} (hs : Sat L H) (hp : Pull L (Own p (snapC a s g)) R) (hi : s.i < 256) (k : ∀ H1, Sat (Own p (snapC a s.on g) :: R) H1 → K (iN s.on.at_) H1) : Call1 Tryz.prog con 153 [ptr p 0] H K := by
  refine call_of (hc _ _ _ rfl) ?_
  rw [snapOn_W]
  have hs0 := hs.pull hp
  clear hs hp
  unfold SnapS.on at k
  repeat (first | refine run ?_ | refine ct ?_ | refine cf ?_ | refine sk ?_ | refine la rfl ?_ | refine na fun _ _ _ => ?_ | refine sa rfl fun _ _ => ?_ | refine nk ?_ | refine mu ?_ | refine ac ?_ | refine ai ?_)
  rw [addInt]
  refine inR_nat (by omega) ?_
  repeat (first | refine run ?_ | refine ct ?_ | refine cf ?_ | refine sk ?_ | refine la rfl ?_ | refine na fun _ _ _ => ?_ | refine sa rfl fun _ _ => ?_ | refine nk ?_ | refine mu ?_ | refine ac ?_ | refine ai ?_)
  rename_i H3 h3
  refine annCount_ok hc s.sl h3 fun H10 h10 => ?_
  repeat (first | refine run ?_ | refine ct ?_ | refine cf ?_ | refine sk ?_ | refine la rfl ?_ | refine na fun _ _ _ => ?_ | refine sa rfl fun _ _ => ?_ | refine nk ?_ | refine mu ?_ | refine ac ?_ | refine ai ?_)
  by_cases h : s.i + 1 < cnt s.sl.count
  · rw [if_pos h] at k
    exact Cd.t (ltZ_t h) (k _ h10)
  · rw [if_neg h] at k
    refine Cd.f (ltZ_f (by omega)) ?_
    repeat (first | refine run ?_ | refine ct ?_ | refine cf ?_ | refine sk ?_ | refine la rfl ?_ | refine na fun _ _ _ => ?_ | refine sa rfl fun _ _ => ?_ | refine nk ?_ | refine mu ?_ | refine ac ?_ | refine ai ?_)
    exact k _ (Sat.ent (by assumption) (by repeat (first | exact eN _ | exact eZ | apply eC (by repeat (first | exact pH | apply pT)) | refine eD ?_)))
theorem snapSeek_ok (hc : Con con lives) (s : SnapS) {g : Nat} {L R1 R2 R3 : List HP} {H : CH} {p q m n : Nat} {th : Int} {M : Mem} {K : KP} (hs : Sat L H) (hm : Pull L (MemP m M) R1) (hv : Pull R1 (ViewAt q m th n) R2) (hp : Pull R2 (Own p (snapC 0 s g)) R3)
    (hn : n < 1000000000) (ht : M.tr.length < 1000000000) (hb : M.Bd) (hok : s.Ok) (hat : s.at_ = 0) (k : ∀ g' n' H1, n' ≤ n + 1 → JG (s.step M th).1 g' → Sat (Own p (snapC 0 (s.step M th).1 g') :: MemP m (s.step M th).2 :: ViewAt q m th n' :: R3) H1 → K (iN (s.step M th).1.at_) H1) :
    Call1 Tryz.prog con 140 [ptr p 0, ptr q 0] H K := by
  refine call_of (hc _ _ _ rfl) ?_
  rw [snapSeek_W]
  have hs0 := hs.takes (.cons hm (.cons hv (.cons hp .nil)))
  simp only [List.cons_append, List.nil_append] at hs0
  clear hs hm hv hp
  obtain ⟨sl, at_, i, w, gen, t, ok, err⟩ := s
  obtain ⟨h1, h2, h3, h4, h5⟩ := hok
  simp only at h1 h2 h3 h4 h5 hat
  subst h2 h3 hat
  repeat (first | refine run ?_ | refine ct ?_ | refine cf ?_ | refine sk ?_ | refine la rfl ?_ | refine na fun _ _ _ => ?_ | refine sa rfl fun _ _ => ?_ | refine nk ?_ | refine mu ?_ | refine ac ?_ | refine ai ?_)
  refine annCount_ok hc sl hs0 fun H6 h6 => ?_
  repeat (first | refine run ?_ | refine ct ?_ | refine cf ?_ | refine sk ?_ | refine la rfl ?_ | refine na fun _ _ _ => ?_ | refine sa rfl fun _ _ => ?_ | refine nk ?_ | refine mu ?_ | refine ac ?_ | refine ai ?_)
  simp only [SnapS.step] at k
  by_cases hz : cnt sl.count = 0
  · simp only [if_pos hz] at k
    refine Cd.t (eqZ_t hz) ?_
    repeat (first | refine run ?_ | refine ct ?_ | refine cf ?_ | refine sk ?_ | refine la rfl ?_ | refine na fun _ _ _ => ?_ | refine sa rfl fun _ _ => ?_ | refine nk ?_ | refine mu ?_ | refine ac ?_ | refine ai ?_)
    exact k g n _ (by omega) (fun h => by simp at h) (Sat.ent (by assumption) (by repeat (first | exact eN _ | exact eZ | apply eC (by repeat (first | exact pH | apply pT)) | refine eD ?_)))
  simp only [if_neg hz] at k
  refine Cd.f (eqZ_f hz) ?_
  refine snapSlot_ok hc ⟨sl, 0, i, w, gen, t, false, 0⟩ h6 (by repeat (first | exact pH | apply pT)) h5 fun H10 h10 => ?_
  have hbp := hb.peek (SnapS.cell ⟨sl, 0, i, w, gen, t, false, 0⟩)
  refine viewLoad_ok hc h10 (by repeat (first | exact pH | apply pT)) (by repeat (first | exact pH | apply pT)) hn ht fun H12 h12 => ?_
  generalize SnapS.cell ⟨sl, 0, i, w, gen, t, false, 0⟩ = cl at *
  generalize M.peek cl = x at *
  repeat (first | refine run ?_ | refine ct ?_ | refine cf ?_ | refine sk ?_ | refine la rfl ?_ | refine na fun _ _ _ => ?_ | refine sa rfl fun _ _ => ?_ | refine nk ?_ | refine mu ?_ | refine ac ?_ | refine ai ?_)
  rename_i H13 h13
  refine wordUnpack_ok hc h13 hbp fun H16 h16 => ?_
  repeat (first | refine run ?_ | refine ct ?_ | refine cf ?_ | refine sk ?_ | refine la rfl ?_ | refine na fun _ _ _ => ?_ | refine sa rfl fun _ _ => ?_ | refine nk ?_ | refine mu ?_ | refine ac ?_ | refine ai ?_)
  refine stN (by assumption) (Nat.le_of_ble_eq_true rfl) rfl fun H23 h23 => ?_
  repeat (first | refine run ?_ | refine ct ?_ | refine cf ?_ | refine sk ?_ | refine la rfl ?_ | refine na fun _ _ _ => ?_ | refine sa rfl fun _ _ => ?_ | refine nk ?_ | refine mu ?_ | refine ac ?_ | refine ai ?_)
  by_cases hk : kindW x = 0
  · refine Cd.f (by rw [eqN_t hk]; rfl) ?_
    repeat (first | refine run ?_ | refine ct ?_ | refine cf ?_ | refine sk ?_ | refine la rfl ?_ | refine na fun _ _ _ => ?_ | refine sa rfl fun _ _ => ?_ | refine nk ?_ | refine mu ?_ | refine ac ?_ | refine ai ?_)
    by_cases hg : 1048575 ≤ genW x
    · rw [if_pos (Or.inr hg)] at k
      refine Cd.t (leN_t hg) ?_
      refine snapOn_ok hc ⟨sl, 0, i, x, genW x, t, false, 0⟩ (g := g) h23 (by repeat (first | exact pH | apply pT)) h5 fun H27 h27 => ?_
      refine k g (n + 1) _ (by omega) (fun h => ?_) (h27.ent (by repeat (first | exact eN _ | exact eZ | apply eC (by repeat (first | exact pH | apply pT)) | refine eD ?_)))
      unfold SnapS.on at h
      split at h <;> simp at h
    · rw [if_neg (by omega)] at k
      refine Cd.f (leN_f (by omega)) ?_
      repeat (first | refine run ?_ | refine ct ?_ | refine cf ?_ | refine sk ?_ | refine la rfl ?_ | refine na fun _ _ _ => ?_ | refine sa rfl fun _ _ => ?_ | refine nk ?_ | refine mu ?_ | refine ac ?_ | refine ai ?_)
      exact k (genW x) (n + 1) _ (by omega) (fun _ => rfl) (Sat.ent (by assumption) (by repeat (first | exact eN _ | exact eZ | apply eC (by repeat (first | exact pH | apply pT)) | refine eD ?_)))
  · rw [if_pos (Or.inl hk)] at k
    refine Cd.t (by rw [eqN_f hk]; rfl) ?_
    refine snapOn_ok hc ⟨sl, 0, i, x, genW x, t, false, 0⟩ (g := g) h23 (by repeat (first | exact pH | apply pT)) h5 fun H27 h27 => ?_
    refine k g (n + 1) _ (by omega) (fun h => ?_) (h27.ent (by repeat (first | exact eN _ | exact eZ | apply eC (by repeat (first | exact pH | apply pT)) | refine eD ?_)))
    unfold SnapS.on at h
    split at h <;> simp at h
theorem snapClaim_ok (hc : Con con lives) (s : SnapS) {g : Nat} {L R1 R2 R3 : List HP} {H : CH} {p q m n : Nat} {th : Int} {M : Mem} {K : KP} (hs : Sat L H) (hm : Pull L (MemP m M) R1) (hv : Pull R1 (ViewAt q m th n) R2) (hp : Pull R2 (Own p (snapC 1 s g)) R3)
    (hn : n < 1000000000) (ht : M.tr.length < 1000000000) (hok : s.Ok) (hat : s.at_ = 1) (hg : JG s g) (k : ∀ g' n' H1, n' ≤ n + 1 → JG (s.step M th).1 g' → Sat (Own p (snapC 1 (s.step M th).1 g') :: MemP m (s.step M th).2 :: ViewAt q m th n' :: R3) H1 → K (iN (s.step M th).1.at_) H1) :
    Call1 Tryz.prog con 141 [ptr p 0, ptr q 0] H K := by
  refine call_of (hc _ _ _ rfl) ?_
  rw [snapClaim_W]
  have hs0 := hs.takes (.cons hm (.cons hv (.cons hp .nil)))
  simp only [List.cons_append, List.nil_append] at hs0
  clear hs hm hv hp
  have hgg := hg (.inl ⟨by omega, by omega⟩)
  obtain ⟨sl, at_, i, w, gen, t, ok, err⟩ := s
  obtain ⟨h1, h2, h3, h4, h5⟩ := hok
  simp only at h1 h2 h3 h4 h5 hat hgg
  subst h2 h3 hat hgg
  simp only [SnapS.step] at k
  refine snapSlot_ok hc ⟨sl, 1, i, w, g, t, false, 0⟩ hs0 (by repeat (first | exact pH | apply pT)) h5 fun H2 h2 => ?_
  generalize SnapS.cell ⟨sl, 1, i, w, g, t, false, 0⟩ = cl at *
  repeat (first | refine run ?_ | refine ct ?_ | refine cf ?_ | refine sk ?_ | refine la rfl ?_ | refine na fun _ _ _ => ?_ | refine sa rfl fun _ _ => ?_ | refine nk ?_ | refine mu ?_ | refine ac ?_ | refine ai ?_)
  refine annPack_ok hc h2 (by omega) fun H6 h6 => ?_
  refine viewCas_ok hc h6 (by repeat (first | exact pH | apply pT)) (by repeat (first | exact pH | apply pT)) hn ht fun H8 h8 => ?_
  repeat (first | refine run ?_ | refine ct ?_ | refine cf ?_ | refine sk ?_ | refine la rfl ?_ | refine na fun _ _ _ => ?_ | refine sa rfl fun _ _ => ?_ | refine nk ?_ | refine mu ?_ | refine ac ?_ | refine ai ?_)
  cases hsw : M.swaps cl w with
  | true =>
    simp only [hsw, if_true] at k
    refine Cd.f rfl ?_
    exact k g (n + 1) _ (by omega) (fun _ => rfl) (h8.ent (by repeat (first | exact eN _ | exact eZ | apply eC (by repeat (first | exact pH | apply pT)) | refine eD ?_)))
  | false =>
    simp only [hsw, Bool.false_eq_true, if_false] at k
    refine Cd.t rfl ?_
    refine snapOn_ok hc ⟨sl, 1, i, w, g, t, false, 0⟩ h8 (by repeat (first | exact pH | apply pT)) h5 fun H16 h16 => ?_
    refine k g (n + 1) _ (by omega) (fun h => ?_) (h16.ent (by repeat (first | exact eN _ | exact eZ | apply eC (by repeat (first | exact pH | apply pT)) | refine eD ?_)))
    unfold SnapS.on at h
    split at h <;> simp at h
theorem snapLook_ok (hc : Con con lives) (s : SnapS) {g : Nat} {L R1 R2 R3 : List HP} {H : CH} {p q m n : Nat} {th : Int} {M : Mem} {K : KP} (hs : Sat L H) (hm : Pull L (MemP m M) R1) (hv : Pull R1 (ViewAt q m th n) R2) (hp : Pull R2 (Own p (snapC 2 s g)) R3)
    (hn : n < 1000000000) (ht : M.tr.length < 1000000000) (hok : s.Ok) (hat : s.at_ = 2) (hg : JG s g) (k : ∀ g' n' H1, n' ≤ n + 1 → JG (s.step M th).1 g' → Sat (Own p (snapC 2 (s.step M th).1 g') :: MemP m (s.step M th).2 :: ViewAt q m th n' :: R3) H1 → K (iN (s.step M th).1.at_) H1) :
    Call1 Tryz.prog con 142 [ptr p 0, ptr q 0] H K := by
  refine call_of (hc _ _ _ rfl) ?_
  rw [snapLook_W]
  have hs0 := hs.takes (.cons hm (.cons hv (.cons hp .nil)))
  simp only [List.cons_append, List.nil_append] at hs0
  clear hs hm hv hp
  have hgg := hg (.inl ⟨by omega, by omega⟩)
  obtain ⟨sl, at_, i, w, gen, t, ok, err⟩ := s
  obtain ⟨h1, h2, h3, h4, h5⟩ := hok
  simp only at h1 h2 h3 h4 h5 hat hgg
  subst h2 h3 hat hgg
  simp only [SnapS.step] at k
  repeat (first | refine run ?_ | refine ct ?_ | refine cf ?_ | refine sk ?_ | refine la rfl ?_ | refine na fun _ _ _ => ?_ | refine sa rfl fun _ _ => ?_ | refine nk ?_ | refine mu ?_ | refine ac ?_ | refine ai ?_)
  refine viewLoad_ok hc hs0 (by repeat (first | exact pH | apply pT)) (by repeat (first | exact pH | apply pT)) hn ht fun H3 h3 => ?_
  repeat (first | refine run ?_ | refine ct ?_ | refine cf ?_ | refine sk ?_ | refine la rfl ?_ | refine na fun _ _ _ => ?_ | refine sa rfl fun _ _ => ?_ | refine nk ?_ | refine mu ?_ | refine ac ?_ | refine ai ?_)
  exact k g (n + 1) _ (by omega) (fun _ => rfl) (Sat.ent (by assumption) (by repeat (first | exact eN _ | exact eZ | apply eC (by repeat (first | exact pH | apply pT)) | refine eD ?_)))
theorem snapTell_ok (hc : Con con lives) (s : SnapS) {g : Nat} {L R1 R2 R3 : List HP} {H : CH} {p q m n : Nat} {th : Int} {M : Mem} {K : KP} (hs : Sat L H) (hm : Pull L (MemP m M) R1) (hv : Pull R1 (ViewAt q m th n) R2) (hp : Pull R2 (Own p (snapC 3 s g)) R3)
    (hn : n < 1000000000) (ht : M.tr.length < 1000000000) (hok : s.Ok) (hat : s.at_ = 3) (hg : JG s g) (k : ∀ g' n' H1, n' ≤ n + 1 → JG (s.step M th).1 g' → Sat (Own p (snapC 3 (s.step M th).1 g') :: MemP m (s.step M th).2 :: ViewAt q m th n' :: R3) H1 → K (iN (s.step M th).1.at_) H1) :
    Call1 Tryz.prog con 143 [ptr p 0, ptr q 0] H K := by
  refine call_of (hc _ _ _ rfl) ?_
  rw [snapTell_W]
  have hs0 := hs.takes (.cons hm (.cons hv (.cons hp .nil)))
  simp only [List.cons_append, List.nil_append] at hs0
  clear hs hm hv hp
  have hgg := hg (.inl ⟨by omega, by omega⟩)
  obtain ⟨sl, at_, i, w, gen, t, ok, err⟩ := s
  obtain ⟨h1, h2, h3, h4, h5⟩ := hok
  simp only at h1 h2 h3 h4 h5 hat hgg
  subst h2 h3 hat hgg
  simp only [SnapS.step] at k
  refine snapSlot_ok hc ⟨sl, 3, i, w, g, t, false, 0⟩ hs0 (by repeat (first | exact pH | apply pT)) h5 fun H2 h2 => ?_
  repeat (first | refine run ?_ | refine ct ?_ | refine cf ?_ | refine sk ?_ | refine la rfl ?_ | refine na fun _ _ _ => ?_ | refine sa rfl fun _ _ => ?_ | refine nk ?_ | refine mu ?_ | refine ac ?_ | refine ai ?_)
  refine annPack_ok hc h2 (by omega) fun H6 h6 => ?_
  refine viewStore_ok hc h6 (by repeat (first | exact pH | apply pT)) (by repeat (first | exact pH | apply pT)) hn ht fun H8 h8 => ?_
  repeat (first | refine run ?_ | refine ct ?_ | refine cf ?_ | refine sk ?_ | refine la rfl ?_ | refine na fun _ _ _ => ?_ | refine sa rfl fun _ _ => ?_ | refine nk ?_ | refine mu ?_ | refine ac ?_ | refine ai ?_)
  exact k g (n + 1) _ (by omega) (fun _ => rfl) (h8.ent (by repeat (first | exact eN _ | exact eZ | apply eC (by repeat (first | exact pH | apply pT)) | refine eD ?_)))
theorem snapClock_ok (hc : Con con lives) (s : SnapS) {g : Nat} {L R1 R2 R3 : List HP} {H : CH} {p q m n : Nat} {th : Int} {M : Mem} {K : KP} (hs : Sat L H) (hm : Pull L (MemP m M) R1) (hv : Pull R1 (ViewAt q m th n) R2) (hp : Pull R2 (Own p (snapC 4 s g)) R3)
    (hn : n < 1000000000) (ht : M.tr.length < 1000000000) (hok : s.Ok) (hat : s.at_ = 4) (hg : JG s g) (k : ∀ g' n' H1, n' ≤ n + 1 → JG (s.step M th).1 g' → Sat (Own p (snapC 4 (s.step M th).1 g') :: MemP m (s.step M th).2 :: ViewAt q m th n' :: R3) H1 → K (iN (s.step M th).1.at_) H1) :
    Call1 Tryz.prog con 144 [ptr p 0, ptr q 0] H K := by
  refine call_of (hc _ _ _ rfl) ?_
  rw [snapClock_W]
  have hs0 := hs.takes (.cons hm (.cons hv (.cons hp .nil)))
  simp only [List.cons_append, List.nil_append] at hs0
  clear hs hm hv hp
  have hgg := hg (.inl ⟨by omega, by omega⟩)
  obtain ⟨sl, at_, i, w, gen, t, ok, err⟩ := s
  obtain ⟨h1, h2, h3, h4, h5⟩ := hok
  simp only at h1 h2 h3 h4 h5 hat hgg
  subst h2 h3 hat hgg
  simp only [SnapS.step] at k
  repeat (first | refine run ?_ | refine ct ?_ | refine cf ?_ | refine sk ?_ | refine la rfl ?_ | refine na fun _ _ _ => ?_ | refine sa rfl fun _ _ => ?_ | refine nk ?_ | refine mu ?_ | refine ac ?_ | refine ai ?_)
  refine viewLoad_ok hc hs0 (by repeat (first | exact pH | apply pT)) (by repeat (first | exact pH | apply pT)) hn ht fun H3 h3 => ?_
  repeat (first | refine run ?_ | refine ct ?_ | refine cf ?_ | refine sk ?_ | refine la rfl ?_ | refine na fun _ _ _ => ?_ | refine sa rfl fun _ _ => ?_ | refine nk ?_ | refine mu ?_ | refine ac ?_ | refine ai ?_)
  by_cases h : sl.most ≤ M.peek sl.cam
  · simp only [if_pos h] at k
    refine Cd.t (leN_t h) ?_
    exact k g (n + 1) _ (by omega) (fun _ => rfl) (Sat.ent (by assumption) (by repeat (first | exact eN _ | exact eZ | apply eC (by repeat (first | exact pH | apply pT)) | refine eD ?_)))
  · simp only [if_neg h] at k
    refine Cd.f (leN_f (Nat.lt_of_not_le h)) ?_
    exact k g (n + 1) _ (by omega) (fun _ => rfl) (Sat.ent (by assumption) (by repeat (first | exact eN _ | exact eZ | apply eC (by repeat (first | exact pH | apply pT)) | refine eD ?_)))
theorem snapTurn_ok (hc : Con con lives) (s : SnapS) {g : Nat} {L R1 R2 R3 : List HP} {H : CH} {p q m n : Nat} {th : Int} {M : Mem} {K : KP} (hs : Sat L H) (hm : Pull L (MemP m M) R1) (hv : Pull R1 (ViewAt q m th n) R2) (hp : Pull R2 (Own p (snapC 5 s g)) R3)
    (hn : n < 1000000000) (ht : M.tr.length < 1000000000) (hok : s.Ok) (hat : s.at_ = 5) (hg : JG s g) (k : ∀ g' n' H1, n' ≤ n + 1 → JG (s.step M th).1 g' → Sat (Own p (snapC 5 (s.step M th).1 g') :: MemP m (s.step M th).2 :: ViewAt q m th n' :: R3) H1 → K (iN (s.step M th).1.at_) H1) :
    Call1 Tryz.prog con 145 [ptr p 0, ptr q 0] H K := by
  refine call_of (hc _ _ _ rfl) ?_
  rw [snapTurn_W]
  have hs0 := hs.takes (.cons hm (.cons hv (.cons hp .nil)))
  simp only [List.cons_append, List.nil_append] at hs0
  clear hs hm hv hp
  have hgg := hg (.inl ⟨by omega, by omega⟩)
  obtain ⟨sl, at_, i, w, gen, t, ok, err⟩ := s
  obtain ⟨h1, h2, h3, h4, h5⟩ := hok
  simp only at h1 h2 h3 h4 h5 hat hgg
  subst h2 h3 hat hgg
  simp only [SnapS.step] at k
  repeat (first | refine run ?_ | refine ct ?_ | refine cf ?_ | refine sk ?_ | refine la rfl ?_ | refine na fun _ _ _ => ?_ | refine sa rfl fun _ _ => ?_ | refine nk ?_ | refine mu ?_ | refine ac ?_ | refine ai ?_)
  refine viewCas_ok hc hs0 (by repeat (first | exact pH | apply pT)) (by repeat (first | exact pH | apply pT)) hn ht fun H3 h3 => ?_
  exact k g (n + 1) _ (by omega) (fun _ => rfl) (h3.ent (by repeat (first | exact eN _ | exact eZ | apply eC (by repeat (first | exact pH | apply pT)) | refine eD ?_)))
theorem snapHold_ok (hc : Con con lives) (s : SnapS) {g : Nat} {L R1 R2 R3 : List HP} {H : CH} {p q m n : Nat} {th : Int} {M : Mem} {K : KP} (hs : Sat L H) (hm : Pull L (MemP m M) R1) (hv : Pull R1 (ViewAt q m th n) R2) (hp : Pull R2 (Own p (snapC 6 s g)) R3)
    (hn : n < 1000000000) (ht : M.tr.length < 1000000000) (hok : s.Ok) (hat : s.at_ = 6) (hg : JG s g) (k : ∀ g' n' H1, n' ≤ n + 1 → JG (s.step M th).1 g' → Sat (Own p (snapC 6 (s.step M th).1 g') :: MemP m (s.step M th).2 :: ViewAt q m th n' :: R3) H1 → K (iN (s.step M th).1.at_) H1) :
    Call1 Tryz.prog con 146 [ptr p 0, ptr q 0] H K := by
  refine call_of (hc _ _ _ rfl) ?_
  rw [snapHold_W]
  have hs0 := hs.takes (.cons hm (.cons hv (.cons hp .nil)))
  simp only [List.cons_append, List.nil_append] at hs0
  clear hs hm hv hp
  have hgg := hg (.inl ⟨by omega, by omega⟩)
  obtain ⟨sl, at_, i, w, gen, t, ok, err⟩ := s
  obtain ⟨h1, h2, h3, h4, h5⟩ := hok
  simp only at h1 h2 h3 h4 h5 hat hgg
  subst h2 h3 hat hgg
  simp only [SnapS.step] at k
  repeat (first | refine run ?_ | refine ct ?_ | refine cf ?_ | refine sk ?_ | refine la rfl ?_ | refine na fun _ _ _ => ?_ | refine sa rfl fun _ _ => ?_ | refine nk ?_ | refine mu ?_ | refine ac ?_ | refine ai ?_)
  refine stN hs0 (Nat.le_of_ble_eq_true rfl) rfl fun H3 h3 => ?_
  replace h3 : Sat (MemP m M :: ViewAt q m th n :: Own p (snapC 6 ⟨sl, 6, i, w, g, t, true, 0⟩ g) :: R3) H3 := h3
  refine snapSlot_ok hc ⟨sl, 6, i, w, g, t, true, 0⟩ h3 (by repeat (first | exact pH | apply pT)) h5 fun H5 h5' => ?_
  repeat (first | refine run ?_ | refine ct ?_ | refine cf ?_ | refine sk ?_ | refine la rfl ?_ | refine na fun _ _ _ => ?_ | refine sa rfl fun _ _ => ?_ | refine nk ?_ | refine mu ?_ | refine ac ?_ | refine ai ?_)
  refine annPack_ok (c := 3) (g := g) (t := t) hc h5' (by omega) fun H10 h10 => ?_
  refine viewStore_ok hc h10 (by repeat (first | exact pH | apply pT)) (by repeat (first | exact pH | apply pT)) hn ht fun H12 h12 => ?_
  repeat (first | refine run ?_ | refine ct ?_ | refine cf ?_ | refine sk ?_ | refine la rfl ?_ | refine na fun _ _ _ => ?_ | refine sa rfl fun _ _ => ?_ | refine nk ?_ | refine mu ?_ | refine ac ?_ | refine ai ?_)
  exact k g (n + 1) _ (by omega) (fun _ => rfl) (h12.ent (by repeat (first | exact eN _ | exact eZ | apply eC (by repeat (first | exact pH | apply pT)) | refine eD ?_)))
theorem snapGive_ok (hc : Con con lives) (s : SnapS) {g : Nat} {L R1 R2 R3 : List HP} {H : CH} {p q m n : Nat} {th : Int} {M : Mem} {K : KP} (hs : Sat L H) (hm : Pull L (MemP m M) R1) (hv : Pull R1 (ViewAt q m th n) R2) (hp : Pull R2 (Own p (snapC 7 s g)) R3)
    (hn : n < 1000000000) (ht : M.tr.length < 1000000000) (hok : s.Ok) (hat : s.at_ = 7) (hg : JG s g) (k : ∀ g' n' H1, n' ≤ n + 1 → JG (s.step M th).1 g' → Sat (Own p (snapC 7 (s.step M th).1 g') :: MemP m (s.step M th).2 :: ViewAt q m th n' :: R3) H1 → K (iN (s.step M th).1.at_) H1) :
    Call1 Tryz.prog con 147 [ptr p 0, ptr q 0] H K := by
  refine call_of (hc _ _ _ rfl) ?_
  rw [snapGive_W]
  have hs0 := hs.takes (.cons hm (.cons hv (.cons hp .nil)))
  simp only [List.cons_append, List.nil_append] at hs0
  clear hs hm hv hp
  have hgg := hg (.inl ⟨by omega, by omega⟩)
  obtain ⟨sl, at_, i, w, gen, t, ok, err⟩ := s
  obtain ⟨h1, h2, h3, h4, h5⟩ := hok
  simp only at h1 h2 h3 h4 h5 hat hgg
  subst h2 h3 hat hgg
  simp only [SnapS.step] at k
  refine snapSlot_ok hc ⟨sl, 7, i, w, g, t, false, 0⟩ hs0 (by repeat (first | exact pH | apply pT)) h5 fun H2 h2 => ?_
  repeat (first | refine run ?_ | refine ct ?_ | refine cf ?_ | refine sk ?_ | refine la rfl ?_ | refine na fun _ _ _ => ?_ | refine sa rfl fun _ _ => ?_ | refine nk ?_ | refine mu ?_ | refine ac ?_ | refine ai ?_)
  refine annPack_ok hc h2 (by omega) fun H6 h6 => ?_
  refine viewStore_ok hc h6 (by repeat (first | exact pH | apply pT)) (by repeat (first | exact pH | apply pT)) hn ht fun H8 h8 => ?_
  repeat (first | refine run ?_ | refine ct ?_ | refine cf ?_ | refine sk ?_ | refine la rfl ?_ | refine na fun _ _ _ => ?_ | refine sa rfl fun _ _ => ?_ | refine nk ?_ | refine mu ?_ | refine ac ?_ | refine ai ?_)
  exact k g (n + 1) _ (by omega) (fun h => by simp at h) (Sat.ent (by assumption) (by repeat (first | exact eN _ | exact eZ | apply eC (by repeat (first | exact pH | apply pT)) | refine eD ?_)))
theorem annSteps_ok (hc : Con con lives) {L : List HP} {H : CH} {K : KP} (hs : Sat L H) (k : ∀ H1, Sat L H1 → K (.agg ⟨[.func (.func 140) ⟨[]⟩ ⟨[]⟩, .func (.func 141) ⟨[]⟩ ⟨[]⟩, .func (.func 142) ⟨[]⟩ ⟨[]⟩, .func (.func 143) ⟨[]⟩ ⟨[]⟩, .func (.func 144) ⟨[]⟩ ⟨[]⟩, .func (.func 145) ⟨[]⟩ ⟨[]⟩, .func (.func 146) ⟨[]⟩ ⟨[]⟩, .func (.func 147) ⟨[]⟩ ⟨[]⟩]⟩) H1) : Call1 Tryz.prog con 124 [] H K := by
  refine call_of (hc _ _ _ rfl) ?_
  rw [annSteps_W]
  repeat (first | refine run ?_ | refine ct ?_ | refine cf ?_ | refine sk ?_ | refine la rfl ?_ | refine na fun _ _ _ => ?_ | refine sa rfl fun _ _ => ?_ | refine nk ?_ | refine mu ?_ | refine ac ?_ | refine ai ?_)
  rename_i p1 H2 h2
  refine stN h2 (Nat.le_of_ble_eq_true rfl) rfl fun H6 h6 => ?_
  repeat (first | refine run ?_ | refine ct ?_ | refine cf ?_ | refine sk ?_ | refine la rfl ?_ | refine na fun _ _ _ => ?_ | refine sa rfl fun _ _ => ?_ | refine nk ?_ | refine mu ?_ | refine ac ?_ | refine ai ?_)
  exact k _ (h6.ent (by repeat (first | exact eN _ | exact eZ | apply eC (by repeat (first | exact pH | apply pT)) | refine eD ?_)))
theorem snapStep_ok (hc : Con con lives) (s : SnapS) {g : Nat} {L R1 R2 R3 : List HP} {H : CH} {p q m n : Nat} {th : Int} {M : Mem} {K : KP} (hs : Sat L H) (hm : Pull L (MemP m M) R1) (hv : Pull R1 (ViewAt q m th n) R2) (hp : Pull R2 (Own p (snapC s.at_ s g)) R3)
    (hn : n < 1000000000) (ht : M.tr.length < 1000000000) (hb : M.Bd) (hok : s.Ok) (hg : JG s g) (k : ∀ g' n' H1, n' ≤ n + 1 → JG (s.step M th).1 g' → Sat (Own p (snapC (s.step M th).1.at_ (s.step M th).1 g') :: MemP m (s.step M th).2 :: ViewAt q m th n' :: R3) H1 → K (.bool (eqZ (Int.ofNat (s.step M th).1.at_) (Int.ofNat 8))) H1) :
    Call1 Tryz.prog con 69 [ptr p 0, ptr q 0] H K := by
  refine call_of (hc _ _ _ rfl) ?_
  rw [snapStep_W]
  have hs0 := hs.takes (.cons hm (.cons hv (.cons hp .nil)))
  simp only [List.cons_append, List.nil_append] at hs0
  clear hs hm hv hp
  have hok' := hok
  obtain ⟨sl, at_, i, w, gen, t, ok, err⟩ := s
  obtain ⟨h1, h2, h3, h4, h5⟩ := hok
  simp only at h1 h2 h3 h4 h5
  subst h2 h3
  rcases (by omega : at_ = 0 ∨ at_ = 1 ∨ at_ = 2 ∨ at_ = 3 ∨ at_ = 4 ∨ at_ = 5 ∨ at_ = 6 ∨ at_ = 7) with rfl | rfl | rfl | rfl | rfl | rfl | rfl | rfl <;> (refine ld hs0 rfl (AsInt.mk (Cd.t rfl (annSteps_ok hc hs0 fun H4 h4 => ld h4 rfl ?_))))
  · refine OpN.of (v := .func (.func 140) ⟨[]⟩ ⟨[]⟩) (H1 := H4) (by kernel_rfl) ?_
    refine AsFn.mk (Must.mk (by kernel_rfl) ?_)
    refine snapSeek_ok hc ⟨sl, 0, i, w, gen, t, false, 0⟩ (g := g) h4 (by repeat (first | exact pH | apply pT)) (by repeat (first | exact pH | apply pT)) (by repeat (first | exact pH | apply pT)) hn ht hb hok' rfl fun g' n' H12 hn' hg' h12 => ?_
    repeat (first | refine run ?_ | refine ct ?_ | refine cf ?_ | refine sk ?_ | refine la rfl ?_ | refine na fun _ _ _ => ?_ | refine sa rfl fun _ _ => ?_ | refine nk ?_ | refine mu ?_ | refine ac ?_ | refine ai ?_)
    exact k g' n' _ hn' hg' (Sat.ent (by assumption) (by repeat (first | exact eN _ | exact eZ | apply eC (by repeat (first | exact pH | apply pT)) | refine eD ?_)))
  · refine OpN.of (v := .func (.func 141) ⟨[]⟩ ⟨[]⟩) (H1 := H4) (by kernel_rfl) ?_
    refine AsFn.mk (Must.mk (by kernel_rfl) ?_)
    refine snapClaim_ok hc ⟨sl, 1, i, w, gen, t, false, 0⟩ (g := g) h4 (by repeat (first | exact pH | apply pT)) (by repeat (first | exact pH | apply pT)) (by repeat (first | exact pH | apply pT)) hn ht hok' rfl hg fun g' n' H12 hn' hg' h12 => ?_
    repeat (first | refine run ?_ | refine ct ?_ | refine cf ?_ | refine sk ?_ | refine la rfl ?_ | refine na fun _ _ _ => ?_ | refine sa rfl fun _ _ => ?_ | refine nk ?_ | refine mu ?_ | refine ac ?_ | refine ai ?_)
    exact k g' n' _ hn' hg' (Sat.ent (by assumption) (by repeat (first | exact eN _ | exact eZ | apply eC (by repeat (first | exact pH | apply pT)) | refine eD ?_)))
  · refine OpN.of (v := .func (.func 142) ⟨[]⟩ ⟨[]⟩) (H1 := H4) (by kernel_rfl) ?_
    refine AsFn.mk (Must.mk (by kernel_rfl) ?_)
    refine snapLook_ok hc ⟨sl, 2, i, w, gen, t, false, 0⟩ (g := g) h4 (by repeat (first | exact pH | apply pT)) (by repeat (first | exact pH | apply pT)) (by repeat (first | exact pH | apply pT)) hn ht hok' rfl hg fun g' n' H12 hn' hg' h12 => ?_
    repeat (first | refine run ?_ | refine ct ?_ | refine cf ?_ | refine sk ?_ | refine la rfl ?_ | refine na fun _ _ _ => ?_ | refine sa rfl fun _ _ => ?_ | refine nk ?_ | refine mu ?_ | refine ac ?_ | refine ai ?_)
    exact k g' n' _ hn' hg' (Sat.ent (by assumption) (by repeat (first | exact eN _ | exact eZ | apply eC (by repeat (first | exact pH | apply pT)) | refine eD ?_)))
  · refine OpN.of (v := .func (.func 143) ⟨[]⟩ ⟨[]⟩) (H1 := H4) (by kernel_rfl) ?_
    refine AsFn.mk (Must.mk (by kernel_rfl) ?_)
    refine snapTell_ok hc ⟨sl, 3, i, w, gen, t, false, 0⟩ (g := g) h4 (by repeat (first | exact pH | apply pT)) (by repeat (first | exact pH | apply pT)) (by repeat (first | exact pH | apply pT)) hn ht hok' rfl hg fun g' n' H12 hn' hg' h12 => ?_
    repeat (first | refine run ?_ | refine ct ?_ | refine cf ?_ | refine sk ?_ | refine la rfl ?_ | refine na fun _ _ _ => ?_ | refine sa rfl fun _ _ => ?_ | refine nk ?_ | refine mu ?_ | refine ac ?_ | refine ai ?_)
    exact k g' n' _ hn' hg' (Sat.ent (by assumption) (by repeat (first | exact eN _ | exact eZ | apply eC (by repeat (first | exact pH | apply pT)) | refine eD ?_)))
  · refine OpN.of (v := .func (.func 144) ⟨[]⟩ ⟨[]⟩) (H1 := H4) (by kernel_rfl) ?_
    refine AsFn.mk (Must.mk (by kernel_rfl) ?_)
    refine snapClock_ok hc ⟨sl, 4, i, w, gen, t, false, 0⟩ (g := g) h4 (by repeat (first | exact pH | apply pT)) (by repeat (first | exact pH | apply pT)) (by repeat (first | exact pH | apply pT)) hn ht hok' rfl hg fun g' n' H12 hn' hg' h12 => ?_
    repeat (first | refine run ?_ | refine ct ?_ | refine cf ?_ | refine sk ?_ | refine la rfl ?_ | refine na fun _ _ _ => ?_ | refine sa rfl fun _ _ => ?_ | refine nk ?_ | refine mu ?_ | refine ac ?_ | refine ai ?_)
    exact k g' n' _ hn' hg' (Sat.ent (by assumption) (by repeat (first | exact eN _ | exact eZ | apply eC (by repeat (first | exact pH | apply pT)) | refine eD ?_)))
  · refine OpN.of (v := .func (.func 145) ⟨[]⟩ ⟨[]⟩) (H1 := H4) (by kernel_rfl) ?_
    refine AsFn.mk (Must.mk (by kernel_rfl) ?_)
    refine snapTurn_ok hc ⟨sl, 5, i, w, gen, t, false, 0⟩ (g := g) h4 (by repeat (first | exact pH | apply pT)) (by repeat (first | exact pH | apply pT)) (by repeat (first | exact pH | apply pT)) hn ht hok' rfl hg fun g' n' H12 hn' hg' h12 => ?_
    repeat (first | refine run ?_ | refine ct ?_ | refine cf ?_ | refine sk ?_ | refine la rfl ?_ | refine na fun _ _ _ => ?_ | refine sa rfl fun _ _ => ?_ | refine nk ?_ | refine mu ?_ | refine ac ?_ | refine ai ?_)
    exact k g' n' _ hn' hg' (Sat.ent (by assumption) (by repeat (first | exact eN _ | exact eZ | apply eC (by repeat (first | exact pH | apply pT)) | refine eD ?_)))
  · refine OpN.of (v := .func (.func 146) ⟨[]⟩ ⟨[]⟩) (H1 := H4) (by kernel_rfl) ?_
    refine AsFn.mk (Must.mk (by kernel_rfl) ?_)
    refine snapHold_ok hc ⟨sl, 6, i, w, gen, t, false, 0⟩ (g := g) h4 (by repeat (first | exact pH | apply pT)) (by repeat (first | exact pH | apply pT)) (by repeat (first | exact pH | apply pT)) hn ht hok' rfl hg fun g' n' H12 hn' hg' h12 => ?_
    repeat (first | refine run ?_ | refine ct ?_ | refine cf ?_ | refine sk ?_ | refine la rfl ?_ | refine na fun _ _ _ => ?_ | refine sa rfl fun _ _ => ?_ | refine nk ?_ | refine mu ?_ | refine ac ?_ | refine ai ?_)
    exact k g' n' _ hn' hg' (Sat.ent (by assumption) (by repeat (first | exact eN _ | exact eZ | apply eC (by repeat (first | exact pH | apply pT)) | refine eD ?_)))
  · refine OpN.of (v := .func (.func 147) ⟨[]⟩ ⟨[]⟩) (H1 := H4) (by kernel_rfl) ?_
    refine AsFn.mk (Must.mk (by kernel_rfl) ?_)
    refine snapGive_ok hc ⟨sl, 7, i, w, gen, t, false, 0⟩ (g := g) h4 (by repeat (first | exact pH | apply pT)) (by repeat (first | exact pH | apply pT)) (by repeat (first | exact pH | apply pT)) hn ht hok' rfl hg fun g' n' H12 hn' hg' h12 => ?_
    repeat (first | refine run ?_ | refine ct ?_ | refine cf ?_ | refine sk ?_ | refine la rfl ?_ | refine na fun _ _ _ => ?_ | refine sa rfl fun _ _ => ?_ | refine nk ?_ | refine mu ?_ | refine ac ?_ | refine ai ?_)
    exact k g' n' _ hn' hg' (Sat.ent (by assumption) (by repeat (first | exact eN _ | exact eZ | apply eC (by repeat (first | exact pH | apply pT)) | refine eD ?_)))
def SnapS.handle (s : SnapS) : Nat := if s.ok then s.i + 1 + s.gen * 65536 else 0
def SnapS.stamp (s : SnapS) : Nat := if s.ok then s.t else 0
theorem snapHandle_ok (hc : Con con lives) (s : SnapS) {a g : Nat} {L : List HP} {H : CH} {p : Nat} {K : KP} (hs : Sat L H) [HasCell L p (snapC a s g)] (hg : JG s g) (hi : s.ok = true → s.i < 256 ∧ s.gen < 1048576) (k : K (u64 s.handle) H) : Call1 Tryz.prog con 76 [ptr p 0] H K := by
  refine call_of (hc _ _ _ rfl) ?_
  rw [snapHandle_W]
  unfold SnapS.handle at k
  obtain ⟨sl, at_, i, w, gen, t, ok, err⟩ := s
  repeat (first | refine run ?_ | refine ct ?_ | refine cf ?_ | refine sk ?_ | refine la rfl ?_ | refine na fun _ _ _ => ?_ | refine sa rfl fun _ _ => ?_ | refine nk ?_ | refine mu ?_ | refine ac ?_ | refine ai ?_)
  cases ok with
  | false =>
    refine OpN.eqAgg (a := ⟨[u8 0, u64 0, u64 0]⟩) (c := ⟨[u8 0, u64 0, u64 0]⟩) rfl rfl slot_guard (slot_eq H 0 0 0 0 0 0) ?_
    repeat (first | refine run ?_ | refine ct ?_ | refine cf ?_ | refine sk ?_ | refine la rfl ?_ | refine na fun _ _ _ => ?_ | refine sa rfl fun _ _ => ?_ | refine nk ?_ | refine mu ?_ | refine ac ?_ | refine ai ?_)
    exact k
  | true =>
    obtain ⟨hi1, hi2⟩ := hi rfl
    obtain rfl := hg (.inr rfl)
    refine OpN.eqAgg (a := ⟨[u8 3, u64 g, u64 t]⟩) (c := ⟨[u8 0, u64 0, u64 0]⟩) rfl rfl slot_guard (slot_eq H 3 g t 0 0 0) ?_
    repeat (first | refine run ?_ | refine ct ?_ | refine cf ?_ | refine sk ?_ | refine la rfl ?_ | refine na fun _ _ _ => ?_ | refine sa rfl fun _ _ => ?_ | refine nk ?_ | refine mu ?_ | refine ac ?_ | refine ai ?_)
    refine wordHandle_ok hc hi1 hi2 ?_
    refine AsTup.mk (Nth.mk rfl (AsTup.mk (Nth.mk rfl ?_)))
    exact k
theorem snapStamp_ok (hc : Con con lives) (s : SnapS) {a g : Nat} {L : List HP} {H : CH} {p : Nat} {K : KP} (hs : Sat L H) [HasCell L p (snapC a s g)] (k : K (u64 s.stamp) H) : Call1 Tryz.prog con 77 [ptr p 0] H K := by
  refine call_of (hc _ _ _ rfl) ?_
  rw [snapStamp_W]
  exact ld hs rfl k
theorem snapErrno_ok (hc : Con con lives) (s : SnapS) {a g : Nat} {L : List HP} {H : CH} {p : Nat} {K : KP} (hs : Sat L H) [HasCell L p (snapC a s g)] (k : K (iN s.err) H) : Call1 Tryz.prog con 78 [ptr p 0] H K := by
  refine call_of (hc _ _ _ rfl) ?_
  rw [snapErrno_W]
  exact ld hs rfl k
/-! ### a handle let go -/
structure LetS where
  sl : SlotsS
  h : Nat
  at_ : Nat
  slot : Nat
  w : Nat
  gen : Nat
  err : Nat
def LetS.there (s : LetS) : Bool := hOk s.h && decide (s.h % 65536 - 1 < cnt s.sl.count)
def LetS.step (s : LetS) (M : Mem) (th : Int) : LetS × Mem :=
  match s.at_ with
  | 0 => if s.there then
      (if kindW (M.peek (addM s.sl.first (s.h % 65536 - 1))) = 3 ∧ genW (M.peek (addM s.sl.first (s.h % 65536 - 1))) = s.h / 65536
        then { s with gen := s.h / 65536, slot := addM s.sl.first (s.h % 65536 - 1), w := M.peek (addM s.sl.first (s.h % 65536 - 1)), at_ := 1 }
        else { s with gen := s.h / 65536, slot := addM s.sl.first (s.h % 65536 - 1), w := M.peek (addM s.sl.first (s.h % 65536 - 1)), at_ := 2, err := 33 }, M.load th (addM s.sl.first (s.h % 65536 - 1)))
      else ({ s with at_ := 2, err := 33 }, M)
  | _ => ({ s with at_ := 2, err := if M.swaps s.slot s.w then s.err else 33 }, M.cas th s.slot s.w (slotW 0 (addM s.gen 1) 0))
def letC (s : LetS) (sn : Bool) : List Value := [u64 s.sl.cam, u64 s.sl.first, i64 s.sl.count, u64 s.sl.most, u64 s.h, u64 s.slot, u64 s.w, u64 s.gen, .bool sn, .bool (decide (s.at_ = 2)), iN s.err]
/-- Has it looked at its slot? -/
def LetJ (s : LetS) (sn : Bool) : Prop := (s.at_ = 0 → sn = false) ∧ (s.at_ = 1 → sn = true)
def let0 (sl : SlotsS) (h : Nat) : LetS := ⟨sl, h, 0, 0, 0, 0, 0⟩
theorem newLet_ok (hc : Con con lives) (s : SlotsS) {h : Nat} {L : List HP} {H : CH} {K : KP} (hs : Sat L H) (k : ∀ p H1, Sat (Own p (letC (let0 s h) false) :: L) H1 → K (ptr p 0) H1) : Call1 Tryz.prog con 68 [.agg ⟨[u64 s.cam, u64 s.first, i64 s.count, u64 s.most]⟩, u64 h] H K := by
  refine call_of (hc _ _ _ rfl) ?_
  rw [newLet_W]
  repeat (first | refine run ?_ | refine ct ?_ | refine cf ?_ | refine sk ?_ | refine la rfl ?_ | refine na fun _ _ _ => ?_ | refine sa rfl fun _ _ => ?_ | refine nk ?_ | refine mu ?_ | refine ac ?_ | refine ai ?_)
  exact k _ _ (Sat.ent (by assumption) (by repeat (first | exact eN _ | exact eZ | apply eC (by repeat (first | exact pH | apply pT)) | refine eD ?_)))
theorem letErrno_ok (hc : Con con lives) (s : LetS) {sn : Bool} {L : List HP} {H : CH} {p : Nat} {K : KP} (hs : Sat L H) [HasCell L p (letC s sn)] (k : K (iN s.err) H) : Call1 Tryz.prog con 79 [ptr p 0] H K := by
  refine call_of (hc _ _ _ rfl) ?_
  rw [letErrno_W]
  exact ld hs rfl k
theorem letEnd_ok (hc : Con con lives) (s : LetS) {sn b : Bool} {L R : List HP} {H : CH} {p : Nat} {K : KP} (hs : Sat L H) (hp : Pull L (Own p (letC s sn)) R) (k : ∀ H1, Sat (Own p (letC { s with at_ := 2, err := if b then s.err else 33 } sn) :: R) H1 → K (.bool true) H1) : Call1 Tryz.prog con 128 [ptr p 0, .bool b] H K := by
  refine call_of (hc _ _ _ rfl) ?_
  rw [letEnd_W]
  have hs0 := hs.pull hp
  clear hs hp
  repeat (first | refine run ?_ | refine ct ?_ | refine cf ?_ | refine sk ?_ | refine la rfl ?_ | refine na fun _ _ _ => ?_ | refine sa rfl fun _ _ => ?_ | refine nk ?_ | refine mu ?_ | refine ac ?_ | refine ai ?_)
  cases b with
  | true =>
    repeat (first | refine run ?_ | refine ct ?_ | refine cf ?_ | refine sk ?_ | refine la rfl ?_ | refine na fun _ _ _ => ?_ | refine sa rfl fun _ _ => ?_ | refine nk ?_ | refine mu ?_ | refine ac ?_ | refine ai ?_)
    exact k _ (Sat.ent (by assumption) (by repeat (first | exact eN _ | exact eZ | apply eC (by repeat (first | exact pH | apply pT)) | refine eD ?_)))
  | false =>
    repeat (first | refine run ?_ | refine ct ?_ | refine cf ?_ | refine sk ?_ | refine la rfl ?_ | refine na fun _ _ _ => ?_ | refine sa rfl fun _ _ => ?_ | refine nk ?_ | refine mu ?_ | refine ac ?_ | refine ai ?_)
    exact k _ (Sat.ent (by assumption) (by repeat (first | exact eN _ | exact eZ | apply eC (by repeat (first | exact pH | apply pT)) | refine eD ?_)))
theorem letStep_ok (hc : Con con lives) (s : LetS) {sn : Bool} {L R1 R2 R3 : List HP} {H : CH} {p q m n : Nat} {th : Int} {M : Mem} {K : KP} (hs : Sat L H) (hm : Pull L (MemP m M) R1) (hv : Pull R1 (ViewAt q m th n) R2) (hp : Pull R2 (Own p (letC s sn)) R3)
    (hn : n < 1000000000) (ht : M.tr.length < 1000000000) (hb : M.Bd) (hh : s.h < 18446744073709551616) (hat : s.at_ < 2) (hj : LetJ s sn)
    (k : ∀ sn' n' H1, n' ≤ n + 1 → LetJ (s.step M th).1 sn' → Sat (Own p (letC (s.step M th).1 sn') :: MemP m (s.step M th).2 :: ViewAt q m th n' :: R3) H1 → K (.bool (eqZ (Int.ofNat (s.step M th).1.at_) (Int.ofNat 2))) H1) :
    Call1 Tryz.prog con 71 [ptr p 0, ptr q 0] H K := by
  refine call_of (hc _ _ _ rfl) ?_
  rw [letStep_W]
  have hs0 := hs.takes (.cons hm (.cons hv (.cons hp .nil)))
  simp only [List.cons_append, List.nil_append] at hs0
  clear hs hm hv hp
  obtain ⟨sl, h, at_, slot, w, gen, err⟩ := s
  simp only at hh hat
  rcases (by omega : at_ = 0 ∨ at_ = 1) with rfl | rfl
  · obtain rfl := hj.1 rfl
    simp only [LetS.step] at k
    repeat (first | refine run ?_ | refine ct ?_ | refine cf ?_ | refine sk ?_ | refine la rfl ?_ | refine na fun _ _ _ => ?_ | refine sa rfl fun _ _ => ?_ | refine nk ?_ | refine mu ?_ | refine ac ?_ | refine ai ?_)
    refine wordUnhandle_ok hc hh (fun hf => ?_) (fun htr => ?_)
    · have hth : LetS.there ⟨sl, h, 0, slot, w, gen, err⟩ = false := by unfold LetS.there; rw [hf]; rfl
      simp only [hth, Bool.false_eq_true, if_false] at k
      repeat (first | refine run ?_ | refine ct ?_ | refine cf ?_ | refine sk ?_ | refine la rfl ?_ | refine na fun _ _ _ => ?_ | refine sa rfl fun _ _ => ?_ | refine nk ?_ | refine mu ?_ | refine ac ?_ | refine ai ?_)
      refine letEnd_ok hc ⟨sl, h, 0, slot, w, gen, err⟩ hs0 (by repeat (first | exact pH | apply pT)) fun H1 h1 => ?_
      exact k false n _ (by omega) ⟨fun h => by simp at h, fun h => by simp at h⟩ (h1.ent (by repeat (first | exact eN _ | exact eZ | apply eC (by repeat (first | exact pH | apply pT)) | refine eD ?_)))
    · repeat (first | refine run ?_ | refine ct ?_ | refine cf ?_ | refine sk ?_ | refine la rfl ?_ | refine na fun _ _ _ => ?_ | refine sa rfl fun _ _ => ?_ | refine nk ?_ | refine mu ?_ | refine ac ?_ | refine ai ?_)
      refine annCount_ok hc sl hs0 fun H36 h36 => ?_
      repeat (first | refine run ?_ | refine ct ?_ | refine cf ?_ | refine sk ?_ | refine la rfl ?_ | refine na fun _ _ _ => ?_ | refine sa rfl fun _ _ => ?_ | refine nk ?_ | refine mu ?_ | refine ac ?_ | refine ai ?_)
      by_cases hlt : h % 65536 - 1 < cnt sl.count
      · have hth : LetS.there ⟨sl, h, 0, slot, w, gen, err⟩ = true := by unfold LetS.there; rw [htr, decide_eq_true hlt]; rfl
        simp only [hth, if_true] at k
        refine Cd.f (leZ_f hlt) ?_
        repeat (first | refine run ?_ | refine ct ?_ | refine cf ?_ | refine sk ?_ | refine la rfl ?_ | refine na fun _ _ _ => ?_ | refine sa rfl fun _ _ => ?_ | refine nk ?_ | refine mu ?_ | refine ac ?_ | refine ai ?_)
        refine annCell_ok hc sl h36 (by omega) fun H46 h46 => ?_
        generalize addM sl.first (h % 65536 - 1) = cl at *
        repeat (first | refine run ?_ | refine ct ?_ | refine cf ?_ | refine sk ?_ | refine la rfl ?_ | refine na fun _ _ _ => ?_ | refine sa rfl fun _ _ => ?_ | refine nk ?_ | refine mu ?_ | refine ac ?_ | refine ai ?_)
        have hbp := hb.peek cl
        rename_i H49 h49
        refine viewLoad_ok hc h49 (by repeat (first | exact pH | apply pT)) (by repeat (first | exact pH | apply pT)) hn ht fun H52 h52 => ?_
        generalize M.peek cl = x at *
        repeat (first | refine run ?_ | refine ct ?_ | refine cf ?_ | refine sk ?_ | refine la rfl ?_ | refine na fun _ _ _ => ?_ | refine sa rfl fun _ _ => ?_ | refine nk ?_ | refine mu ?_ | refine ac ?_ | refine ai ?_)
        rename_i H53 h53
        refine wordUnpack_ok hc h53 hbp fun H56 h56 => ?_
        repeat (first | refine run ?_ | refine ct ?_ | refine cf ?_ | refine sk ?_ | refine la rfl ?_ | refine na fun _ _ _ => ?_ | refine sa rfl fun _ _ => ?_ | refine nk ?_ | refine mu ?_ | refine ac ?_ | refine ai ?_)
        refine stN (by assumption) (Nat.le_of_ble_eq_true rfl) rfl fun H63 h63 => ?_
        repeat (first | refine run ?_ | refine ct ?_ | refine cf ?_ | refine sk ?_ | refine la rfl ?_ | refine na fun _ _ _ => ?_ | refine sa rfl fun _ _ => ?_ | refine nk ?_ | refine mu ?_ | refine ac ?_ | refine ai ?_)
        refine OpN.neAgg (a := ⟨[u8 (kindW x), u64 (genW x), u64 (stampW x)]⟩) (c := ⟨[u8 3, u64 (h / 65536), u64 (stampW x)]⟩) rfl rfl slot_guard (slot_eq _ _ _ _ _ _ _) ?_
        rw [eqN_self]
        repeat (first | refine run ?_ | refine ct ?_ | refine cf ?_ | refine sk ?_ | refine la rfl ?_ | refine na fun _ _ _ => ?_ | refine sa rfl fun _ _ => ?_ | refine nk ?_ | refine mu ?_ | refine ac ?_ | refine ai ?_)
        by_cases hkg : kindW x = 3 ∧ genW x = h / 65536
        · simp only [if_pos hkg] at k
          rw [eqN_t hkg.1, eqN_t hkg.2]
          repeat (first | refine run ?_ | refine ct ?_ | refine cf ?_ | refine sk ?_ | refine la rfl ?_ | refine na fun _ _ _ => ?_ | refine sa rfl fun _ _ => ?_ | refine nk ?_ | refine mu ?_ | refine ac ?_ | refine ai ?_)
          exact k true (n + 1) _ (by omega) ⟨fun h => by simp at h, fun _ => rfl⟩ (h63.ent (by repeat (first | exact eN _ | exact eZ | apply eC (by repeat (first | exact pH | apply pT)) | refine eD ?_)))
        · simp only [if_neg hkg] at k
          have e : (eqN (kindW x) 3 && (eqN (genW x) (h / 65536) && (true && true))) = false := by
            by_cases h1 : kindW x = 3
            · rw [eqN_f (fun h2 => hkg ⟨h1, h2⟩)]; simp
            · rw [eqN_f h1]; rfl
          rw [e]
          refine Cd.t rfl ?_
          refine letEnd_ok hc ⟨sl, h, 0, cl, x, h / 65536, err⟩ h63 (by repeat (first | exact pH | apply pT)) fun H1 h1 => ?_
          exact k true (n + 1) _ (by omega) ⟨fun h => by simp at h, fun h => by simp at h⟩ (h1.ent (by repeat (first | exact eN _ | exact eZ | apply eC (by repeat (first | exact pH | apply pT)) | refine eD ?_)))
      · have hth : LetS.there ⟨sl, h, 0, slot, w, gen, err⟩ = false := by unfold LetS.there; rw [decide_eq_false hlt, Bool.and_false]
        simp only [hth, Bool.false_eq_true, if_false] at k
        refine Cd.t (leZ_t (Nat.le_of_not_lt hlt)) ?_
        refine letEnd_ok hc ⟨sl, h, 0, slot, w, gen, err⟩ h36 (by repeat (first | exact pH | apply pT)) fun H1 h1 => ?_
        exact k false n _ (by omega) ⟨fun h => by simp at h, fun h => by simp at h⟩ (h1.ent (by repeat (first | exact eN _ | exact eZ | apply eC (by repeat (first | exact pH | apply pT)) | refine eD ?_)))
  · obtain rfl := hj.2 rfl
    simp only [LetS.step] at k
    repeat (first | refine run ?_ | refine ct ?_ | refine cf ?_ | refine sk ?_ | refine la rfl ?_ | refine na fun _ _ _ => ?_ | refine sa rfl fun _ _ => ?_ | refine nk ?_ | refine mu ?_ | refine ac ?_ | refine ai ?_)
    refine annPack_ok hc hs0 (by omega) fun H10 h10 => ?_
    refine viewCas_ok hc h10 (by repeat (first | exact pH | apply pT)) (by repeat (first | exact pH | apply pT)) hn ht fun H12 h12 => ?_
    refine letEnd_ok hc ⟨sl, h, 1, slot, w, gen, err⟩ h12 (by repeat (first | exact pH | apply pT)) fun H14 h14 => ?_
    repeat (first | refine run ?_ | refine ct ?_ | refine cf ?_ | refine sk ?_ | refine la rfl ?_ | refine na fun _ _ _ => ?_ | refine sa rfl fun _ _ => ?_ | refine nk ?_ | refine mu ?_ | refine ac ?_ | refine ai ?_)
    exact k true (n + 1) _ (by omega) ⟨fun h => by simp at h, fun h => by simp at h⟩ (h14.ent (by repeat (first | exact eN _ | exact eZ | apply eC (by repeat (first | exact pH | apply pT)) | refine eD ?_)))
end Go.Proofs.YtipbbnoepphdkaaGreat

set_option linter.unusedVariables false
set_option linter.unusedSimpArgs false
namespace Go.Proofs.YtipbbnoepphdkaaGreat
open Go Go.CM
attribute [local irreducible] AsBool AsWant AsNat AsInt AsCnt AsPtr AsSlc AsLen AsStr AsAgg AsTup AsFn AsIfc Nth Sc NotNil IsNil Must Cd codeW funW Sat SatL wrapN subM mkRow ltZ leZ ltN leN
variable {con : CallT}
/-! ### the document's snapshot, in its block -/
def ratA (a : Nat) : Nat := match a with | 5 => 6 | 6 => 7 | 7 => 5 | 8 => 9 | a => a
def dsC (s : SnapS) : List Value := [iN (ratA s.at_), u64 s.sl.cam, u64 s.sl.first, i64 s.sl.count, u64 s.sl.most, iN s.i, u64 s.w, u64 s.gen, u64 s.t, u64 s.handle, u64 s.stamp, iN s.err]
def dlC (s : LetS) : List Value := [iN s.at_, u64 s.sl.cam, u64 s.sl.first, i64 s.sl.count, u64 s.sl.most, u64 s.h, u64 s.w, u64 s.gen, u64 s.slot, iN s.err]
theorem rSnapOn_ok (hc : Con con lives) (s : SnapS) {c0 : Value} {rest : List Value} {L R : List HP} {H : CH} {p : Nat} {K : KP} (hs : Sat L H) (hp : Pull L (Own p (c0 :: (dsC s ++ rest))) R) (hok : s.ok = false) (hi : s.i < 256)
    (k : ∀ H1, Sat (Own p (c0 :: (dsC s.on ++ rest)) :: R) H1 → K unit H1) : Call1 Tryz.prog con 132 [ptr p 1] H K := by
  refine call_of (hc _ _ _ rfl) ?_
  rw [rSnapOn_W]
  have hs0 := hs.pull hp
  clear hs hp
  obtain ⟨sl, at_, i, w, gen, t, ok, err⟩ := s
  simp only at hok hi
  subst hok
  simp only [dsC, SnapS.handle, SnapS.stamp, ratA, Bool.false_eq_true, if_false, List.cons_append, List.nil_append] at hs0
  unfold SnapS.on at k
  repeat (first | refine run ?_ | refine ct ?_ | refine cf ?_ | refine sk ?_ | refine la rfl ?_ | refine na fun _ _ _ => ?_ | refine sa rfl fun _ _ => ?_ | refine nk ?_ | refine mu ?_ | refine ac ?_ | refine ai ?_)
  rw [addInt]
  refine inR_nat (by omega) ?_
  repeat (first | refine run ?_ | refine ct ?_ | refine cf ?_ | refine sk ?_ | refine la rfl ?_ | refine na fun _ _ _ => ?_ | refine sa rfl fun _ _ => ?_ | refine nk ?_ | refine mu ?_ | refine ac ?_ | refine ai ?_)
  rename_i H3 h3
  refine rCount_ok hc sl h3 fun H10 h10 => ?_
  repeat (first | refine run ?_ | refine ct ?_ | refine cf ?_ | refine sk ?_ | refine la rfl ?_ | refine na fun _ _ _ => ?_ | refine sa rfl fun _ _ => ?_ | refine nk ?_ | refine mu ?_ | refine ac ?_ | refine ai ?_)
  by_cases h : i + 1 < cnt sl.count
  · simp only [if_pos h] at k
    exact Cd.f (leZ_f h) (k _ h10)
  · simp only [if_neg h] at k
    refine Cd.t (leZ_t (by omega)) ?_
    repeat (first | refine run ?_ | refine ct ?_ | refine cf ?_ | refine sk ?_ | refine la rfl ?_ | refine na fun _ _ _ => ?_ | refine sa rfl fun _ _ => ?_ | refine nk ?_ | refine mu ?_ | refine ac ?_ | refine ai ?_)
    exact k _ (Sat.ent (by assumption) (by repeat (first | exact eN _ | exact eZ | apply eC (by repeat (first | exact pH | apply pT)) | refine eD ?_)))
theorem on_rat (s : SnapS) : eqZ (Int.ofNat (ratA s.on.at_)) (Int.ofNat 9) = eqZ (Int.ofNat s.on.at_) (Int.ofNat 8) := by
  unfold SnapS.on; split <;> kernel_rfl
set_option maxRecDepth 100000 in
theorem rSnapStep_ok (hc : Con con lives) (s : SnapS) {c0 : Value} {rest : List Value} {L R1 R2 : List HP} {H : CH} {p m : Nat} {th : Int} {M : Mem} {K : KP} (hs : Sat L H) (hm : Pull L (RefP m M) R1) (hp : Pull R1 (Own p (c0 :: (dsC s ++ rest))) R2)
    (ht : M.tr.length < 1000000000) (hb : M.Bd) (hok : s.Ok) (k : ∀ H1, Sat (Own p (c0 :: (dsC (s.step M th).1 ++ rest)) :: RefP m (s.step M th).2 :: R2) H1 → K (.bool (eqZ (Int.ofNat (s.step M th).1.at_) (Int.ofNat 8))) H1) :
    Call1 Tryz.prog con 72 [ptr p 1, ptr m 0, i64 th] H K := by
  refine call_of (hc _ _ _ rfl) ?_
  rw [rSnapStep_W]
  have hs0 := hs.takes (.cons hm (.cons hp .nil))
  simp only [List.cons_append, List.nil_append] at hs0
  clear hs hm hp
  obtain ⟨sl, at_, i, w, gen, t, ok, err⟩ := s
  obtain ⟨h1, h2, h3, h4, h5⟩ := hok
  simp only at h1 h2 h3 h4 h5
  subst h2 h3
  rcases (by omega : at_ = 0 ∨ at_ = 1 ∨ at_ = 2 ∨ at_ = 3 ∨ at_ = 4 ∨ at_ = 5 ∨ at_ = 6 ∨ at_ = 7) with rfl | rfl | rfl | rfl | rfl | rfl | rfl | rfl
  · simp only [SnapS.step, SnapS.cell] at k
    simp only [dsC, SnapS.handle, SnapS.stamp, ratA, Bool.false_eq_true, if_false, List.cons_append, List.nil_append] at hs0
    repeat (first | refine run ?_ | refine ct ?_ | refine cf ?_ | refine sk ?_ | refine la rfl ?_ | refine na fun _ _ _ => ?_ | refine sa rfl fun _ _ => ?_ | refine nk ?_ | refine mu ?_ | refine ac ?_ | refine ai ?_)
    refine Must.mk (cv_small (by omega)) ?_
    repeat (first | refine run ?_ | refine ct ?_ | refine cf ?_ | refine sk ?_ | refine la rfl ?_ | refine na fun _ _ _ => ?_ | refine sa rfl fun _ _ => ?_ | refine nk ?_ | refine mu ?_ | refine ac ?_ | refine ai ?_)
    rw [wrapN_small (by omega)]
    refine rCount_ok hc sl hs0 fun H12 h12 => ?_
    repeat (first | refine run ?_ | refine ct ?_ | refine cf ?_ | refine sk ?_ | refine la rfl ?_ | refine na fun _ _ _ => ?_ | refine sa rfl fun _ _ => ?_ | refine nk ?_ | refine mu ?_ | refine ac ?_ | refine ai ?_)
    by_cases hz : cnt sl.count = 0
    · simp only [if_pos hz] at k
      refine Cd.t (eqZ_t hz) ?_
      repeat (first | refine run ?_ | refine ct ?_ | refine cf ?_ | refine sk ?_ | refine la rfl ?_ | refine na fun _ _ _ => ?_ | refine sa rfl fun _ _ => ?_ | refine nk ?_ | refine mu ?_ | refine ac ?_ | refine ai ?_)
      exact k _ (Sat.ent (by assumption) (by repeat (first | exact eN _ | exact eZ | apply eC (by repeat (first | exact pH | apply pT)) | refine eD ?_)))
    simp only [if_neg hz] at k
    refine Cd.f (eqZ_f hz) ?_
    have hbp := hb.peek (addM sl.first i)
    refine refLoad_ok (a := addM sl.first i) hc h12 (by repeat (first | exact pH | apply pT)) ht fun H17 h17 => ?_
    repeat (first | refine run ?_ | refine ct ?_ | refine cf ?_ | refine sk ?_ | refine la rfl ?_ | refine na fun _ _ _ => ?_ | refine sa rfl fun _ _ => ?_ | refine nk ?_ | refine mu ?_ | refine ac ?_ | refine ai ?_)
    rename_i H18 h18
    refine rUnpack_ok hc h18 hbp fun H21 h21 => ?_
    repeat (first | refine run ?_ | refine ct ?_ | refine cf ?_ | refine sk ?_ | refine la rfl ?_ | refine na fun _ _ _ => ?_ | refine sa rfl fun _ _ => ?_ | refine nk ?_ | refine mu ?_ | refine ac ?_ | refine ai ?_)
    refine stN (by assumption) (Nat.le_of_ble_eq_true rfl) rfl fun H28 h28 => ?_
    repeat (first | refine run ?_ | refine ct ?_ | refine cf ?_ | refine sk ?_ | refine la rfl ?_ | refine na fun _ _ _ => ?_ | refine sa rfl fun _ _ => ?_ | refine nk ?_ | refine mu ?_ | refine ac ?_ | refine ai ?_)
    rename_i H31 h31
    have h32 : Sat (Own p (c0 :: (dsC ⟨sl, 1, i, (M.peek (addM sl.first i)), genW (M.peek (addM sl.first i)), t, false, 0⟩ ++ rest)) :: RefP m (M.load th (addM sl.first i)) :: R2) H31 := h31.ent (by repeat (first | exact eN _ | exact eZ | apply eC (by repeat (first | exact pH | apply pT)) | refine eD ?_))
    have h33 := h31
    clear h31
    by_cases hk : kindW (M.peek (addM sl.first i)) = 0
    · refine Cd.f (by rw [eqN_t hk]; rfl) ?_
      repeat (first | refine run ?_ | refine ct ?_ | refine cf ?_ | refine sk ?_ | refine la rfl ?_ | refine na fun _ _ _ => ?_ | refine sa rfl fun _ _ => ?_ | refine nk ?_ | refine mu ?_ | refine ac ?_ | refine ai ?_)
      by_cases hg : 1048575 ≤ genW (M.peek (addM sl.first i))
      · simp only [hg, or_true, if_true] at k
        refine Cd.t (leN_t hg) ?_
        refine rSnapOn_ok hc ⟨sl, 1, i, (M.peek (addM sl.first i)), genW (M.peek (addM sl.first i)), t, false, 0⟩ h32 (by repeat (first | exact pH | apply pT)) rfl h5 fun H35 h35 => ?_
        refine ld h35 rfl (AsInt.mk ?_)
        rw [on_rat]
        exact k _ (h35.ent (by repeat (first | exact eN _ | exact eZ | apply eC (by repeat (first | exact pH | apply pT)) | refine eD ?_)))
      · simp only [hk, hg, ne_eq, not_true_eq_false, or_false, if_false] at k
        refine Cd.f (leN_f (by omega)) ?_
        repeat (first | refine run ?_ | refine ct ?_ | refine cf ?_ | refine sk ?_ | refine la rfl ?_ | refine na fun _ _ _ => ?_ | refine sa rfl fun _ _ => ?_ | refine nk ?_ | refine mu ?_ | refine ac ?_ | refine ai ?_)
        exact k _ (h32.ent (by repeat (first | exact eN _ | exact eZ | apply eC (by repeat (first | exact pH | apply pT)) | refine eD ?_)))
    · simp only [hk, ne_eq, not_false_eq_true, true_or, if_true] at k
      refine Cd.t (by rw [eqN_f hk]; rfl) ?_
      refine rSnapOn_ok hc ⟨sl, 1, i, (M.peek (addM sl.first i)), genW (M.peek (addM sl.first i)), t, false, 0⟩ h32 (by repeat (first | exact pH | apply pT)) rfl h5 fun H35 h35 => ?_
      refine ld h35 rfl (AsInt.mk ?_)
      rw [on_rat]
      exact k _ (h35.ent (by repeat (first | exact eN _ | exact eZ | apply eC (by repeat (first | exact pH | apply pT)) | refine eD ?_)))
  · simp only [SnapS.step, SnapS.cell] at k
    simp only [dsC, SnapS.handle, SnapS.stamp, ratA, Bool.false_eq_true, if_false, List.cons_append, List.nil_append] at hs0
    repeat (first | refine run ?_ | refine ct ?_ | refine cf ?_ | refine sk ?_ | refine la rfl ?_ | refine na fun _ _ _ => ?_ | refine sa rfl fun _ _ => ?_ | refine nk ?_ | refine mu ?_ | refine ac ?_ | refine ai ?_)
    refine Must.mk (cv_small (by omega)) ?_
    repeat (first | refine run ?_ | refine ct ?_ | refine cf ?_ | refine sk ?_ | refine la rfl ?_ | refine na fun _ _ _ => ?_ | refine sa rfl fun _ _ => ?_ | refine nk ?_ | refine mu ?_ | refine ac ?_ | refine ai ?_)
    rw [wrapN_small (by omega)]
    refine rWord13_ok hc hs0 (by omega) fun H50 h50 => ?_
    refine refCas_ok (a := addM sl.first i) hc h50 (by repeat (first | exact pH | apply pT)) ht fun H52 h52 => ?_
    repeat (first | refine run ?_ | refine ct ?_ | refine cf ?_ | refine sk ?_ | refine la rfl ?_ | refine na fun _ _ _ => ?_ | refine sa rfl fun _ _ => ?_ | refine nk ?_ | refine mu ?_ | refine ac ?_ | refine ai ?_)
    cases hsw : M.swaps (addM sl.first i) w with
    | true =>
      simp only [hsw, if_true] at k
      refine Cd.t rfl ?_
      repeat (first | refine run ?_ | refine ct ?_ | refine cf ?_ | refine sk ?_ | refine la rfl ?_ | refine na fun _ _ _ => ?_ | refine sa rfl fun _ _ => ?_ | refine nk ?_ | refine mu ?_ | refine ac ?_ | refine ai ?_)
      exact k _ (Sat.ent (by assumption) (by repeat (first | exact eN _ | exact eZ | apply eC (by repeat (first | exact pH | apply pT)) | refine eD ?_)))
    | false =>
      simp only [hsw, Bool.false_eq_true, if_false] at k
      refine Cd.f rfl ?_
      refine rSnapOn_ok hc ⟨sl, 1, i, w, gen, t, false, 0⟩ h52 (by repeat (first | exact pH | apply pT)) rfl h5 fun H35 h35 => ?_
      refine ld h35 rfl (AsInt.mk ?_)
      rw [on_rat]
      exact k _ (h35.ent (by repeat (first | exact eN _ | exact eZ | apply eC (by repeat (first | exact pH | apply pT)) | refine eD ?_)))
  · simp only [SnapS.step, SnapS.cell] at k
    simp only [dsC, SnapS.handle, SnapS.stamp, ratA, Bool.false_eq_true, if_false, List.cons_append, List.nil_append] at hs0
    repeat (first | refine run ?_ | refine ct ?_ | refine cf ?_ | refine sk ?_ | refine la rfl ?_ | refine na fun _ _ _ => ?_ | refine sa rfl fun _ _ => ?_ | refine nk ?_ | refine mu ?_ | refine ac ?_ | refine ai ?_)
    refine Must.mk (cv_small (by omega)) ?_
    repeat (first | refine run ?_ | refine ct ?_ | refine cf ?_ | refine sk ?_ | refine la rfl ?_ | refine na fun _ _ _ => ?_ | refine sa rfl fun _ _ => ?_ | refine nk ?_ | refine mu ?_ | refine ac ?_ | refine ai ?_)
    refine refLoad_ok hc hs0 (by repeat (first | exact pH | apply pT)) ht fun H17 h17 => ?_
    repeat (first | refine run ?_ | refine ct ?_ | refine cf ?_ | refine sk ?_ | refine la rfl ?_ | refine na fun _ _ _ => ?_ | refine sa rfl fun _ _ => ?_ | refine nk ?_ | refine mu ?_ | refine ac ?_ | refine ai ?_)
    exact k _ (Sat.ent (by assumption) (by repeat (first | exact eN _ | exact eZ | apply eC (by repeat (first | exact pH | apply pT)) | refine eD ?_)))
  · simp only [SnapS.step, SnapS.cell] at k
    simp only [dsC, SnapS.handle, SnapS.stamp, ratA, Bool.false_eq_true, if_false, List.cons_append, List.nil_append] at hs0
    repeat (first | refine run ?_ | refine ct ?_ | refine cf ?_ | refine sk ?_ | refine la rfl ?_ | refine na fun _ _ _ => ?_ | refine sa rfl fun _ _ => ?_ | refine nk ?_ | refine mu ?_ | refine ac ?_ | refine ai ?_)
    refine Must.mk (cv_small (by omega)) ?_
    repeat (first | refine run ?_ | refine ct ?_ | refine cf ?_ | refine sk ?_ | refine la rfl ?_ | refine na fun _ _ _ => ?_ | refine sa rfl fun _ _ => ?_ | refine nk ?_ | refine mu ?_ | refine ac ?_ | refine ai ?_)
    rw [wrapN_small (by omega)]
    refine rWord13_ok hc hs0 (by omega) fun H50 h50 => ?_
    refine refStore_ok (a := addM sl.first i) hc h50 (by repeat (first | exact pH | apply pT)) ht fun H52 h52 => ?_
    repeat (first | refine run ?_ | refine ct ?_ | refine cf ?_ | refine sk ?_ | refine la rfl ?_ | refine na fun _ _ _ => ?_ | refine sa rfl fun _ _ => ?_ | refine nk ?_ | refine mu ?_ | refine ac ?_ | refine ai ?_)
    exact k _ (Sat.ent (by assumption) (by repeat (first | exact eN _ | exact eZ | apply eC (by repeat (first | exact pH | apply pT)) | refine eD ?_)))
  · simp only [SnapS.step, SnapS.cell] at k
    simp only [dsC, SnapS.handle, SnapS.stamp, ratA, Bool.false_eq_true, if_false, List.cons_append, List.nil_append] at hs0
    repeat (first | refine run ?_ | refine ct ?_ | refine cf ?_ | refine sk ?_ | refine la rfl ?_ | refine na fun _ _ _ => ?_ | refine sa rfl fun _ _ => ?_ | refine nk ?_ | refine mu ?_ | refine ac ?_ | refine ai ?_)
    refine Must.mk (cv_small (by omega)) ?_
    repeat (first | refine run ?_ | refine ct ?_ | refine cf ?_ | refine sk ?_ | refine la rfl ?_ | refine na fun _ _ _ => ?_ | refine sa rfl fun _ _ => ?_ | refine nk ?_ | refine mu ?_ | refine ac ?_ | refine ai ?_)
    refine refLoad_ok hc hs0 (by repeat (first | exact pH | apply pT)) ht fun H17 h17 => ?_
    repeat (first | refine run ?_ | refine ct ?_ | refine cf ?_ | refine sk ?_ | refine la rfl ?_ | refine na fun _ _ _ => ?_ | refine sa rfl fun _ _ => ?_ | refine nk ?_ | refine mu ?_ | refine ac ?_ | refine ai ?_)
    by_cases h : sl.most ≤ M.peek sl.cam
    · simp only [if_pos h] at k
      refine Cd.t (leN_t h) ?_
      repeat (first | refine run ?_ | refine ct ?_ | refine cf ?_ | refine sk ?_ | refine la rfl ?_ | refine na fun _ _ _ => ?_ | refine sa rfl fun _ _ => ?_ | refine nk ?_ | refine mu ?_ | refine ac ?_ | refine ai ?_)
      exact k _ (Sat.ent (by assumption) (by repeat (first | exact eN _ | exact eZ | apply eC (by repeat (first | exact pH | apply pT)) | refine eD ?_)))
    · simp only [if_neg h] at k
      refine Cd.f (leN_f (Nat.lt_of_not_le h)) ?_
      repeat (first | refine run ?_ | refine ct ?_ | refine cf ?_ | refine sk ?_ | refine la rfl ?_ | refine na fun _ _ _ => ?_ | refine sa rfl fun _ _ => ?_ | refine nk ?_ | refine mu ?_ | refine ac ?_ | refine ai ?_)
      exact k _ (Sat.ent (by assumption) (by repeat (first | exact eN _ | exact eZ | apply eC (by repeat (first | exact pH | apply pT)) | refine eD ?_)))
  · simp only [SnapS.step, SnapS.cell] at k
    simp only [dsC, SnapS.handle, SnapS.stamp, ratA, Bool.false_eq_true, if_false, List.cons_append, List.nil_append] at hs0
    repeat (first | refine run ?_ | refine ct ?_ | refine cf ?_ | refine sk ?_ | refine la rfl ?_ | refine na fun _ _ _ => ?_ | refine sa rfl fun _ _ => ?_ | refine nk ?_ | refine mu ?_ | refine ac ?_ | refine ai ?_)
    refine Must.mk (cv_small (by omega)) ?_
    repeat (first | refine run ?_ | refine ct ?_ | refine cf ?_ | refine sk ?_ | refine la rfl ?_ | refine na fun _ _ _ => ?_ | refine sa rfl fun _ _ => ?_ | refine nk ?_ | refine mu ?_ | refine ac ?_ | refine ai ?_)
    refine refCas_ok hc hs0 (by repeat (first | exact pH | apply pT)) ht fun H17 h17 => ?_
    repeat (first | refine run ?_ | refine ct ?_ | refine cf ?_ | refine sk ?_ | refine la rfl ?_ | refine na fun _ _ _ => ?_ | refine sa rfl fun _ _ => ?_ | refine nk ?_ | refine mu ?_ | refine ac ?_ | refine ai ?_)
    exact k _ (Sat.ent (by assumption) (by repeat (first | exact eN _ | exact eZ | apply eC (by repeat (first | exact pH | apply pT)) | refine eD ?_)))
  · simp only [SnapS.step, SnapS.cell] at k
    simp only [dsC, SnapS.handle, SnapS.stamp, ratA, Bool.false_eq_true, if_false, List.cons_append, List.nil_append] at hs0
    repeat (first | refine run ?_ | refine ct ?_ | refine cf ?_ | refine sk ?_ | refine la rfl ?_ | refine na fun _ _ _ => ?_ | refine sa rfl fun _ _ => ?_ | refine nk ?_ | refine mu ?_ | refine ac ?_ | refine ai ?_)
    refine Must.mk (cv_small (by omega)) ?_
    repeat (first | refine run ?_ | refine ct ?_ | refine cf ?_ | refine sk ?_ | refine la rfl ?_ | refine na fun _ _ _ => ?_ | refine sa rfl fun _ _ => ?_ | refine nk ?_ | refine mu ?_ | refine ac ?_ | refine ai ?_)
    rw [wrapN_small (by omega)]
    refine rWord13_ok hc hs0 (by omega) fun H50 h50 => ?_
    refine refStore_ok (a := addM sl.first i) hc h50 (by repeat (first | exact pH | apply pT)) ht fun H52 h52 => ?_
    repeat (first | refine run ?_ | refine ct ?_ | refine cf ?_ | refine sk ?_ | refine la rfl ?_ | refine na fun _ _ _ => ?_ | refine sa rfl fun _ _ => ?_ | refine nk ?_ | refine mu ?_ | refine ac ?_ | refine ai ?_)
    refine Must.mk (cv_small (by omega)) ?_
    repeat (first | refine run ?_ | refine ct ?_ | refine cf ?_ | refine sk ?_ | refine la rfl ?_ | refine na fun _ _ _ => ?_ | refine sa rfl fun _ _ => ?_ | refine nk ?_ | refine mu ?_ | refine ac ?_ | refine ai ?_)
    have e : Nat.mod (Nat.add (Nat.mod (Nat.add (wrapN .u64 (Int.ofNat i)) 1) 18446744073709551616) (Nat.mod (Nat.mul gen 65536) 18446744073709551616)) 18446744073709551616 = i + 1 + gen * 65536 := by
      rw [wrapN_small (by omega)]
      show ((i + 1) % 18446744073709551616 + gen * 65536 % 18446744073709551616) % 18446744073709551616 = _
      omega
    rename_i hz
    rw [e] at hz
    exact k _ (hz.ent (by repeat (first | exact eN _ | exact eZ | apply eC (by repeat (first | exact pH | apply pT)) | refine eD ?_)))
  · simp only [SnapS.step, SnapS.cell] at k
    simp only [dsC, SnapS.handle, SnapS.stamp, ratA, Bool.false_eq_true, if_false, List.cons_append, List.nil_append] at hs0
    repeat (first | refine run ?_ | refine ct ?_ | refine cf ?_ | refine sk ?_ | refine la rfl ?_ | refine na fun _ _ _ => ?_ | refine sa rfl fun _ _ => ?_ | refine nk ?_ | refine mu ?_ | refine ac ?_ | refine ai ?_)
    refine Must.mk (cv_small (by omega)) ?_
    repeat (first | refine run ?_ | refine ct ?_ | refine cf ?_ | refine sk ?_ | refine la rfl ?_ | refine na fun _ _ _ => ?_ | refine sa rfl fun _ _ => ?_ | refine nk ?_ | refine mu ?_ | refine ac ?_ | refine ai ?_)
    rw [wrapN_small (by omega)]
    refine rWord13_ok hc hs0 (by omega) fun H50 h50 => ?_
    refine refStore_ok (a := addM sl.first i) hc h50 (by repeat (first | exact pH | apply pT)) ht fun H52 h52 => ?_
    repeat (first | refine run ?_ | refine ct ?_ | refine cf ?_ | refine sk ?_ | refine la rfl ?_ | refine na fun _ _ _ => ?_ | refine sa rfl fun _ _ => ?_ | refine nk ?_ | refine mu ?_ | refine ac ?_ | refine ai ?_)
    exact k _ (Sat.ent (by assumption) (by repeat (first | exact eN _ | exact eZ | apply eC (by repeat (first | exact pH | apply pT)) | refine eD ?_)))
end Go.Proofs.YtipbbnoepphdkaaGreat

set_option linter.unusedVariables false
set_option linter.unusedSimpArgs false
namespace Go.Proofs.YtipbbnoepphdkaaGreat
open Go Go.CM
attribute [local irreducible] AsBool AsWant AsNat AsInt AsCnt AsPtr AsSlc AsLen AsStr AsAgg AsTup AsFn AsIfc Nth Sc NotNil IsNil Must Cd codeW funW Sat SatL wrapN subM mkRow ltZ leZ ltN leN
variable {con : CallT}
/-! ### the document's release, in its block -/
abbrev pre13 (c : Nat → Value) (r : List Value) : List Value := c 0 :: c 1 :: c 2 :: c 3 :: c 4 :: c 5 :: c 6 :: c 7 :: c 8 :: c 9 :: c 10 :: c 11 :: c 12 :: r
set_option maxRecDepth 100000 in
theorem rLetStep_ok (hc : Con con lives) (s : LetS) {c : Nat → Value} {rest : List Value} {L R1 R2 : List HP} {H : CH} {p m : Nat} {th : Int} {M : Mem} {K : KP} (hs : Sat L H) (hm : Pull L (RefP m M) R1) (hp : Pull R1 (Own p (pre13 c (dlC s ++ rest))) R2)
    (ht : M.tr.length < 1000000000) (hb : M.Bd) (hh : s.h < 18446744073709551616) (hat : s.at_ < 2) (k : ∀ H1, Sat (Own p (pre13 c (dlC (s.step M th).1 ++ rest)) :: RefP m (s.step M th).2 :: R2) H1 → K (.bool (eqZ (Int.ofNat (s.step M th).1.at_) (Int.ofNat 2))) H1) :
    Call1 Tryz.prog con 74 [ptr p 13, ptr m 0, i64 th] H K := by
  refine call_of (hc _ _ _ rfl) ?_
  rw [rLetStep_W]
  have hs0 := hs.takes (.cons hm (.cons hp .nil))
  simp only [List.cons_append, List.nil_append] at hs0
  clear hs hm hp
  obtain ⟨sl, h, at_, slot, w, gen, err⟩ := s
  simp only at hh hat
  rcases (by omega : at_ = 0 ∨ at_ = 1) with rfl | rfl
  · simp only [LetS.step] at k
    simp only [dlC, List.cons_append, List.nil_append] at hs0
    repeat (first | refine run ?_ | refine ct ?_ | refine cf ?_ | refine sk ?_ | refine la rfl ?_ | refine na fun _ _ _ => ?_ | refine sa rfl fun _ _ => ?_ | refine nk ?_ | refine mu ?_ | refine ac ?_ | refine ai ?_)
    refine rUnhandle_ok hc hh (fun hf => ?_) (fun htr => ?_)
    · have hth : LetS.there ⟨sl, h, 0, slot, w, gen, err⟩ = false := by unfold LetS.there; rw [hf]; rfl
      simp only [hth, Bool.false_eq_true, if_false] at k
      repeat (first | refine run ?_ | refine ct ?_ | refine cf ?_ | refine sk ?_ | refine la rfl ?_ | refine na fun _ _ _ => ?_ | refine sa rfl fun _ _ => ?_ | refine nk ?_ | refine mu ?_ | refine ac ?_ | refine ai ?_)
      exact k _ (Sat.ent (by assumption) (by repeat (first | exact eN _ | exact eZ | apply eC (by repeat (first | exact pH | apply pT)) | refine eD ?_)))
    · repeat (first | refine run ?_ | refine ct ?_ | refine cf ?_ | refine sk ?_ | refine la rfl ?_ | refine na fun _ _ _ => ?_ | refine sa rfl fun _ _ => ?_ | refine nk ?_ | refine mu ?_ | refine ac ?_ | refine ai ?_)
      refine rCount_ok hc sl hs0 fun H20 h20 => ?_
      repeat (first | refine run ?_ | refine ct ?_ | refine cf ?_ | refine sk ?_ | refine la rfl ?_ | refine na fun _ _ _ => ?_ | refine sa rfl fun _ _ => ?_ | refine nk ?_ | refine mu ?_ | refine ac ?_ | refine ai ?_)
      by_cases hlt : h % 65536 - 1 < cnt sl.count
      · have hth : LetS.there ⟨sl, h, 0, slot, w, gen, err⟩ = true := by unfold LetS.there; rw [htr, decide_eq_true hlt]; rfl
        simp only [hth, if_true] at k
        refine Cd.f (leZ_f hlt) ?_
        repeat (first | refine run ?_ | refine ct ?_ | refine cf ?_ | refine sk ?_ | refine la rfl ?_ | refine na fun _ _ _ => ?_ | refine sa rfl fun _ _ => ?_ | refine nk ?_ | refine mu ?_ | refine ac ?_ | refine ai ?_)
        refine Must.mk (cv_small (by omega)) ?_
        repeat (first | refine run ?_ | refine ct ?_ | refine cf ?_ | refine sk ?_ | refine la rfl ?_ | refine na fun _ _ _ => ?_ | refine sa rfl fun _ _ => ?_ | refine nk ?_ | refine mu ?_ | refine ac ?_ | refine ai ?_)
        have hbp := hb.peek (addM sl.first (h % 65536 - 1))
        rename_i H29 h29
        rw [wrapN_small (by omega)] at h29
        rw [wrapN_small (by omega)]
        refine refLoad_ok (a := addM sl.first (h % 65536 - 1)) hc h29 (by repeat (first | exact pH | apply pT)) ht fun H32 h32 => ?_
        repeat (first | refine run ?_ | refine ct ?_ | refine cf ?_ | refine sk ?_ | refine la rfl ?_ | refine na fun _ _ _ => ?_ | refine sa rfl fun _ _ => ?_ | refine nk ?_ | refine mu ?_ | refine ac ?_ | refine ai ?_)
        rename_i H33 h33
        refine rUnpack_ok hc h33 hbp fun H36 h36 => ?_
        repeat (first | refine run ?_ | refine ct ?_ | refine cf ?_ | refine sk ?_ | refine la rfl ?_ | refine na fun _ _ _ => ?_ | refine sa rfl fun _ _ => ?_ | refine nk ?_ | refine mu ?_ | refine ac ?_ | refine ai ?_)
        refine stN (by assumption) (Nat.le_of_ble_eq_true rfl) rfl fun H43 h43 => ?_
        repeat (first | refine run ?_ | refine ct ?_ | refine cf ?_ | refine sk ?_ | refine la rfl ?_ | refine na fun _ _ _ => ?_ | refine sa rfl fun _ _ => ?_ | refine nk ?_ | refine mu ?_ | refine ac ?_ | refine ai ?_)
        by_cases hk : kindW (M.peek (addM sl.first (h % 65536 - 1))) = 3
        · refine Cd.f (by rw [eqN_t hk]; rfl) ?_
          repeat (first | refine run ?_ | refine ct ?_ | refine cf ?_ | refine sk ?_ | refine la rfl ?_ | refine na fun _ _ _ => ?_ | refine sa rfl fun _ _ => ?_ | refine nk ?_ | refine mu ?_ | refine ac ?_ | refine ai ?_)
          by_cases hg : genW (M.peek (addM sl.first (h % 65536 - 1))) = h / 65536
          · simp only [hk, hg, and_self, if_true] at k
            refine Cd.f (by rw [eqN_t hg]; rfl) ?_
            repeat (first | refine run ?_ | refine ct ?_ | refine cf ?_ | refine sk ?_ | refine la rfl ?_ | refine na fun _ _ _ => ?_ | refine sa rfl fun _ _ => ?_ | refine nk ?_ | refine mu ?_ | refine ac ?_ | refine ai ?_)
            exact k _ (Sat.ent (by assumption) (by repeat (first | exact eN _ | exact eZ | apply eC (by repeat (first | exact pH | apply pT)) | refine eD ?_)))
          · simp only [hk, hg, and_false, if_false] at k
            refine Cd.t (by rw [eqN_f hg]; rfl) ?_
            repeat (first | refine run ?_ | refine ct ?_ | refine cf ?_ | refine sk ?_ | refine la rfl ?_ | refine na fun _ _ _ => ?_ | refine sa rfl fun _ _ => ?_ | refine nk ?_ | refine mu ?_ | refine ac ?_ | refine ai ?_)
            exact k _ (Sat.ent (by assumption) (by repeat (first | exact eN _ | exact eZ | apply eC (by repeat (first | exact pH | apply pT)) | refine eD ?_)))
        · simp only [hk, false_and, if_false] at k
          refine Cd.t (by rw [eqN_f hk]; rfl) ?_
          repeat (first | refine run ?_ | refine ct ?_ | refine cf ?_ | refine sk ?_ | refine la rfl ?_ | refine na fun _ _ _ => ?_ | refine sa rfl fun _ _ => ?_ | refine nk ?_ | refine mu ?_ | refine ac ?_ | refine ai ?_)
          exact k _ (Sat.ent (by assumption) (by repeat (first | exact eN _ | exact eZ | apply eC (by repeat (first | exact pH | apply pT)) | refine eD ?_)))
      · have hth : LetS.there ⟨sl, h, 0, slot, w, gen, err⟩ = false := by unfold LetS.there; rw [decide_eq_false hlt, Bool.and_false]
        simp only [hth, Bool.false_eq_true, if_false] at k
        refine Cd.t (leZ_t (Nat.le_of_not_lt hlt)) ?_
        repeat (first | refine run ?_ | refine ct ?_ | refine cf ?_ | refine sk ?_ | refine la rfl ?_ | refine na fun _ _ _ => ?_ | refine sa rfl fun _ _ => ?_ | refine nk ?_ | refine mu ?_ | refine ac ?_ | refine ai ?_)
        exact k _ (Sat.ent (by assumption) (by repeat (first | exact eN _ | exact eZ | apply eC (by repeat (first | exact pH | apply pT)) | refine eD ?_)))
  · simp only [LetS.step] at k
    simp only [dlC, List.cons_append, List.nil_append] at hs0
    repeat (first | refine run ?_ | refine ct ?_ | refine cf ?_ | refine sk ?_ | refine la rfl ?_ | refine na fun _ _ _ => ?_ | refine sa rfl fun _ _ => ?_ | refine nk ?_ | refine mu ?_ | refine ac ?_ | refine ai ?_)
    refine rWord13_ok hc hs0 (by omega) fun H10 h10 => ?_
    refine refCas_ok hc h10 (by repeat (first | exact pH | apply pT)) ht fun H12 h12 => ?_
    repeat (first | refine run ?_ | refine ct ?_ | refine cf ?_ | refine sk ?_ | refine la rfl ?_ | refine na fun _ _ _ => ?_ | refine sa rfl fun _ _ => ?_ | refine nk ?_ | refine mu ?_ | refine ac ?_ | refine ai ?_)
    cases hsw : M.swaps slot w with
    | true =>
      simp only [hsw, if_true] at k
      refine Cd.f rfl ?_
      repeat (first | refine run ?_ | refine ct ?_ | refine cf ?_ | refine sk ?_ | refine la rfl ?_ | refine na fun _ _ _ => ?_ | refine sa rfl fun _ _ => ?_ | refine nk ?_ | refine mu ?_ | refine ac ?_ | refine ai ?_)
      exact k _ (Sat.ent (by assumption) (by repeat (first | exact eN _ | exact eZ | apply eC (by repeat (first | exact pH | apply pT)) | refine eD ?_)))
    | false =>
      simp only [hsw, Bool.false_eq_true, if_false] at k
      refine Cd.t rfl ?_
      repeat (first | refine run ?_ | refine ct ?_ | refine cf ?_ | refine sk ?_ | refine la rfl ?_ | refine na fun _ _ _ => ?_ | refine sa rfl fun _ _ => ?_ | refine nk ?_ | refine mu ?_ | refine ac ?_ | refine ai ?_)
      exact k _ (Sat.ent (by assumption) (by repeat (first | exact eN _ | exact eZ | apply eC (by repeat (first | exact pH | apply pT)) | refine eD ?_)))
end Go.Proofs.YtipbbnoepphdkaaGreat

set_option linter.unusedVariables false
set_option linter.unusedSimpArgs false
namespace Go.Proofs.YtipbbnoepphdkaaGreat
open Go Go.CM
attribute [local irreducible] AsBool AsWant AsNat AsInt AsCnt AsPtr AsSlc AsLen AsStr AsAgg AsTup AsFn AsIfc Nth Sc NotNil IsNil Must Cd codeW funW Sat SatL wrapN subM mkRow ltZ leZ ltN leN
variable {con : CallT}
/-! ### slices.Sort, after its text -/
abbrev ltU (x y : Nat) : Bool := ltN x y
theorem swoU : Sort.SWO ltU where
  irrefl x := ltN_f (Nat.le_refl _)
  trans x y z h1 h2 := ltN_t (Nat.lt_trans (ltN_iff.1 h1) (ltN_iff.1 h2))
  ntrans x y z h1 h2 := by
    have e1 : ¬ x < y := fun h => by rw [show ltU x y = true from ltN_t h] at h1; cases h1
    have e2 : ¬ y < z := fun h => by rw [show ltU y z = true from ltN_t h] at h2; cases h2
    exact ltN_f (by omega)
def RowA (b e s : Nat) (d : Array Nat) : HP := Row b e s true (d.toList.map u64)
instance (priority := 1100) HasCell.rowA {b e s : Nat} {d : Array Nat} {L : List HP} : HasCell (RowA b e s d :: L) b (d.toList.map u64) := HasCell.row
instance (priority := 1100) HasObj.rowA {b e s : Nat} {d : Array Nat} {L : List HP} : HasObj (RowA b e s d :: L) b (d.toList.map u64) (fun cs' => Row b e s true cs' :: L) := HasObj.row
theorem lenA (d : Array Nat) : (d.toList.map u64).length = d.size := by simp
theorem ldA {L : List HP} {H : CH} {b off i : Nat} {d : Array Nat} {K : Value → Prop} (hs : Sat L H) [HasCell L b (d.toList.map u64)] (hi : i < d.size) (ho : off = Nat.add 0 (Nat.mul i 1)) (k : K (u64 d[i]!)) : Ld H b off K := by
  subst ho
  refine ld hs ?_ k
  rw [off1, List.getElem?_map, Array.getElem?_toList, Array.getElem?_eq_getElem hi, getElem!_pos d i hi]; rfl
theorem swpA {d : Array Nat} {i j : Nat} (hi : i < d.size) (hj : j < d.size) : ((d.toList.map u64).set i (u64 d[j]!)).set j (u64 d[i]!) = (Sort.swp d i j).toList.map u64 := by
  unfold Sort.swp
  rw [Array.toList_setIfInBounds, Array.toList_setIfInBounds, List.map_set, List.map_set]
theorem cmpLess_ok (hc : Con con lives) {H : CH} {x y : Nat} {K : KP} (k : K (.bool (ltU x y)) H) : Call1 Tryz.prog con 160 [u64 x, u64 y] H K := by
  refine call_of (hc _ _ _ rfl) ?_
  rw [cmpLess_W]
  refine call_of (hc _ _ _ rfl) ?_
  rw [cmpNaN_W, eqN_self]
  exact AsWant.mk (Cd.f rfl k)
/-- The inner loop of the insertion sort. -/
theorem insInner_at {a i : Nat} {d : Array Nat} (h : 0 < i) : Sort.insInner ltU a i d = if i > a && ltU d[i]! d[i - 1]! then Sort.insInner ltU a (i - 1) (Sort.swp d i (i - 1)) else d := by
  obtain ⟨i, rfl⟩ : ∃ m, i = m + 1 := ⟨i - 1, by omega⟩
  rfl
theorem insB_ok (hc : Con con lives) {R : List HP} {H : CH} {b e s a n : Nat} {d : Array Nat} {j : Nat} {σ : TF} {Q : KX} (hs : Sat (RowA b e s d :: R) H) (hn : d.size = n) (hn2 : n ≤ 1000000) (hj : j < n)
    (e0 : σ 0 = slc b 0 n n) (e1 : σ 1 = iN a) (e7 : σ 7 = iN j)
    (k : ∀ σ1 H1, σ1 0 = slc b 0 n n → σ1 1 = iN a → σ1 2 = σ 2 → σ1 6 = σ 6 → Sat (RowA b e s (Sort.insInner ltU a j d) :: R) H1 → Q (.exit 2) σ1 H1) :
    LoopC Tryz.prog con (lpAt Tryz.prog 154 1) σ H Q := by
  refine LoopC.indP (n := 200) (id := 2) (fun σ1 H1 => σ1 0 = slc b 0 n n ∧ σ1 1 = iN a ∧ σ1 2 = σ 2 ∧ σ1 6 = σ 6 ∧ Sat (RowA b e s (Sort.insInner ltU a j d) :: R) H1) (by kernel_rfl)
    (fun (i : Nat) σ1 H1 => i < n ∧ σ1 0 = slc b 0 n n ∧ σ1 1 = iN a ∧ σ1 2 = σ 2 ∧ σ1 6 = σ 6 ∧ σ1 7 = iN i ∧ ∃ d1, d1.size = n ∧ Sort.insInner ltU a i d1 = Sort.insInner ltU a j d ∧ Sat (RowA b e s d1 :: R) H1)
    (fun i => i) (fun i σ1 H1 hI => ?_) (fun σ1 H1 hP => ?_) j _ _ ⟨hj, e0, e1, rfl, rfl, e7, d, hn, rfl, hs⟩
  · obtain ⟨hi, a0, a1, a2, a6, a7, d1, hd1, hins, hs1⟩ := hI
    rw [insSortB_W]
    simp only [a7, a0, a1]
    repeat (first | refine run ?_ | refine ct ?_ | refine cf ?_ | refine sk ?_ | refine la rfl ?_ | refine na fun _ _ _ => ?_ | refine sa rfl fun _ _ => ?_ | refine nk ?_ | refine mu ?_ | refine ac ?_ | refine ai ?_)
    by_cases h : a < i
    · refine Cd.t (ltZ_t h) ?_
      repeat (first | refine run ?_ | refine ct ?_ | refine cf ?_ | refine sk ?_ | refine la rfl ?_ | refine na fun _ _ _ => ?_ | refine sa rfl fun _ _ => ?_ | refine nk ?_ | refine mu ?_ | refine ac ?_ | refine ai ?_)
      refine Must.mk (ltN_t (by omega)) (ldA hs1 (by omega) rfl ?_)
      repeat (first | refine run ?_ | refine ct ?_ | refine cf ?_ | refine sk ?_ | refine la rfl ?_ | refine na fun _ _ _ => ?_ | refine sa rfl fun _ _ => ?_ | refine nk ?_ | refine mu ?_ | refine ac ?_ | refine ai ?_)
      rw [subInt (by omega)]
      refine inR_nat (by omega) ?_
      repeat (first | refine run ?_ | refine ct ?_ | refine cf ?_ | refine sk ?_ | refine la rfl ?_ | refine na fun _ _ _ => ?_ | refine sa rfl fun _ _ => ?_ | refine nk ?_ | refine mu ?_ | refine ac ?_ | refine ai ?_)
      refine Must.mk (ltN_t (by omega)) (ldA hs1 (by omega) rfl ?_)
      repeat (first | refine run ?_ | refine ct ?_ | refine cf ?_ | refine sk ?_ | refine la rfl ?_ | refine na fun _ _ _ => ?_ | refine sa rfl fun _ _ => ?_ | refine nk ?_ | refine mu ?_ | refine ac ?_ | refine ai ?_)
      refine cmpLess_ok hc ?_
      have e2 := insInner_at (a := a) (d := d1) (show 0 < i by omega)
      rw [decide_eq_true (show i > a from h), Bool.true_and] at e2
      repeat (first | refine run ?_ | refine ct ?_ | refine cf ?_ | refine sk ?_ | refine la rfl ?_ | refine na fun _ _ _ => ?_ | refine sa rfl fun _ _ => ?_ | refine nk ?_ | refine mu ?_ | refine ac ?_ | refine ai ?_)
      cases hl : ltU d1[i]! d1[i - 1]! with
      | true =>
        rw [hl, if_pos rfl] at e2
        refine Cd.t rfl ?_
        repeat (first | refine run ?_ | refine ct ?_ | refine cf ?_ | refine sk ?_ | refine la rfl ?_ | refine na fun _ _ _ => ?_ | refine sa rfl fun _ _ => ?_ | refine nk ?_ | refine mu ?_ | refine ac ?_ | refine ai ?_)
        rw [subInt (by omega)]
        refine inR_nat (by omega) ?_
        repeat (first | refine run ?_ | refine ct ?_ | refine cf ?_ | refine sk ?_ | refine la rfl ?_ | refine na fun _ _ _ => ?_ | refine sa rfl fun _ _ => ?_ | refine nk ?_ | refine mu ?_ | refine ac ?_ | refine ai ?_)
        rw [subInt (by omega)]
        refine inR_nat (by omega) ?_
        repeat (first | refine run ?_ | refine ct ?_ | refine cf ?_ | refine sk ?_ | refine la rfl ?_ | refine na fun _ _ _ => ?_ | refine sa rfl fun _ _ => ?_ | refine nk ?_ | refine mu ?_ | refine ac ?_ | refine ai ?_)
        refine Must.mk (ltN_t (by omega)) (ldA hs1 (by omega) rfl ?_)
        repeat (first | refine run ?_ | refine ct ?_ | refine cf ?_ | refine sk ?_ | refine la rfl ?_ | refine na fun _ _ _ => ?_ | refine sa rfl fun _ _ => ?_ | refine nk ?_ | refine mu ?_ | refine ac ?_ | refine ai ?_)
        refine Must.mk (ltN_t (by omega)) (ldA hs1 (by omega) rfl ?_)
        repeat (first | refine run ?_ | refine ct ?_ | refine cf ?_ | refine sk ?_ | refine la rfl ?_ | refine na fun _ _ _ => ?_ | refine sa rfl fun _ _ => ?_ | refine nk ?_ | refine mu ?_ | refine ac ?_ | refine ai ?_)
        refine Must.mk (ltN_t (by omega)) ?_
        repeat (first | refine run ?_ | refine ct ?_ | refine cf ?_ | refine sk ?_ | refine la rfl ?_ | refine na fun _ _ _ => ?_ | refine sa rfl fun _ _ => ?_ | refine nk ?_ | refine mu ?_ | refine ac ?_ | refine ai ?_)
        refine st hs1 (by rw [lenA, off1]; omega) rfl fun _ hx => ?_
        repeat (first | refine run ?_ | refine ct ?_ | refine cf ?_ | refine sk ?_ | refine la rfl ?_ | refine na fun _ _ _ => ?_ | refine sa rfl fun _ _ => ?_ | refine nk ?_ | refine mu ?_ | refine ac ?_ | refine ai ?_)
        refine Must.mk (ltN_t (by omega)) ?_
        repeat (first | refine run ?_ | refine ct ?_ | refine cf ?_ | refine sk ?_ | refine la rfl ?_ | refine na fun _ _ _ => ?_ | refine sa rfl fun _ _ => ?_ | refine nk ?_ | refine mu ?_ | refine ac ?_ | refine ai ?_)
        refine st hx (by rw [List.length_set, lenA, off1]; omega) rfl fun _ hy => ?_
        rw [off1, off1, swpA (by omega) (by omega)] at hy
        clear hx
        repeat (first | refine run ?_ | refine ct ?_ | refine cf ?_ | refine sk ?_ | refine la rfl ?_ | refine na fun _ _ _ => ?_ | refine sa rfl fun _ _ => ?_ | refine nk ?_ | refine mu ?_ | refine ac ?_ | refine ai ?_)
        rw [subInt (by omega)]
        refine inR_nat (by omega) ?_
        repeat (first | refine run ?_ | refine ct ?_ | refine cf ?_ | refine sk ?_ | refine la rfl ?_ | refine na fun _ _ _ => ?_ | refine sa rfl fun _ _ => ?_ | refine nk ?_ | refine mu ?_ | refine ac ?_ | refine ai ?_)
        show ∃ y, _ ∧ _
        exact ⟨i - 1, by omega, by omega, a0, a1, a2, a6, rfl, _, by rw [Sort.size_swp]; exact hd1, by rw [← e2]; exact hins, hy⟩
      | false =>
        rw [hl] at e2
        refine Cd.f rfl ?_
        show _ = _ ∧ _
        exact ⟨rfl, a0, a1, a2, a6, by rw [← hins, e2]; exact hs1⟩
    · refine Cd.f (ltZ_f (by omega)) ?_
      show _ = _ ∧ _
      have e2 : Sort.insInner ltU a i d1 = d1 := by
        cases i with
        | zero => rfl
        | succ i =>
          show (if i + 1 > a && _ then _ else d1) = d1
          rw [decide_eq_false (show ¬ i + 1 > a by omega), Bool.false_and]; rfl
      exact ⟨rfl, a0, a1, a2, a6, by rw [← hins, e2]; exact hs1⟩
  · obtain ⟨a0, a1, a2, a6, hs1⟩ := hP
    exact k σ1 H1 a0 a1 a2 a6 hs1
theorem ins_size (a : Nat) : ∀ (j : Nat) (d : Array Nat), (Sort.insInner ltU a j d).size = d.size
  | 0, d => rfl
  | j + 1, d => by
    show (if _ then Sort.insInner ltU a j _ else d).size = _
    split
    · rw [ins_size a j, Sort.size_swp]
    · rfl
theorem insSort_ok (hc : Con con lives) {L R : List HP} {H : CH} {b e s a z n : Nat} {d : Array Nat} {K : KP} (hs : Sat L H) (hp : Pull L (RowA b e s d) R) (hn : d.size = n) (hn2 : n ≤ 1000000) (hab : a ≤ z) (hz : z ≤ n)
    (k : ∀ H1, Sat (RowA b e s (Sort.insertionSort ltU d a z) :: R) H1 → K unit H1) : Call1 Tryz.prog con 154 [slc b 0 n n, iN a, iN z] H K := by
  refine call_of (hc _ _ _ rfl) ?_
  rw [insSort_W]
  have hs0 := hs.pull hp
  clear hs hp
  rw [addInt]
  refine inR_nat (by omega) ?_
  refine LoopC.indP (n := 200) (id := 0) (fun σ1 H1 => Sat (RowA b e s (Sort.insertionSort ltU d a z) :: R) H1) (by kernel_rfl)
    (fun (i : Nat) σ1 H1 => a ≤ i ∧ σ1 0 = slc b 0 n n ∧ σ1 1 = iN a ∧ σ1 2 = iN z ∧ σ1 6 = iN i ∧ ∃ d1, d1.size = n ∧ Sort.insOuter ltU a z i d1 = Sort.insertionSort ltU d a z ∧ Sat (RowA b e s d1 :: R) H1)
    (fun i => z - i) (fun i σ1 H1 hI => ?_) (fun σ1 H1 hP => ?_) (a + 1) _ _ ⟨by omega, rfl, rfl, rfl, rfl, d, hn, rfl, hs0⟩
  · obtain ⟨hi, a0, a1, a2, a6, d1, hd1, hins, hs1⟩ := hI
    rw [insSortA_W]
    simp only [a6, a2]
    repeat (first | refine run ?_ | refine ct ?_ | refine cf ?_ | refine sk ?_ | refine la rfl ?_ | refine na fun _ _ _ => ?_ | refine sa rfl fun _ _ => ?_ | refine nk ?_ | refine mu ?_ | refine ac ?_ | refine ai ?_)
    by_cases h : i < z
    · refine Cd.t (ltZ_t h) ?_
      refine insB_ok hc (a := a) (j := i) hs1 hd1 hn2 (by omega) a0 a1 rfl fun σ2 H2 c0 c1 c2 c6 h2 => ?_
      show Cd _ _ _
      refine Cd.t rfl ?_
      have c6' : σ2 6 = iN i := c6.trans a6
      simp only [c6']
      repeat (first | refine run ?_ | refine ct ?_ | refine cf ?_ | refine sk ?_ | refine la rfl ?_ | refine na fun _ _ _ => ?_ | refine sa rfl fun _ _ => ?_ | refine nk ?_ | refine mu ?_ | refine ac ?_ | refine ai ?_)
      rw [addInt]
      refine inR_nat (by omega) ?_
      show ∃ y, _ ∧ _
      refine ⟨i + 1, by omega, by omega, c0, c1, c2.trans a2, rfl, _, by rw [ins_size]; exact hd1, ?_, h2⟩
      rw [← hins]
      conv => rhs; unfold Sort.insOuter
      rw [if_pos h]
    · refine Cd.f (ltZ_f (by omega)) ?_
      show _ = _ ∧ _
      refine ⟨rfl, ?_⟩
      rw [← hins]
      unfold Sort.insOuter
      rw [if_neg h]
      exact hs1
  · show Cd _ _ _
    exact Cd.t rfl (k _ hP)
end Go.Proofs.YtipbbnoepphdkaaGreat

set_option linter.unusedVariables false
set_option linter.unusedSimpArgs false
namespace Go.Proofs.YtipbbnoepphdkaaGreat
open Go Go.CM
attribute [local irreducible] AsBool AsWant AsNat AsInt AsCnt AsPtr AsSlc AsLen AsStr AsAgg AsTup AsFn AsIfc Nth Sc NotNil IsNil Must Cd codeW funW Sat SatL wrapN subM mkRow ltZ leZ ltN leN
variable {con : CallT}
theorem sift_size (hi f : Nat) : ∀ (n root : Nat) (d : Array Nat), hi - root ≤ n → (Sort.siftDown ltU hi f root d).size = d.size
  | 0, root, d, h => by
    unfold Sort.siftDown
    rw [dif_pos (by omega)]
  | n + 1, root, d, h => by
    unfold Sort.siftDown
    split
    · rfl
    · split
      · split
        · rfl
        · split
          · rw [sift_size hi f n _ _ (by omega), Sort.size_swp]
          · rfl
      · split
        · rfl
        · rw [sift_size hi f n _ _ (by omega), Sort.size_swp]
/-- The child at which a sift looks. -/
def childOf (hi f r : Nat) (d : Array Nat) : Nat := if 2 * r + 1 + 1 < hi && ltU d[f + (2 * r + 1)]! d[f + (2 * r + 1) + 1]! then 2 * r + 2 else 2 * r + 1
theorem sift_at {hi f r : Nat} {d : Array Nat} (h : 2 * r + 1 < hi) : Sort.siftDown ltU hi f r d = if !ltU d[f + r]! d[f + childOf hi f r d]! then d else Sort.siftDown ltU hi f (childOf hi f r d) (Sort.swp d (f + r) (f + childOf hi f r d)) := by
  unfold childOf
  conv => lhs; unfold Sort.siftDown
  rw [dif_neg (by omega)]
  by_cases hc : (decide (2 * r + 1 + 1 < hi) && ltU d[f + (2 * r + 1)]! d[f + (2 * r + 1) + 1]!) = true
  · rw [if_pos hc, if_pos hc]
    rw [Bool.and_eq_true] at hc
    have := of_decide_eq_true hc.1
    rw [dif_pos (by omega)]
  · rw [if_neg hc, if_neg hc]
theorem child_lt {z f i : Nat} {d : Array Nat} (h : 2 * i + 1 < z) : childOf z f i d < z ∧ i < childOf z f i d := by
  unfold childOf
  split
  · rename_i h2; rw [Bool.and_eq_true] at h2; have := of_decide_eq_true h2.1; omega
  · omega
theorem child_t {z f i : Nat} {d : Array Nat} (h : 2 * i + 1 + 1 < z) (hl : ltU d[f + (2 * i + 1)]! d[f + (2 * i + 1) + 1]! = true) : iN (2 * i + 1 + 1) = iN (childOf z f i d) := by
  unfold childOf; rw [hl, decide_eq_true h]; rfl
theorem child_f {z f i : Nat} {d : Array Nat} (hl : ltU d[f + (2 * i + 1)]! d[f + (2 * i + 1) + 1]! = false) : iN (2 * i + 1) = iN (childOf z f i d) := by
  unfold childOf; rw [hl, Bool.and_false]; rfl
theorem child_n {z f i : Nat} {d : Array Nat} (h : ¬ 2 * i + 1 + 1 < z) : iN (2 * i + 1) = iN (childOf z f i d) := by
  unfold childOf; rw [decide_eq_false h]; rfl
theorem siftRest_ok (hc : Con con lives) {R : List HP} {H : CH} {b e s z f n i : Nat} {d : Array Nat} {σ : TF} {K : KX} (hs : Sat (RowA b e s d :: R) H) (hn : d.size = n) (hn2 : n ≤ 1000000) (hz : f + z ≤ n) (hlt : 2 * i + 1 < z)
    (c0 : σ 0 = slc b 0 n n) (c2 : σ 2 = iN z) (c3 : σ 3 = iN f) (c8 : σ 8 = iN i) (c9 : σ 9 = iN (childOf z f i d))
    (kr : Sort.siftDown ltU z f i d = d → ∀ σ1, K .ret σ1 H)
    (kn : Sort.siftDown ltU z f i d = Sort.siftDown ltU z f (childOf z f i d) (Sort.swp d (f + i) (f + childOf z f i d)) → ∀ σ1 H1, σ1 0 = slc b 0 n n → σ1 2 = iN z → σ1 3 = iN f → σ1 8 = iN (childOf z f i d) → Sat (RowA b e s (Sort.swp d (f + i) (f + childOf z f i d)) :: R) H1 → K .normal σ1 H1) :
    codeW (dropC 5 (blkC (lpAt Tryz.prog 165 0))) Tryz.prog con σ H K := by
  obtain ⟨hch, hcg⟩ := child_lt (f := f) (d := d) hlt
  have hat := sift_at (hi := z) (f := f) (r := i) (d := d) hlt
  rw [siftD_W]
  simp only [c0, c2, c3, c8, c9]
  repeat (first | refine run ?_ | refine ct ?_ | refine cf ?_ | refine sk ?_ | refine la rfl ?_ | refine na fun _ _ _ => ?_ | refine sa rfl fun _ _ => ?_ | refine nk ?_ | refine mu ?_ | refine ac ?_ | refine ai ?_)
  try rw [addInt]
  refine inR_nat (by omega) ?_
  repeat (first | refine run ?_ | refine ct ?_ | refine cf ?_ | refine sk ?_ | refine la rfl ?_ | refine na fun _ _ _ => ?_ | refine sa rfl fun _ _ => ?_ | refine nk ?_ | refine mu ?_ | refine ac ?_ | refine ai ?_)
  refine Must.mk (ltN_t (by omega)) (ldA hs (by omega) rfl ?_)
  repeat (first | refine run ?_ | refine ct ?_ | refine cf ?_ | refine sk ?_ | refine la rfl ?_ | refine na fun _ _ _ => ?_ | refine sa rfl fun _ _ => ?_ | refine nk ?_ | refine mu ?_ | refine ac ?_ | refine ai ?_)
  try rw [addInt]
  refine inR_nat (by omega) ?_
  repeat (first | refine run ?_ | refine ct ?_ | refine cf ?_ | refine sk ?_ | refine la rfl ?_ | refine na fun _ _ _ => ?_ | refine sa rfl fun _ _ => ?_ | refine nk ?_ | refine mu ?_ | refine ac ?_ | refine ai ?_)
  refine Must.mk (ltN_t (by omega)) (ldA hs (by omega) rfl ?_)
  repeat (first | refine run ?_ | refine ct ?_ | refine cf ?_ | refine sk ?_ | refine la rfl ?_ | refine na fun _ _ _ => ?_ | refine sa rfl fun _ _ => ?_ | refine nk ?_ | refine mu ?_ | refine ac ?_ | refine ai ?_)
  refine cmpLess_ok hc ?_
  repeat (first | refine run ?_ | refine ct ?_ | refine cf ?_ | refine sk ?_ | refine la rfl ?_ | refine na fun _ _ _ => ?_ | refine sa rfl fun _ _ => ?_ | refine nk ?_ | refine mu ?_ | refine ac ?_ | refine ai ?_)
  cases hl : ltU d[f + i]! d[f + childOf z f i d]! with
  | false =>
    rw [hl] at hat
    exact Cd.t rfl (kr hat _)
  | true =>
    rw [hl] at hat
    refine Cd.f rfl ?_
    repeat (first | refine run ?_ | refine ct ?_ | refine cf ?_ | refine sk ?_ | refine la rfl ?_ | refine na fun _ _ _ => ?_ | refine sa rfl fun _ _ => ?_ | refine nk ?_ | refine mu ?_ | refine ac ?_ | refine ai ?_)
    try rw [addInt]
    refine inR_nat (by omega) ?_
    repeat (first | refine run ?_ | refine ct ?_ | refine cf ?_ | refine sk ?_ | refine la rfl ?_ | refine na fun _ _ _ => ?_ | refine sa rfl fun _ _ => ?_ | refine nk ?_ | refine mu ?_ | refine ac ?_ | refine ai ?_)
    try rw [addInt]
    refine inR_nat (by omega) ?_
    repeat (first | refine run ?_ | refine ct ?_ | refine cf ?_ | refine sk ?_ | refine la rfl ?_ | refine na fun _ _ _ => ?_ | refine sa rfl fun _ _ => ?_ | refine nk ?_ | refine mu ?_ | refine ac ?_ | refine ai ?_)
    try rw [addInt]
    refine inR_nat (by omega) ?_
    repeat (first | refine run ?_ | refine ct ?_ | refine cf ?_ | refine sk ?_ | refine la rfl ?_ | refine na fun _ _ _ => ?_ | refine sa rfl fun _ _ => ?_ | refine nk ?_ | refine mu ?_ | refine ac ?_ | refine ai ?_)
    refine Must.mk (ltN_t (by omega)) (ldA hs (by omega) rfl ?_)
    repeat (first | refine run ?_ | refine ct ?_ | refine cf ?_ | refine sk ?_ | refine la rfl ?_ | refine na fun _ _ _ => ?_ | refine sa rfl fun _ _ => ?_ | refine nk ?_ | refine mu ?_ | refine ac ?_ | refine ai ?_)
    try rw [addInt]
    refine inR_nat (by omega) ?_
    repeat (first | refine run ?_ | refine ct ?_ | refine cf ?_ | refine sk ?_ | refine la rfl ?_ | refine na fun _ _ _ => ?_ | refine sa rfl fun _ _ => ?_ | refine nk ?_ | refine mu ?_ | refine ac ?_ | refine ai ?_)
    refine Must.mk (ltN_t (by omega)) (ldA hs (by omega) rfl ?_)
    repeat (first | refine run ?_ | refine ct ?_ | refine cf ?_ | refine sk ?_ | refine la rfl ?_ | refine na fun _ _ _ => ?_ | refine sa rfl fun _ _ => ?_ | refine nk ?_ | refine mu ?_ | refine ac ?_ | refine ai ?_)
    refine Must.mk (ltN_t (by omega)) ?_
    repeat (first | refine run ?_ | refine ct ?_ | refine cf ?_ | refine sk ?_ | refine la rfl ?_ | refine na fun _ _ _ => ?_ | refine sa rfl fun _ _ => ?_ | refine nk ?_ | refine mu ?_ | refine ac ?_ | refine ai ?_)
    refine st hs (by rw [lenA, off1]; omega) rfl fun _ hx => ?_
    repeat (first | refine run ?_ | refine ct ?_ | refine cf ?_ | refine sk ?_ | refine la rfl ?_ | refine na fun _ _ _ => ?_ | refine sa rfl fun _ _ => ?_ | refine nk ?_ | refine mu ?_ | refine ac ?_ | refine ai ?_)
    refine Must.mk (ltN_t (by omega)) ?_
    repeat (first | refine run ?_ | refine ct ?_ | refine cf ?_ | refine sk ?_ | refine la rfl ?_ | refine na fun _ _ _ => ?_ | refine sa rfl fun _ _ => ?_ | refine nk ?_ | refine mu ?_ | refine ac ?_ | refine ai ?_)
    refine st hx (by rw [List.length_set, lenA, off1]; omega) rfl fun _ hy => ?_
    rw [off1, off1, swpA (by omega) (by omega)] at hy
    clear hx
    repeat (first | refine run ?_ | refine ct ?_ | refine cf ?_ | refine sk ?_ | refine la rfl ?_ | refine na fun _ _ _ => ?_ | refine sa rfl fun _ _ => ?_ | refine nk ?_ | refine mu ?_ | refine ac ?_ | refine ai ?_)
    exact kn hat _ _ c0 c2 c3 rfl hy
theorem siftDown_ok (hc : Con con lives) {L R : List HP} {H : CH} {b e s r z f n : Nat} {d : Array Nat} {K : KP} (hs : Sat L H) (hp : Pull L (RowA b e s d) R) (hn : d.size = n) (hn2 : n ≤ 1000000) (hz : f + z ≤ n) (hr : r < 1000000)
    (k : ∀ H1, Sat (RowA b e s (Sort.siftDown ltU z f r d) :: R) H1 → K unit H1) : Call1 Tryz.prog con 165 [slc b 0 n n, iN r, iN z, iN f] H K := by
  refine call_of (hc _ _ _ rfl) ?_
  rw [siftDown_W]
  have hs0 := hs.pull hp
  clear hs hp
  refine LoopC.indP (n := 200) (id := 0) (fun σ1 H1 => Sat (RowA b e s (Sort.siftDown ltU z f r d) :: R) H1) (by kernel_rfl)
    (fun (i : Nat) σ1 H1 => i < 1000000 ∧ σ1 0 = slc b 0 n n ∧ σ1 2 = iN z ∧ σ1 3 = iN f ∧ σ1 8 = iN i ∧ ∃ d1, d1.size = n ∧ Sort.siftDown ltU z f i d1 = Sort.siftDown ltU z f r d ∧ Sat (RowA b e s d1 :: R) H1)
    (fun i => z - i) (fun i σ1 H1 hI => ?_) (fun σ1 H1 hP => ?_) r _ _ ⟨hr, rfl, rfl, rfl, rfl, d, hn, rfl, hs0⟩
  · obtain ⟨hi, a0, a2, a3, a8, d1, hd1, hins, hs1⟩ := hI
    rw [codeW_blk (id := 1) (by kernel_rfl), codeW_cut 5, siftT_W]
    simp only [a8, a2, a0, a3]
    repeat (first | refine run ?_ | refine ct ?_ | refine cf ?_ | refine sk ?_ | refine la rfl ?_ | refine na fun _ _ _ => ?_ | refine sa rfl fun _ _ => ?_ | refine nk ?_ | refine mu ?_ | refine ac ?_ | refine ai ?_)
    refine CInt.mulI (m := 2 * i) rfl (by omega) ?_
    repeat (first | refine run ?_ | refine ct ?_ | refine cf ?_ | refine sk ?_ | refine la rfl ?_ | refine na fun _ _ _ => ?_ | refine sa rfl fun _ _ => ?_ | refine nk ?_ | refine mu ?_ | refine ac ?_ | refine ai ?_)
    try rw [addInt]
    refine inR_nat (by omega) ?_
    repeat (first | refine run ?_ | refine ct ?_ | refine cf ?_ | refine sk ?_ | refine la rfl ?_ | refine na fun _ _ _ => ?_ | refine sa rfl fun _ _ => ?_ | refine nk ?_ | refine mu ?_ | refine ac ?_ | refine ai ?_)
    by_cases hlt : 2 * i + 1 < z
    · refine Cd.f (leZ_f hlt) ?_
      repeat (first | refine run ?_ | refine ct ?_ | refine cf ?_ | refine sk ?_ | refine la rfl ?_ | refine na fun _ _ _ => ?_ | refine sa rfl fun _ _ => ?_ | refine nk ?_ | refine mu ?_ | refine ac ?_ | refine ai ?_)
      try rw [addInt]
      refine inR_nat (by omega) ?_
      repeat (first | refine run ?_ | refine ct ?_ | refine cf ?_ | refine sk ?_ | refine la rfl ?_ | refine na fun _ _ _ => ?_ | refine sa rfl fun _ _ => ?_ | refine nk ?_ | refine mu ?_ | refine ac ?_ | refine ai ?_)
      by_cases hlt2 : 2 * i + 1 + 1 < z
      · refine Cd.t (ltZ_t hlt2) ?_
        repeat (first | refine run ?_ | refine ct ?_ | refine cf ?_ | refine sk ?_ | refine la rfl ?_ | refine na fun _ _ _ => ?_ | refine sa rfl fun _ _ => ?_ | refine nk ?_ | refine mu ?_ | refine ac ?_ | refine ai ?_)
        try rw [addInt]
        refine inR_nat (by omega) ?_
        repeat (first | refine run ?_ | refine ct ?_ | refine cf ?_ | refine sk ?_ | refine la rfl ?_ | refine na fun _ _ _ => ?_ | refine sa rfl fun _ _ => ?_ | refine nk ?_ | refine mu ?_ | refine ac ?_ | refine ai ?_)
        refine Must.mk (ltN_t (by omega)) (ldA hs1 (by omega) rfl ?_)
        repeat (first | refine run ?_ | refine ct ?_ | refine cf ?_ | refine sk ?_ | refine la rfl ?_ | refine na fun _ _ _ => ?_ | refine sa rfl fun _ _ => ?_ | refine nk ?_ | refine mu ?_ | refine ac ?_ | refine ai ?_)
        try rw [addInt]
        refine inR_nat (by omega) ?_
        repeat (first | refine run ?_ | refine ct ?_ | refine cf ?_ | refine sk ?_ | refine la rfl ?_ | refine na fun _ _ _ => ?_ | refine sa rfl fun _ _ => ?_ | refine nk ?_ | refine mu ?_ | refine ac ?_ | refine ai ?_)
        try rw [addInt]
        refine inR_nat (by omega) ?_
        repeat (first | refine run ?_ | refine ct ?_ | refine cf ?_ | refine sk ?_ | refine la rfl ?_ | refine na fun _ _ _ => ?_ | refine sa rfl fun _ _ => ?_ | refine nk ?_ | refine mu ?_ | refine ac ?_ | refine ai ?_)
        refine Must.mk (ltN_t (by omega)) (ldA hs1 (by omega) rfl ?_)
        repeat (first | refine run ?_ | refine ct ?_ | refine cf ?_ | refine sk ?_ | refine la rfl ?_ | refine na fun _ _ _ => ?_ | refine sa rfl fun _ _ => ?_ | refine nk ?_ | refine mu ?_ | refine ac ?_ | refine ai ?_)
        refine cmpLess_ok hc ?_
        repeat (first | refine run ?_ | refine ct ?_ | refine cf ?_ | refine sk ?_ | refine la rfl ?_ | refine na fun _ _ _ => ?_ | refine sa rfl fun _ _ => ?_ | refine nk ?_ | refine mu ?_ | refine ac ?_ | refine ai ?_)
        cases hl : ltU d1[f + (2 * i + 1)]! d1[f + (2 * i + 1) + 1]! with
        | true =>
          refine Cd.t rfl ?_
          repeat (first | refine run ?_ | refine ct ?_ | refine cf ?_ | refine sk ?_ | refine la rfl ?_ | refine na fun _ _ _ => ?_ | refine sa rfl fun _ _ => ?_ | refine nk ?_ | refine mu ?_ | refine ac ?_ | refine ai ?_)
          try rw [addInt]
          refine inR_nat (by omega) ?_
          repeat (first | refine run ?_ | refine ct ?_ | refine cf ?_ | refine sk ?_ | refine la rfl ?_ | refine na fun _ _ _ => ?_ | refine sa rfl fun _ _ => ?_ | refine nk ?_ | refine mu ?_ | refine ac ?_ | refine ai ?_)
          show codeW (dropC 5 (blkC (lpAt Tryz.prog 165 0))) Tryz.prog con _ H1 _
          refine siftRest_ok hc hs1 hd1 hn2 hz hlt a0 a2 a3 a8 ?_ (fun hat σ2 => ?_) (fun hat σ2 H2 c0 c2 c3 c8 h2 => ?_)
          · exact (child_t hlt2 hl)
          · show K unit H1
            refine k _ ?_
            rw [← hins, hat]
            exact hs1
          · show ∃ y, _ ∧ _
            obtain ⟨hch, hcg⟩ := child_lt (f := f) (d := d1) hlt
            exact ⟨childOf z f i d1, by omega, by omega, c0, c2, c3, c8, _, by rw [Sort.size_swp]; exact hd1, by rw [← hins, hat], h2⟩
        | false =>
          refine Cd.f rfl ?_
          show codeW (dropC 5 (blkC (lpAt Tryz.prog 165 0))) Tryz.prog con _ H1 _
          refine siftRest_ok hc hs1 hd1 hn2 hz hlt a0 a2 a3 a8 ?_ (fun hat σ2 => ?_) (fun hat σ2 H2 c0 c2 c3 c8 h2 => ?_)
          · exact (child_f hl)
          · show K unit H1
            refine k _ ?_
            rw [← hins, hat]
            exact hs1
          · show ∃ y, _ ∧ _
            obtain ⟨hch, hcg⟩ := child_lt (f := f) (d := d1) hlt
            exact ⟨childOf z f i d1, by omega, by omega, c0, c2, c3, c8, _, by rw [Sort.size_swp]; exact hd1, by rw [← hins, hat], h2⟩
      · refine Cd.f (ltZ_f (by omega)) ?_
        show codeW (dropC 5 (blkC (lpAt Tryz.prog 165 0))) Tryz.prog con _ H1 _
        refine siftRest_ok hc hs1 hd1 hn2 hz hlt a0 a2 a3 a8 ?_ (fun hat σ2 => ?_) (fun hat σ2 H2 c0 c2 c3 c8 h2 => ?_)
        · exact (child_n hlt2)
        · show K unit H1
          refine k _ ?_
          rw [← hins, hat]
          exact hs1
        · show ∃ y, _ ∧ _
          obtain ⟨hch, hcg⟩ := child_lt (f := f) (d := d1) hlt
          exact ⟨childOf z f i d1, by omega, by omega, c0, c2, c3, c8, _, by rw [Sort.size_swp]; exact hd1, by rw [← hins, hat], h2⟩
    · refine Cd.t (leZ_t (by omega)) ?_
      show Cd _ _ _
      refine Cd.f rfl ?_
      refine ⟨rfl, ?_⟩
      rw [← hins]
      unfold Sort.siftDown
      rw [dif_pos (by omega)]
      exact hs1
  · show Cd _ _ _
    exact Cd.t rfl (k _ hP)
end Go.Proofs.YtipbbnoepphdkaaGreat

set_option linter.unusedVariables false
set_option linter.unusedSimpArgs false
namespace Go.Proofs.YtipbbnoepphdkaaGreat
open Go Go.CM
attribute [local irreducible] AsBool AsWant AsNat AsInt AsCnt AsPtr AsSlc AsLen AsStr AsAgg AsTup AsFn AsIfc Nth Sc NotNil IsNil Must Cd codeW funW Sat SatL wrapN subM mkRow ltZ leZ ltN leN
variable {con : CallT}
theorem inR_pred {m : Nat} {K : Prop} (h : m < 1000000000) (k : K) : InR (Int.sub (Int.ofNat m) (Int.ofNat 1)) K := ⟨⟨by show -9223372036854775808 ≤ (m : Int) - 1; omega, by show (m : Int) - 1 < 9223372036854775808; omega⟩, k⟩
theorem build_size (hi f : Nat) : ∀ (k : Nat) (d : Array Nat), (Sort.heapBuild ltU hi f k d).size = d.size
  | 0, d => rfl
  | k + 1, d => by show (Sort.heapBuild ltU hi f k _).size = _; rw [build_size hi f k, sift_size hi f _ _ _ (Nat.le_refl _)]
theorem heapSort_ok (hc : Con con lives) {L R : List HP} {H : CH} {b e s a z n : Nat} {d : Array Nat} {K : KP} (hs : Sat L H) (hp : Pull L (RowA b e s d) R) (hn : d.size = n) (hn2 : n ≤ 1000000) (hab : a < z) (hz : z ≤ n)
    (k : ∀ H1, Sat (RowA b e s (Sort.heapSort ltU d a z) :: R) H1 → K unit H1) : Call1 Tryz.prog con 155 [slc b 0 n n, iN a, iN z] H K := by
  refine call_of (hc _ _ _ rfl) ?_
  rw [heapSort_W]
  have hs0 := hs.pull hp
  clear hs hp
  rw [subInt (by omega)]
  refine inR_nat (by omega) ?_
  rw [subInt (by omega)]
  refine inR_nat (by omega) ?_
  refine CInt.quoI (m := (z - a - 1) / 2) (by omega) rfl (by omega) ?_
  refine LoopC.indP (n := 200) (id := 0) (fun σ1 H1 => σ1 0 = slc b 0 n n ∧ σ1 6 = iN a ∧ σ1 7 = iN 0 ∧ σ1 8 = iN (z - a) ∧ Sat (RowA b e s (Sort.heapBuild ltU (z - a) a ((z - a - 1) / 2 + 1) d) :: R) H1) (by kernel_rfl)
    (fun (i : Nat) σ1 H1 => i ≤ n ∧ σ1 0 = slc b 0 n n ∧ σ1 6 = iN a ∧ σ1 7 = iN 0 ∧ σ1 8 = iN (z - a) ∧ σ1 9 = i64 (Int.sub (Int.ofNat i) (Int.ofNat 1)) ∧ ∃ d1, d1.size = n ∧ Sort.heapBuild ltU (z - a) a i d1 = Sort.heapBuild ltU (z - a) a ((z - a - 1) / 2 + 1) d ∧ Sat (RowA b e s d1 :: R) H1)
    (fun i => i) (fun i σ1 H1 hI => ?_) (fun σ1 H1 hP => ?_) ((z - a - 1) / 2 + 1) _ _ ⟨by omega, rfl, rfl, rfl, rfl, by rw [subInt (by omega)]; rfl, d, hn, rfl, hs0⟩
  · obtain ⟨hi, a0, a6, a7, a8, a9, d1, hd1, hins, hs1⟩ := hI
    rw [heapSortA_W]
    simp only [a9, a0, a6, a7, a8]
    repeat (first | refine run ?_ | refine ct ?_ | refine cf ?_ | refine sk ?_ | refine la rfl ?_ | refine na fun _ _ _ => ?_ | refine sa rfl fun _ _ => ?_ | refine nk ?_ | refine mu ?_ | refine ac ?_ | refine ai ?_)
    cases i with
    | zero =>
      refine Cd.f (by decide +kernel) ?_
      show _ = _ ∧ _
      exact ⟨rfl, a0, a6, a7, a8, by rw [← hins]; exact hs1⟩
    | succ m =>
      rw [subInt (by omega), Nat.add_sub_cancel]
      refine Cd.t (leZ_t (Nat.zero_le _)) ?_
      refine siftDown_ok hc hs1 (by repeat (first | exact pH | apply pT)) hd1 hn2 (by omega) (by omega) fun H2 h2 => ?_
      repeat (first | refine run ?_ | refine ct ?_ | refine cf ?_ | refine sk ?_ | refine la rfl ?_ | refine na fun _ _ _ => ?_ | refine sa rfl fun _ _ => ?_ | refine nk ?_ | refine mu ?_ | refine ac ?_ | refine ai ?_)
      refine inR_pred (by omega) ?_
      show ∃ y, _ ∧ _
      exact ⟨m, by omega, by omega, a0, a6, a7, a8, rfl, _, by rw [sift_size _ _ _ _ _ (Nat.le_refl _)]; exact hd1, hins, h2⟩
  · obtain ⟨a0, a6, a7, a8, hs1⟩ := hP
    show Cd _ _ _
    refine Cd.t rfl ?_
    simp only [a8]
    repeat (first | refine run ?_ | refine ct ?_ | refine cf ?_ | refine sk ?_ | refine la rfl ?_ | refine na fun _ _ _ => ?_ | refine sa rfl fun _ _ => ?_ | refine nk ?_ | refine mu ?_ | refine ac ?_ | refine ai ?_)
    refine inR_pred (by omega) ?_
    generalize hd2 : Sort.heapBuild ltU (z - a) a ((z - a - 1) / 2 + 1) d = d2 at hs1
    have hd2s : d2.size = n := by rw [← hd2, build_size]; exact hn
    have hfin : Sort.heapSort ltU d a z = Sort.heapPop ltU a (z - a) d2 := by unfold Sort.heapSort; rw [hd2]
    refine LoopC.indP (n := 200) (id := 2) (fun σ1 H1 => Sat (RowA b e s (Sort.heapSort ltU d a z) :: R) H1) (by kernel_rfl)
      (fun (i : Nat) σ1 H1 => a + i ≤ n ∧ σ1 0 = slc b 0 n n ∧ σ1 6 = iN a ∧ σ1 7 = iN 0 ∧ σ1 10 = i64 (Int.sub (Int.ofNat i) (Int.ofNat 1)) ∧ ∃ d1, d1.size = n ∧ Sort.heapPop ltU a i d1 = Sort.heapSort ltU d a z ∧ Sat (RowA b e s d1 :: R) H1)
      (fun i => i) (fun i σ1 H1 hI => ?_) (fun σ1 H1 hP => ?_) (z - a) _ _ ⟨by omega, a0, a6, a7, rfl, d2, hd2s, hfin.symm, hs1⟩
    · obtain ⟨hi, a0, a6, a7, a10, d1, hd1, hins, hs1⟩ := hI
      rw [heapSortB_W]
      simp only [a10, a0, a6, a7]
      repeat (first | refine run ?_ | refine ct ?_ | refine cf ?_ | refine sk ?_ | refine la rfl ?_ | refine na fun _ _ _ => ?_ | refine sa rfl fun _ _ => ?_ | refine nk ?_ | refine mu ?_ | refine ac ?_ | refine ai ?_)
      cases i with
      | zero =>
        refine Cd.f (by decide +kernel) ?_
        show _ = _ ∧ _
        exact ⟨rfl, by rw [← hins]; exact hs1⟩
      | succ m =>
        rw [subInt (by omega), Nat.add_sub_cancel]
        refine Cd.t (leZ_t (Nat.zero_le _)) ?_
        repeat (first | refine run ?_ | refine ct ?_ | refine cf ?_ | refine sk ?_ | refine la rfl ?_ | refine na fun _ _ _ => ?_ | refine sa rfl fun _ _ => ?_ | refine nk ?_ | refine mu ?_ | refine ac ?_ | refine ai ?_)
        try rw [addInt]
        refine inR_nat (by omega) ?_
        repeat (first | refine run ?_ | refine ct ?_ | refine cf ?_ | refine sk ?_ | refine la rfl ?_ | refine na fun _ _ _ => ?_ | refine sa rfl fun _ _ => ?_ | refine nk ?_ | refine mu ?_ | refine ac ?_ | refine ai ?_)
        try rw [addInt]
        refine inR_nat (by omega) ?_
        repeat (first | refine run ?_ | refine ct ?_ | refine cf ?_ | refine sk ?_ | refine la rfl ?_ | refine na fun _ _ _ => ?_ | refine sa rfl fun _ _ => ?_ | refine nk ?_ | refine mu ?_ | refine ac ?_ | refine ai ?_)
        refine Must.mk (ltN_t (by omega)) (ldA hs1 (by omega) rfl ?_)
        repeat (first | refine run ?_ | refine ct ?_ | refine cf ?_ | refine sk ?_ | refine la rfl ?_ | refine na fun _ _ _ => ?_ | refine sa rfl fun _ _ => ?_ | refine nk ?_ | refine mu ?_ | refine ac ?_ | refine ai ?_)
        refine Must.mk (ltN_t (by omega)) (ldA hs1 (by omega) rfl ?_)
        repeat (first | refine run ?_ | refine ct ?_ | refine cf ?_ | refine sk ?_ | refine la rfl ?_ | refine na fun _ _ _ => ?_ | refine sa rfl fun _ _ => ?_ | refine nk ?_ | refine mu ?_ | refine ac ?_ | refine ai ?_)
        refine Must.mk (ltN_t (by omega)) ?_
        repeat (first | refine run ?_ | refine ct ?_ | refine cf ?_ | refine sk ?_ | refine la rfl ?_ | refine na fun _ _ _ => ?_ | refine sa rfl fun _ _ => ?_ | refine nk ?_ | refine mu ?_ | refine ac ?_ | refine ai ?_)
        refine st hs1 (by rw [lenA, off1]; omega) rfl fun _ hx => ?_
        repeat (first | refine run ?_ | refine ct ?_ | refine cf ?_ | refine sk ?_ | refine la rfl ?_ | refine na fun _ _ _ => ?_ | refine sa rfl fun _ _ => ?_ | refine nk ?_ | refine mu ?_ | refine ac ?_ | refine ai ?_)
        refine Must.mk (ltN_t (by omega)) ?_
        repeat (first | refine run ?_ | refine ct ?_ | refine cf ?_ | refine sk ?_ | refine la rfl ?_ | refine na fun _ _ _ => ?_ | refine sa rfl fun _ _ => ?_ | refine nk ?_ | refine mu ?_ | refine ac ?_ | refine ai ?_)
        refine st hx (by rw [List.length_set, lenA, off1]; omega) rfl fun _ hy => ?_
        rw [off1, off1, swpA (by omega) (by omega)] at hy
        clear hx
        repeat (first | refine run ?_ | refine ct ?_ | refine cf ?_ | refine sk ?_ | refine la rfl ?_ | refine na fun _ _ _ => ?_ | refine sa rfl fun _ _ => ?_ | refine nk ?_ | refine mu ?_ | refine ac ?_ | refine ai ?_)
        refine siftDown_ok hc hy (by repeat (first | exact pH | apply pT)) (by rw [Sort.size_swp]; exact hd1) hn2 (by omega) (by omega) fun H2 h2 => ?_
        repeat (first | refine run ?_ | refine ct ?_ | refine cf ?_ | refine sk ?_ | refine la rfl ?_ | refine na fun _ _ _ => ?_ | refine sa rfl fun _ _ => ?_ | refine nk ?_ | refine mu ?_ | refine ac ?_ | refine ai ?_)
        refine inR_pred (by omega) ?_
        show ∃ y, _ ∧ _
        exact ⟨m, by omega, by omega, a0, a6, a7, rfl, _, by rw [sift_size _ _ _ _ _ (Nat.le_refl _), Sort.size_swp]; exact hd1, hins, h2⟩
    · show Cd _ _ _
      exact Cd.t rfl (k _ hP)
/-! ### a range turned round -/
theorem revRange_ok (hc : Con con lives) {L R : List HP} {H : CH} {b e s a z n : Nat} {d : Array Nat} {K : KP} (hs : Sat L H) (hp : Pull L (RowA b e s d) R) (hn : d.size = n) (hn2 : n ≤ 1000000) (hab : a < z) (hz : z ≤ n)
    (k : ∀ H1, Sat (RowA b e s (Sort.reverseRange d a z) :: R) H1 → K unit H1) : Call1 Tryz.prog con 158 [slc b 0 n n, iN a, iN z] H K := by
  refine call_of (hc _ _ _ rfl) ?_
  rw [revRange_W]
  have hs0 := hs.pull hp
  clear hs hp
  rw [subInt (by omega)]
  refine inR_nat (by omega) ?_
  refine LoopC.indP (n := 200) (id := 0) (fun σ1 H1 => Sat (RowA b e s (Sort.reverseRange d a z) :: R) H1) (by kernel_rfl)
    (fun (x : Nat × Nat) σ1 H1 => x.1 < n + 1 ∧ x.2 < n ∧ σ1 0 = slc b 0 n n ∧ σ1 6 = iN x.1 ∧ σ1 7 = iN x.2 ∧ ∃ d1, d1.size = n ∧ Sort.reverseLoop x.1 x.2 d1 = Sort.reverseRange d a z ∧ Sat (RowA b e s d1 :: R) H1)
    (fun x => x.2 - x.1) (fun x σ1 H1 hI => ?_) (fun σ1 H1 hP => ?_) (a, z - 1) _ _ ⟨by show a < n + 1; omega, by show z - 1 < n; omega, rfl, rfl, rfl, d, hn, rfl, hs0⟩
  · obtain ⟨i, j⟩ := x
    obtain ⟨hi, hj, a0, a6, a7, d1, hd1, hins, hs1⟩ := hI
    simp only at hi hj a6 a7 hins
    rw [revRangeL_W]
    simp only [a0, a6, a7]
    repeat (first | refine run ?_ | refine ct ?_ | refine cf ?_ | refine sk ?_ | refine la rfl ?_ | refine na fun _ _ _ => ?_ | refine sa rfl fun _ _ => ?_ | refine nk ?_ | refine mu ?_ | refine ac ?_ | refine ai ?_)
    by_cases h : i < j
    · refine Cd.t (ltZ_t h) ?_
      repeat (first | refine run ?_ | refine ct ?_ | refine cf ?_ | refine sk ?_ | refine la rfl ?_ | refine na fun _ _ _ => ?_ | refine sa rfl fun _ _ => ?_ | refine nk ?_ | refine mu ?_ | refine ac ?_ | refine ai ?_)
      refine Must.mk (ltN_t (by omega)) (ldA hs1 (by omega) rfl ?_)
      repeat (first | refine run ?_ | refine ct ?_ | refine cf ?_ | refine sk ?_ | refine la rfl ?_ | refine na fun _ _ _ => ?_ | refine sa rfl fun _ _ => ?_ | refine nk ?_ | refine mu ?_ | refine ac ?_ | refine ai ?_)
      refine Must.mk (ltN_t (by omega)) (ldA hs1 (by omega) rfl ?_)
      repeat (first | refine run ?_ | refine ct ?_ | refine cf ?_ | refine sk ?_ | refine la rfl ?_ | refine na fun _ _ _ => ?_ | refine sa rfl fun _ _ => ?_ | refine nk ?_ | refine mu ?_ | refine ac ?_ | refine ai ?_)
      refine Must.mk (ltN_t (by omega)) ?_
      repeat (first | refine run ?_ | refine ct ?_ | refine cf ?_ | refine sk ?_ | refine la rfl ?_ | refine na fun _ _ _ => ?_ | refine sa rfl fun _ _ => ?_ | refine nk ?_ | refine mu ?_ | refine ac ?_ | refine ai ?_)
      refine st hs1 (by rw [lenA, off1]; omega) rfl fun _ hx => ?_
      repeat (first | refine run ?_ | refine ct ?_ | refine cf ?_ | refine sk ?_ | refine la rfl ?_ | refine na fun _ _ _ => ?_ | refine sa rfl fun _ _ => ?_ | refine nk ?_ | refine mu ?_ | refine ac ?_ | refine ai ?_)
      refine Must.mk (ltN_t (by omega)) ?_
      repeat (first | refine run ?_ | refine ct ?_ | refine cf ?_ | refine sk ?_ | refine la rfl ?_ | refine na fun _ _ _ => ?_ | refine sa rfl fun _ _ => ?_ | refine nk ?_ | refine mu ?_ | refine ac ?_ | refine ai ?_)
      refine st hx (by rw [List.length_set, lenA, off1]; omega) rfl fun _ hy => ?_
      rw [off1, off1, swpA (by omega) (by omega)] at hy
      clear hx
      repeat (first | refine run ?_ | refine ct ?_ | refine cf ?_ | refine sk ?_ | refine la rfl ?_ | refine na fun _ _ _ => ?_ | refine sa rfl fun _ _ => ?_ | refine nk ?_ | refine mu ?_ | refine ac ?_ | refine ai ?_)
      try rw [addInt]
      refine inR_nat (by omega) ?_
      repeat (first | refine run ?_ | refine ct ?_ | refine cf ?_ | refine sk ?_ | refine la rfl ?_ | refine na fun _ _ _ => ?_ | refine sa rfl fun _ _ => ?_ | refine nk ?_ | refine mu ?_ | refine ac ?_ | refine ai ?_)
      rw [subInt (by omega)]
      refine inR_nat (by omega) ?_
      repeat (first | refine run ?_ | refine ct ?_ | refine cf ?_ | refine sk ?_ | refine la rfl ?_ | refine na fun _ _ _ => ?_ | refine sa rfl fun _ _ => ?_ | refine nk ?_ | refine mu ?_ | refine ac ?_ | refine ai ?_)
      show ∃ y, _ ∧ _
      refine ⟨(i + 1, j - 1), by show j - 1 - (i + 1) < j - i; omega, by show i + 1 < n + 1; omega, by show j - 1 < n; omega, a0, rfl, rfl, _, by rw [Sort.size_swp]; exact hd1, ?_, hy⟩
      rw [← hins]
      conv => rhs; unfold Sort.reverseLoop
      rw [if_pos h]
    · refine Cd.f (ltZ_f (by omega)) ?_
      show _ = _ ∧ _
      refine ⟨rfl, ?_⟩
      rw [← hins]
      unfold Sort.reverseLoop
      rw [if_neg h]
      exact hs1
  · show Cd _ _ _
    exact Cd.t rfl (k _ hP)
/-! ### the pivot -/
theorem order2_ok (hc : Con con lives) {L R1 R : List HP} {H : CH} {b e s p i j n c : Nat} {d : Array Nat} {K : KP} (hs : Sat L H) (hp : Pull L (RowA b e s d) R1) (hq : Pull R1 (Own p [iN c]) R) (hn : d.size = n) (hi : i < n) (hj : j < n) (hcn : c < 1000)
    (k : ∀ i' j' c' H1, i' < n → j' < n → (i' = i ∧ j' = j ∨ i' = j ∧ j' = i) → c' ≤ c + 1 → Sat (RowA b e s d :: Own p [iN c'] :: R) H1 → K (.tuple ⟨[iN i', iN j']⟩) H1) : Call1 Tryz.prog con 171 [slc b 0 n n, iN i, iN j, ptr p 0] H K := by
  refine call_of (hc _ _ _ rfl) ?_
  rw [order2_W]
  have hs0 := hs.takes (.cons hp (.cons hq .nil))
  simp only [List.cons_append, List.nil_append] at hs0
  clear hs hp hq
  repeat (first | refine run ?_ | refine ct ?_ | refine cf ?_ | refine sk ?_ | refine la rfl ?_ | refine na fun _ _ _ => ?_ | refine sa rfl fun _ _ => ?_ | refine nk ?_ | refine mu ?_ | refine ac ?_ | refine ai ?_)
  refine Must.mk (ltN_t (by omega)) (ldA hs0 (by omega) rfl ?_)
  repeat (first | refine run ?_ | refine ct ?_ | refine cf ?_ | refine sk ?_ | refine la rfl ?_ | refine na fun _ _ _ => ?_ | refine sa rfl fun _ _ => ?_ | refine nk ?_ | refine mu ?_ | refine ac ?_ | refine ai ?_)
  refine Must.mk (ltN_t (by omega)) (ldA hs0 (by omega) rfl ?_)
  repeat (first | refine run ?_ | refine ct ?_ | refine cf ?_ | refine sk ?_ | refine la rfl ?_ | refine na fun _ _ _ => ?_ | refine sa rfl fun _ _ => ?_ | refine nk ?_ | refine mu ?_ | refine ac ?_ | refine ai ?_)
  refine cmpLess_ok hc ?_
  repeat (first | refine run ?_ | refine ct ?_ | refine cf ?_ | refine sk ?_ | refine la rfl ?_ | refine na fun _ _ _ => ?_ | refine sa rfl fun _ _ => ?_ | refine nk ?_ | refine mu ?_ | refine ac ?_ | refine ai ?_)
  cases ltU d[j]! d[i]! with
  | true =>
    repeat (first | refine run ?_ | refine ct ?_ | refine cf ?_ | refine sk ?_ | refine la rfl ?_ | refine na fun _ _ _ => ?_ | refine sa rfl fun _ _ => ?_ | refine nk ?_ | refine mu ?_ | refine ac ?_ | refine ai ?_)
    try rw [addInt]
    refine inR_nat (by omega) ?_
    repeat (first | refine run ?_ | refine ct ?_ | refine cf ?_ | refine sk ?_ | refine la rfl ?_ | refine na fun _ _ _ => ?_ | refine sa rfl fun _ _ => ?_ | refine nk ?_ | refine mu ?_ | refine ac ?_ | refine ai ?_)
    exact k j i (c + 1) _ hj hi (.inr ⟨rfl, rfl⟩) (Nat.le_refl _) (Sat.ent (by assumption) (by repeat (first | exact eN _ | exact eZ | apply eC (by repeat (first | exact pH | apply pT)) | refine eD ?_)))
  | false =>
    repeat (first | refine run ?_ | refine ct ?_ | refine cf ?_ | refine sk ?_ | refine la rfl ?_ | refine na fun _ _ _ => ?_ | refine sa rfl fun _ _ => ?_ | refine nk ?_ | refine mu ?_ | refine ac ?_ | refine ai ?_)
    exact k i j c _ hi hj (.inl ⟨rfl, rfl⟩) (Nat.le_succ _) hs0
theorem median_ok (hc : Con con lives) {L R1 R : List HP} {H : CH} {b e s p x y w n c lo hi : Nat} {d : Array Nat} {K : KP} (hs : Sat L H) (hp : Pull L (RowA b e s d) R1) (hq : Pull R1 (Own p [iN c]) R) (hn : d.size = n) (hx : lo ≤ x ∧ x < hi) (hy' : lo ≤ y ∧ y < hi) (hw : lo ≤ w ∧ w < hi) (hh : hi ≤ n) (hcn : c < 100)
    (k : ∀ m c' H1, lo ≤ m → m < hi → c' ≤ c + 3 → Sat (RowA b e s d :: Own p [iN c'] :: R) H1 → K (iN m) H1) : Call1 Tryz.prog con 169 [slc b 0 n n, iN x, iN y, iN w, ptr p 0] H K := by
  refine call_of (hc _ _ _ rfl) ?_
  rw [median_W]
  refine order2_ok hc hs hp hq hn (by omega) (by omega) (by omega) fun i1 j1 c1 H1 q1 q2 q3 q4 h1 => ?_
  refine AsTup.mk (Nth.mk rfl (AsTup.mk (Nth.mk rfl ?_)))
  refine order2_ok hc h1 (by repeat (first | exact pH | apply pT)) (by repeat (first | exact pH | apply pT)) hn (by omega) (by omega) (by omega) fun i2 j2 c2 H2 r1 r2 r3 r4 h2 => ?_
  refine AsTup.mk (Nth.mk rfl (AsTup.mk (Nth.mk rfl ?_)))
  refine order2_ok hc h2 (by repeat (first | exact pH | apply pT)) (by repeat (first | exact pH | apply pT)) hn (by omega) (by omega) (by omega) fun i3 j3 c3 H3 s1 s2 s3 s4 h3 => ?_
  refine AsTup.mk (Nth.mk rfl (AsTup.mk (Nth.mk rfl ?_)))
  exact k j3 c3 _ (by omega) (by omega) (by omega) h3
theorem medAdj_ok (hc : Con con lives) {L R1 R : List HP} {H : CH} {b e s p x n c lo hi : Nat} {d : Array Nat} {K : KP} (hs : Sat L H) (hp : Pull L (RowA b e s d) R1) (hq : Pull R1 (Own p [iN c]) R) (hn : d.size = n) (hx : lo + 1 ≤ x ∧ x + 1 < hi) (hh : hi ≤ n) (hn2 : n ≤ 1000000) (hcn : c < 100)
    (k : ∀ m c' H1, lo ≤ m → m < hi → c' ≤ c + 3 → Sat (RowA b e s d :: Own p [iN c'] :: R) H1 → K (iN m) H1) : Call1 Tryz.prog con 168 [slc b 0 n n, iN x, ptr p 0] H K := by
  refine call_of (hc _ _ _ rfl) ?_
  rw [medAdj_W]
  rw [subInt (by omega)]
  refine inR_nat (by omega) ?_
  repeat (first | refine run ?_ | refine ct ?_ | refine cf ?_ | refine sk ?_ | refine la rfl ?_ | refine na fun _ _ _ => ?_ | refine sa rfl fun _ _ => ?_ | refine nk ?_ | refine mu ?_ | refine ac ?_ | refine ai ?_)
  try rw [addInt]
  refine inR_nat (by omega) ?_
  repeat (first | refine run ?_ | refine ct ?_ | refine cf ?_ | refine sk ?_ | refine la rfl ?_ | refine na fun _ _ _ => ?_ | refine sa rfl fun _ _ => ?_ | refine nk ?_ | refine mu ?_ | refine ac ?_ | refine ai ?_)
  try rw [addInt]
  exact median_ok hc hs hp hq hn (lo := lo) (hi := hi) (by omega) (by omega) (by omega) hh hcn k
theorem choosePiv_ok (hc : Con con lives) {L R : List HP} {H : CH} {b e s a z n : Nat} {d : Array Nat} {K : KP} (hs : Sat L H) (hp : Pull L (RowA b e s d) R) (hn : d.size = n) (hn2 : n ≤ 1000000) (hab : a < z) (hz : z ≤ n)
    (k : ∀ m h H1, a ≤ m → m < z → h ≤ 2 → Sat (RowA b e s d :: R) H1 → K (.tuple ⟨[iN m, iN h]⟩) H1) : Call1 Tryz.prog con 157 [slc b 0 n n, iN a, iN z] H K := by
  refine call_of (hc _ _ _ rfl) ?_
  rw [choosePiv_W]
  have hs0 := hs.pull hp
  clear hs hp
  rw [subInt (by omega)]
  refine inR_nat (by omega) ?_
  repeat (first | refine run ?_ | refine ct ?_ | refine cf ?_ | refine sk ?_ | refine la rfl ?_ | refine na fun _ _ _ => ?_ | refine sa rfl fun _ _ => ?_ | refine nk ?_ | refine mu ?_ | refine ac ?_ | refine ai ?_)
  rename_i p1 H2 h2
  refine CInt.quoI (m := (z - a) / 4) (by omega) rfl (by omega) ?_
  repeat (first | refine run ?_ | refine ct ?_ | refine cf ?_ | refine sk ?_ | refine la rfl ?_ | refine na fun _ _ _ => ?_ | refine sa rfl fun _ _ => ?_ | refine nk ?_ | refine mu ?_ | refine ac ?_ | refine ai ?_)
  refine CInt.mulI (m := (z - a) / 4 * 1) rfl (by omega) ?_
  repeat (first | refine run ?_ | refine ct ?_ | refine cf ?_ | refine sk ?_ | refine la rfl ?_ | refine na fun _ _ _ => ?_ | refine sa rfl fun _ _ => ?_ | refine nk ?_ | refine mu ?_ | refine ac ?_ | refine ai ?_)
  try rw [addInt]
  refine inR_nat (by omega) ?_
  repeat (first | refine run ?_ | refine ct ?_ | refine cf ?_ | refine sk ?_ | refine la rfl ?_ | refine na fun _ _ _ => ?_ | refine sa rfl fun _ _ => ?_ | refine nk ?_ | refine mu ?_ | refine ac ?_ | refine ai ?_)
  refine CInt.quoI (m := (z - a) / 4) (by omega) rfl (by omega) ?_
  repeat (first | refine run ?_ | refine ct ?_ | refine cf ?_ | refine sk ?_ | refine la rfl ?_ | refine na fun _ _ _ => ?_ | refine sa rfl fun _ _ => ?_ | refine nk ?_ | refine mu ?_ | refine ac ?_ | refine ai ?_)
  refine CInt.mulI (m := (z - a) / 4 * 2) rfl (by omega) ?_
  repeat (first | refine run ?_ | refine ct ?_ | refine cf ?_ | refine sk ?_ | refine la rfl ?_ | refine na fun _ _ _ => ?_ | refine sa rfl fun _ _ => ?_ | refine nk ?_ | refine mu ?_ | refine ac ?_ | refine ai ?_)
  try rw [addInt]
  refine inR_nat (by omega) ?_
  repeat (first | refine run ?_ | refine ct ?_ | refine cf ?_ | refine sk ?_ | refine la rfl ?_ | refine na fun _ _ _ => ?_ | refine sa rfl fun _ _ => ?_ | refine nk ?_ | refine mu ?_ | refine ac ?_ | refine ai ?_)
  refine CInt.quoI (m := (z - a) / 4) (by omega) rfl (by omega) ?_
  repeat (first | refine run ?_ | refine ct ?_ | refine cf ?_ | refine sk ?_ | refine la rfl ?_ | refine na fun _ _ _ => ?_ | refine sa rfl fun _ _ => ?_ | refine nk ?_ | refine mu ?_ | refine ac ?_ | refine ai ?_)
  refine CInt.mulI (m := (z - a) / 4 * 3) rfl (by omega) ?_
  repeat (first | refine run ?_ | refine ct ?_ | refine cf ?_ | refine sk ?_ | refine la rfl ?_ | refine na fun _ _ _ => ?_ | refine sa rfl fun _ _ => ?_ | refine nk ?_ | refine mu ?_ | refine ac ?_ | refine ai ?_)
  try rw [addInt]
  refine inR_nat (by omega) ?_
  repeat (first | refine run ?_ | refine ct ?_ | refine cf ?_ | refine sk ?_ | refine la rfl ?_ | refine na fun _ _ _ => ?_ | refine sa rfl fun _ _ => ?_ | refine nk ?_ | refine mu ?_ | refine ac ?_ | refine ai ?_)
  have fin : ∀ {H3 : CH} {m c : Nat}, a ≤ m → m < z → Sat (RowA b e s d :: Own p1 [iN c] :: R) H3 → Ld H3 p1 0 fun v23 => AsInt .i64 v23 fun z24 => Cd (eqZ z24 (Int.ofNat 0)) (K (.tuple ⟨[iN m, iN 1]⟩) H3) (AsInt .i64 v23 fun z25 => Cd (eqZ z25 (Int.ofNat 12)) (K (.tuple ⟨[iN m, iN 2]⟩) H3) (K (.tuple ⟨[iN m, iN 0]⟩) H3)) := by
    intro H3 m c h1 h2 h3
    repeat (first | refine run ?_ | refine ct ?_ | refine cf ?_ | refine sk ?_ | refine la rfl ?_ | refine na fun _ _ _ => ?_ | refine sa rfl fun _ _ => ?_ | refine nk ?_ | refine mu ?_ | refine ac ?_ | refine ai ?_)
    refine Cd.of (fun _ => k _ _ _ h1 h2 (by omega) (h3.ent (by repeat (first | exact eN _ | exact eZ | apply eC (by repeat (first | exact pH | apply pT)) | refine eD ?_)))) fun _ => ?_
    repeat (first | refine run ?_ | refine ct ?_ | refine cf ?_ | refine sk ?_ | refine la rfl ?_ | refine na fun _ _ _ => ?_ | refine sa rfl fun _ _ => ?_ | refine nk ?_ | refine mu ?_ | refine ac ?_ | refine ai ?_)
    exact Cd.of (fun _ => k _ _ _ h1 h2 (by omega) (h3.ent (by repeat (first | exact eN _ | exact eZ | apply eC (by repeat (first | exact pH | apply pT)) | refine eD ?_)))) fun _ => k _ _ _ h1 h2 (by omega) (h3.ent (by repeat (first | exact eN _ | exact eZ | apply eC (by repeat (first | exact pH | apply pT)) | refine eD ?_)))
  refine Cd.of (fun h8 => ?_) (fun h8 => ?_)
  · have h8 := leZ_e h8
    refine Cd.of (fun h50 => ?_) (fun h50 => ?_)
    · have h50 := leZ_e h50
      refine medAdj_ok hc h2 (by repeat (first | exact pH | apply pT)) (by repeat (first | exact pH | apply pT)) hn (lo := a) (hi := z) (by omega) hz hn2 (by omega) fun m1 c1 H3 q1 q2 q3 h3 => ?_
      refine medAdj_ok hc h3 (by repeat (first | exact pH | apply pT)) (by repeat (first | exact pH | apply pT)) hn (lo := a) (hi := z) (by omega) hz hn2 (by omega) fun m2 c2 H4 r1 r2 r3 h4 => ?_
      refine medAdj_ok hc h4 (by repeat (first | exact pH | apply pT)) (by repeat (first | exact pH | apply pT)) hn (lo := a) (hi := z) (by omega) hz hn2 (by omega) fun m3 c3 H5 s1 s2 s3 h5 => ?_
      refine median_ok hc h5 (by repeat (first | exact pH | apply pT)) (by repeat (first | exact pH | apply pT)) hn (lo := a) (hi := z) (by omega) (by omega) (by omega) hz (by omega) fun m4 c4 H6 t1 t2 t3 h6 => ?_
      exact fin t1 t2 h6
    · refine median_ok hc h2 (by repeat (first | exact pH | apply pT)) (by repeat (first | exact pH | apply pT)) hn (lo := a) (hi := z) (by omega) (by omega) (by omega) hz (by omega) fun m4 c4 H6 t1 t2 t3 h6 => ?_
      exact fin t1 t2 h6
  · exact fin (m := a + (z - a) / 4 * 2) (c := 0) (by omega) (by omega) (h2.ent (by repeat (first | exact eN _ | exact eZ | apply eC (by repeat (first | exact pH | apply pT)) | refine eD ?_)))
end Go.Proofs.YtipbbnoepphdkaaGreat

set_option linter.unusedVariables false
set_option linter.unusedSimpArgs false
namespace Go.Proofs.YtipbbnoepphdkaaGreat
open Go Go.CM
attribute [local irreducible] AsBool AsWant AsNat AsInt AsCnt AsPtr AsSlc AsLen AsStr AsAgg AsTup AsFn AsIfc Nth Sc NotNil IsNil Must Cd codeW funW Sat SatL wrapN subM mkRow ltZ leZ ltN leN
variable {con : CallT}
theorem bitsLen_ok (hc : Con con lives) {H : CH} {n : Nat} {K : KP} (hn : n ≤ 256) (k : ∀ c, c ≤ 9 → (0 < n → 2 ^ c ≤ 2 * n) → K (iN c) H) : Call1 Tryz.prog con 149 [u64 n] H K := by
  refine call_of (hc _ _ _ rfl) ?_
  rw [bitsLen_W]
  refine call_of (hc _ _ _ rfl) ?_
  rw [bitsLen64_W]
  refine Cd.f (leN_f (by omega)) (Cd.f (leN_f (by omega)) ?_)
  by_cases h : 256 ≤ n
  · obtain rfl : n = 256 := by omega
    refine Cd.t (leN_t h) ?_
    try rw [addInt]
    refine inR_nat (by omega) ?_
    repeat (first | refine run ?_ | refine ct ?_ | refine cf ?_ | refine sk ?_ | refine la rfl ?_ | refine na fun _ _ _ => ?_ | refine sa rfl fun _ _ => ?_ | refine nk ?_ | refine mu ?_ | refine ac ?_ | refine ai ?_)
    refine OpN.tab (j := 1) (by kernel_rfl) (by decide +kernel) rfl (by omega) fun c hc1 hc2 => ?_
    refine AsNat.mk (Must.mk (ltN_t (by omega)) ?_)
    have h2 := hc2 (by omega)
    have hcc : c ≤ 1 := by
      rcases Nat.lt_or_ge c 2 with h | h
      · omega
      · have : 2 ^ 2 ≤ 2 ^ c := Nat.pow_le_pow_right (by omega) h
        omega
    rw [show Int.add (Int.ofNat (0 + 8)) (Int.ofNat c) = Int.ofNat (8 + c) from rfl]
    refine inR_nat (by omega) ?_
    refine k (8 + c) (by omega) fun _ => ?_
    have : 2 ^ (8 + c) ≤ 2 ^ 9 := Nat.pow_le_pow_right (by omega) (by omega)
    omega
  · refine Cd.f (leN_f (by omega)) ?_
    have hm : Nat.mod n 256 = n := Nat.mod_eq_of_lt (by omega)
    refine OpN.tab (j := Nat.mod n 256) (by kernel_rfl) (by decide +kernel) rfl (by omega) fun c hc1 hc2 => ?_
    rw [hm] at hc2
    refine AsNat.mk (Must.mk (ltN_t (by omega)) ?_)
    rw [show Int.add (Int.ofNat 0) (Int.ofNat c) = Int.ofNat c from by rw [addInt, Nat.zero_add]]
    refine inR_nat (by omega) ?_
    exact k c (by omega) hc2
theorem nextPow_ok (hc : Con con lives) {H : CH} {n : Nat} {K : KP} (hn : n ≤ 256) (h0 : 0 < n) (k : ∀ m, 0 < m → m ≤ 2 * n → K (u64 m) H) : Call1 Tryz.prog con 166 [iN n] H K := by
  refine call_of (hc _ _ _ rfl) ?_
  rw [nextPow_W]
  refine Must.mk (cv_small (by omega)) ?_
  rw [wrapN_small (by omega)]
  refine bitsLen_ok hc hn fun c hc1 hc2 => ?_
  refine AsCnt.mk ?_
  have h2 := hc2 h0
  have hp : 0 < 2 ^ c := Nat.two_pow_pos c
  have e : Nat.mod (Nat.mul 1 (Nat.pow 2 (Nat.min c 64))) 18446744073709551616 = 2 ^ c := by
    rw [show Nat.min c 64 = c from Nat.min_eq_left (by omega)]
    show 1 * 2 ^ c % 18446744073709551616 = 2 ^ c
    rw [Nat.one_mul]
    exact Nat.mod_eq_of_lt (by omega)
  rw [e]
  exact k _ hp h2
theorem xorNext_ok (hc : Con con lives) {L R : List HP} {H : CH} {p r : Nat} {K : KP} (hs : Sat L H) (hp : Pull L (Own p [u64 r]) R) (k : ∀ x H1, x < 18446744073709551616 → Sat (Own p [u64 x] :: R) H1 → K (u64 x) H1) : Call1 Tryz.prog con 167 [ptr p 0] H K := by
  refine call_of (hc _ _ _ rfl) ?_
  rw [xorNext_W]
  have hs0 := hs.pull hp
  clear hs hp
  repeat (first | refine run ?_ | refine ct ?_ | refine cf ?_ | refine sk ?_ | refine la rfl ?_ | refine na fun _ _ _ => ?_ | refine sa rfl fun _ _ => ?_ | refine nk ?_ | refine mu ?_ | refine ac ?_ | refine ai ?_)
  refine CInt.xorE fun x1 _ => ?_
  repeat (first | refine run ?_ | refine ct ?_ | refine cf ?_ | refine sk ?_ | refine la rfl ?_ | refine na fun _ _ _ => ?_ | refine sa rfl fun _ _ => ?_ | refine nk ?_ | refine mu ?_ | refine ac ?_ | refine ai ?_)
  refine CInt.xorE fun x2 _ => ?_
  repeat (first | refine run ?_ | refine ct ?_ | refine cf ?_ | refine sk ?_ | refine la rfl ?_ | refine na fun _ _ _ => ?_ | refine sa rfl fun _ _ => ?_ | refine nk ?_ | refine mu ?_ | refine ac ?_ | refine ai ?_)
  refine CInt.xorE fun x3 h3 => ?_
  repeat (first | refine run ?_ | refine ct ?_ | refine cf ?_ | refine sk ?_ | refine la rfl ?_ | refine na fun _ _ _ => ?_ | refine sa rfl fun _ _ => ?_ | refine nk ?_ | refine mu ?_ | refine ac ?_ | refine ai ?_)
  exact k x3 _ h3 (Sat.ent (by assumption) (by repeat (first | exact eN _ | exact eZ | apply eC (by repeat (first | exact pH | apply pT)) | refine eD ?_)))
theorem breakPat_ok (hc : Con con lives) {L R : List HP} {H : CH} {b e s a z n : Nat} {d : Array Nat} {K : KP} (hs : Sat L H) (hp : Pull L (RowA b e s d) R) (hn : d.size = n) (hn2 : n ≤ 256) (hab : a ≤ z) (hz : z ≤ n)
    (k : ∀ d' H1, Sort.PermIn a z d d' → Sat (RowA b e s d' :: R) H1 → K unit H1) : Call1 Tryz.prog con 156 [slc b 0 n n, iN a, iN z] H K := by
  refine call_of (hc _ _ _ rfl) ?_
  rw [breakPat_W]
  have hs0 := hs.pull hp
  clear hs hp
  rw [subInt (by omega)]
  refine inR_nat (by omega) ?_
  refine Cd.of (fun h8 => ?_) (fun _ => k d _ (Sort.permIn_refl d a z) hs0)
  have h8 := leZ_e h8
  refine Must.mk (cv_small (by omega)) ?_
  rw [wrapN_small (by omega)]
  repeat (first | refine run ?_ | refine ct ?_ | refine cf ?_ | refine sk ?_ | refine la rfl ?_ | refine na fun _ _ _ => ?_ | refine sa rfl fun _ _ => ?_ | refine nk ?_ | refine mu ?_ | refine ac ?_ | refine ai ?_)
  refine nextPow_ok hc (by omega) (by omega) fun m hm1 hm2 => ?_
  refine CInt.quoI (m := (z - a) / 4) (by omega) rfl (by omega) ?_
  repeat (first | refine run ?_ | refine ct ?_ | refine cf ?_ | refine sk ?_ | refine la rfl ?_ | refine na fun _ _ _ => ?_ | refine sa rfl fun _ _ => ?_ | refine nk ?_ | refine mu ?_ | refine ac ?_ | refine ai ?_)
  refine CInt.mulI (m := (z - a) / 4 * 2) rfl (by omega) ?_
  repeat (first | refine run ?_ | refine ct ?_ | refine cf ?_ | refine sk ?_ | refine la rfl ?_ | refine na fun _ _ _ => ?_ | refine sa rfl fun _ _ => ?_ | refine nk ?_ | refine mu ?_ | refine ac ?_ | refine ai ?_)
  try rw [addInt]
  refine inR_nat (by omega) ?_
  repeat (first | refine run ?_ | refine ct ?_ | refine cf ?_ | refine sk ?_ | refine la rfl ?_ | refine na fun _ _ _ => ?_ | refine sa rfl fun _ _ => ?_ | refine nk ?_ | refine mu ?_ | refine ac ?_ | refine ai ?_)
  rw [subInt (by omega)]
  refine inR_nat (by omega) ?_
  rename_i p1 H2 h2 H3 h3
  refine LoopC.indP (n := 200) (id := 0) (fun σ1 H1 => ∃ d', Sort.PermIn a z d d' ∧ Sat (RowA b e s d' :: R) H1) (by kernel_rfl)
    (fun (i : Nat) σ1 H1 => a ≤ i ∧ σ1 0 = slc b 0 n n ∧ σ1 1 = iN a ∧ σ1 6 = iN (z - a) ∧ σ1 7 = ptr p1 0 ∧ σ1 8 = u64 m ∧ σ1 9 = iN i ∧ ∃ w, w < 18446744073709551616 ∧ ∃ d1, Sort.PermIn a z d d1 ∧ Sat (RowA b e s d1 :: Own p1 [u64 w] :: R) H1)
    (fun i => z - i) (fun i σ1 H1 hI => ?_) (fun σ1 H1 hP => ?_) (a + (z - a) / 4 * 2 - 1) _ _ ⟨by omega, rfl, rfl, rfl, rfl, rfl, rfl, z - a, by omega, d, Sort.permIn_refl d a z, h3.ent (by repeat (first | exact eN _ | exact eZ | apply eC (by repeat (first | exact pH | apply pT)) | refine eD ?_))⟩
  · obtain ⟨hi, c0, c1, c6, c7, c8, c9, w, hw, d1, hp1, hs1⟩ := hI
    have hd1 : d1.size = n := by rw [hp1.1]; exact hn
    rw [breakPatL_W]
    simp only [c0, c1, c6, c7, c8, c9]
    repeat (first | refine run ?_ | refine ct ?_ | refine cf ?_ | refine sk ?_ | refine la rfl ?_ | refine na fun _ _ _ => ?_ | refine sa rfl fun _ _ => ?_ | refine nk ?_ | refine mu ?_ | refine ac ?_ | refine ai ?_)
    refine CInt.quoI (m := (z - a) / 4) (by omega) rfl (by omega) ?_
    repeat (first | refine run ?_ | refine ct ?_ | refine cf ?_ | refine sk ?_ | refine la rfl ?_ | refine na fun _ _ _ => ?_ | refine sa rfl fun _ _ => ?_ | refine nk ?_ | refine mu ?_ | refine ac ?_ | refine ai ?_)
    refine CInt.mulI (m := (z - a) / 4 * 2) rfl (by omega) ?_
    repeat (first | refine run ?_ | refine ct ?_ | refine cf ?_ | refine sk ?_ | refine la rfl ?_ | refine na fun _ _ _ => ?_ | refine sa rfl fun _ _ => ?_ | refine nk ?_ | refine mu ?_ | refine ac ?_ | refine ai ?_)
    try rw [addInt]
    refine inR_nat (by omega) ?_
    repeat (first | refine run ?_ | refine ct ?_ | refine cf ?_ | refine sk ?_ | refine la rfl ?_ | refine na fun _ _ _ => ?_ | refine sa rfl fun _ _ => ?_ | refine nk ?_ | refine mu ?_ | refine ac ?_ | refine ai ?_)
    try rw [addInt]
    refine inR_nat (by omega) ?_
    repeat (first | refine run ?_ | refine ct ?_ | refine cf ?_ | refine sk ?_ | refine la rfl ?_ | refine na fun _ _ _ => ?_ | refine sa rfl fun _ _ => ?_ | refine nk ?_ | refine mu ?_ | refine ac ?_ | refine ai ?_)
    refine Cd.of (fun hle => ?_) (fun hgt => ?_)
    · have hle := leZ_e hle
      refine xorNext_ok hc hs1 (by repeat (first | exact pH | apply pT)) fun w' H9 hw' h9 => ?_
      clear hs1
      have hs1 : Sat (RowA b e s d1 :: Own p1 [u64 w'] :: R) H9 := h9.ent (by repeat (first | exact eN _ | exact eZ | apply eC (by repeat (first | exact pH | apply pT)) | refine eD ?_))
      clear h9
      repeat (first | refine run ?_ | refine ct ?_ | refine cf ?_ | refine sk ?_ | refine la rfl ?_ | refine na fun _ _ _ => ?_ | refine sa rfl fun _ _ => ?_ | refine nk ?_ | refine mu ?_ | refine ac ?_ | refine ai ?_)
      rw [subM_small (by omega) (by omega)]
      have hand : w' &&& (m - 1) ≤ m - 1 := Nat.and_le_right
      refine CInt.and hw' (by omega) rfl ?_
      generalize w' &&& (m - 1) = o at hand
      repeat (first | refine run ?_ | refine ct ?_ | refine cf ?_ | refine sk ?_ | refine la rfl ?_ | refine na fun _ _ _ => ?_ | refine sa rfl fun _ _ => ?_ | refine nk ?_ | refine mu ?_ | refine ac ?_ | refine ai ?_)
      rw [wrapI_small (by omega)]
      refine Cd.of (fun hge => ?_) (fun hlt => ?_)
      · have hge := leZ_e hge
        repeat (first | refine run ?_ | refine ct ?_ | refine cf ?_ | refine sk ?_ | refine la rfl ?_ | refine na fun _ _ _ => ?_ | refine sa rfl fun _ _ => ?_ | refine nk ?_ | refine mu ?_ | refine ac ?_ | refine ai ?_)
        rw [subInt (by omega)]
        refine inR_nat (by omega) ?_
        repeat (first | refine run ?_ | refine ct ?_ | refine cf ?_ | refine sk ?_ | refine la rfl ?_ | refine na fun _ _ _ => ?_ | refine sa rfl fun _ _ => ?_ | refine nk ?_ | refine mu ?_ | refine ac ?_ | refine ai ?_)
        try rw [addInt]
        refine inR_nat (by omega) ?_
        repeat (first | refine run ?_ | refine ct ?_ | refine cf ?_ | refine sk ?_ | refine la rfl ?_ | refine na fun _ _ _ => ?_ | refine sa rfl fun _ _ => ?_ | refine nk ?_ | refine mu ?_ | refine ac ?_ | refine ai ?_)
        try rw [addInt]
        refine inR_nat (by omega) ?_
        repeat (first | refine run ?_ | refine ct ?_ | refine cf ?_ | refine sk ?_ | refine la rfl ?_ | refine na fun _ _ _ => ?_ | refine sa rfl fun _ _ => ?_ | refine nk ?_ | refine mu ?_ | refine ac ?_ | refine ai ?_)
        refine Must.mk (ltN_t (by omega)) (ldA hs1 (by omega) rfl ?_)
        repeat (first | refine run ?_ | refine ct ?_ | refine cf ?_ | refine sk ?_ | refine la rfl ?_ | refine na fun _ _ _ => ?_ | refine sa rfl fun _ _ => ?_ | refine nk ?_ | refine mu ?_ | refine ac ?_ | refine ai ?_)
        refine Must.mk (ltN_t (by omega)) (ldA hs1 (by omega) rfl ?_)
        repeat (first | refine run ?_ | refine ct ?_ | refine cf ?_ | refine sk ?_ | refine la rfl ?_ | refine na fun _ _ _ => ?_ | refine sa rfl fun _ _ => ?_ | refine nk ?_ | refine mu ?_ | refine ac ?_ | refine ai ?_)
        refine Must.mk (ltN_t (by omega)) ?_
        repeat (first | refine run ?_ | refine ct ?_ | refine cf ?_ | refine sk ?_ | refine la rfl ?_ | refine na fun _ _ _ => ?_ | refine sa rfl fun _ _ => ?_ | refine nk ?_ | refine mu ?_ | refine ac ?_ | refine ai ?_)
        refine st hs1 (by rw [lenA, off1]; omega) rfl fun _ hx => ?_
        repeat (first | refine run ?_ | refine ct ?_ | refine cf ?_ | refine sk ?_ | refine la rfl ?_ | refine na fun _ _ _ => ?_ | refine sa rfl fun _ _ => ?_ | refine nk ?_ | refine mu ?_ | refine ac ?_ | refine ai ?_)
        refine Must.mk (ltN_t (by omega)) ?_
        repeat (first | refine run ?_ | refine ct ?_ | refine cf ?_ | refine sk ?_ | refine la rfl ?_ | refine na fun _ _ _ => ?_ | refine sa rfl fun _ _ => ?_ | refine nk ?_ | refine mu ?_ | refine ac ?_ | refine ai ?_)
        refine st hx (by rw [List.length_set, lenA, off1]; omega) rfl fun _ hy => ?_
        rw [off1, off1, swpA (by omega) (by omega)] at hy
        clear hx
        repeat (first | refine run ?_ | refine ct ?_ | refine cf ?_ | refine sk ?_ | refine la rfl ?_ | refine na fun _ _ _ => ?_ | refine sa rfl fun _ _ => ?_ | refine nk ?_ | refine mu ?_ | refine ac ?_ | refine ai ?_)
        try rw [addInt]
        refine inR_nat (by omega) ?_
        repeat (first | refine run ?_ | refine ct ?_ | refine cf ?_ | refine sk ?_ | refine la rfl ?_ | refine na fun _ _ _ => ?_ | refine sa rfl fun _ _ => ?_ | refine nk ?_ | refine mu ?_ | refine ac ?_ | refine ai ?_)
        show ∃ y, _ ∧ _
        replace hy : Sat (RowA b e s (Sort.swp d1 i (a + (o - (z - a)))) :: Own p1 [u64 w'] :: R) _ := hy
        exact ⟨i + 1, by omega, by omega, c0, c1, c6, c7, c8, rfl, w', hw', _, Sort.permIn_trans _ _ _ a z hp1 (Sort.swp_permIn _ _ _ _ _ (by omega) (by omega) (by omega) (by omega) (by omega)), hy⟩
      · have hlt := leZ_n hlt
        repeat (first | refine run ?_ | refine ct ?_ | refine cf ?_ | refine sk ?_ | refine la rfl ?_ | refine na fun _ _ _ => ?_ | refine sa rfl fun _ _ => ?_ | refine nk ?_ | refine mu ?_ | refine ac ?_ | refine ai ?_)
        try rw [addInt]
        refine inR_nat (by omega) ?_
        repeat (first | refine run ?_ | refine ct ?_ | refine cf ?_ | refine sk ?_ | refine la rfl ?_ | refine na fun _ _ _ => ?_ | refine sa rfl fun _ _ => ?_ | refine nk ?_ | refine mu ?_ | refine ac ?_ | refine ai ?_)
        try rw [addInt]
        refine inR_nat (by omega) ?_
        repeat (first | refine run ?_ | refine ct ?_ | refine cf ?_ | refine sk ?_ | refine la rfl ?_ | refine na fun _ _ _ => ?_ | refine sa rfl fun _ _ => ?_ | refine nk ?_ | refine mu ?_ | refine ac ?_ | refine ai ?_)
        refine Must.mk (ltN_t (by omega)) (ldA hs1 (by omega) rfl ?_)
        repeat (first | refine run ?_ | refine ct ?_ | refine cf ?_ | refine sk ?_ | refine la rfl ?_ | refine na fun _ _ _ => ?_ | refine sa rfl fun _ _ => ?_ | refine nk ?_ | refine mu ?_ | refine ac ?_ | refine ai ?_)
        refine Must.mk (ltN_t (by omega)) (ldA hs1 (by omega) rfl ?_)
        repeat (first | refine run ?_ | refine ct ?_ | refine cf ?_ | refine sk ?_ | refine la rfl ?_ | refine na fun _ _ _ => ?_ | refine sa rfl fun _ _ => ?_ | refine nk ?_ | refine mu ?_ | refine ac ?_ | refine ai ?_)
        refine Must.mk (ltN_t (by omega)) ?_
        repeat (first | refine run ?_ | refine ct ?_ | refine cf ?_ | refine sk ?_ | refine la rfl ?_ | refine na fun _ _ _ => ?_ | refine sa rfl fun _ _ => ?_ | refine nk ?_ | refine mu ?_ | refine ac ?_ | refine ai ?_)
        refine st hs1 (by rw [lenA, off1]; omega) rfl fun _ hx => ?_
        repeat (first | refine run ?_ | refine ct ?_ | refine cf ?_ | refine sk ?_ | refine la rfl ?_ | refine na fun _ _ _ => ?_ | refine sa rfl fun _ _ => ?_ | refine nk ?_ | refine mu ?_ | refine ac ?_ | refine ai ?_)
        refine Must.mk (ltN_t (by omega)) ?_
        repeat (first | refine run ?_ | refine ct ?_ | refine cf ?_ | refine sk ?_ | refine la rfl ?_ | refine na fun _ _ _ => ?_ | refine sa rfl fun _ _ => ?_ | refine nk ?_ | refine mu ?_ | refine ac ?_ | refine ai ?_)
        refine st hx (by rw [List.length_set, lenA, off1]; omega) rfl fun _ hy => ?_
        rw [off1, off1, swpA (by omega) (by omega)] at hy
        clear hx
        repeat (first | refine run ?_ | refine ct ?_ | refine cf ?_ | refine sk ?_ | refine la rfl ?_ | refine na fun _ _ _ => ?_ | refine sa rfl fun _ _ => ?_ | refine nk ?_ | refine mu ?_ | refine ac ?_ | refine ai ?_)
        try rw [addInt]
        refine inR_nat (by omega) ?_
        repeat (first | refine run ?_ | refine ct ?_ | refine cf ?_ | refine sk ?_ | refine la rfl ?_ | refine na fun _ _ _ => ?_ | refine sa rfl fun _ _ => ?_ | refine nk ?_ | refine mu ?_ | refine ac ?_ | refine ai ?_)
        show ∃ y, _ ∧ _
        replace hy : Sat (RowA b e s (Sort.swp d1 i (a + o)) :: Own p1 [u64 w'] :: R) _ := hy
        exact ⟨i + 1, by omega, by omega, c0, c1, c6, c7, c8, rfl, w', hw', _, Sort.permIn_trans _ _ _ a z hp1 (Sort.swp_permIn _ _ _ _ _ (by omega) (by omega) (by omega) (by omega) (by omega)), hy⟩
    · show _ = _ ∧ _
      exact ⟨rfl, d1, hp1, hs1.ent (by repeat (first | exact eN _ | exact eZ | apply eC (by repeat (first | exact pH | apply pT)) | refine eD ?_))⟩
  · obtain ⟨d', hp', hs1⟩ := hP
    show Cd _ _ _
    exact Cd.t rfl (k d' _ hp' hs1)
end Go.Proofs.YtipbbnoepphdkaaGreat

