/- What the functions do to the memories and procs that they are given: their contracts. The conditions stand in each. -/
import Derived.Test.YtipbbnoepphdkaaDec
import Derived.Test.YtipbbnoepphdkaaCmF
set_option linter.unusedVariables false
set_option linter.unusedSimpArgs false

set_option linter.unusedVariables false
set_option linter.unusedSimpArgs false
namespace Go.Proofs.Ytipbbnoepphdkaa
open Go Go.CM
abbrev lives : List Nat := [11, 39, 53, 65]
abbrev tPl : Nat := 146
abbrev tA : Nat := 87
abbrev tU : Nat := 22
abbrev tAS : Nat := 55
abbrev tUS : Nat := 23
abbrev MemP (m : Nat) (M : Mem) : HP := MemAt tPl tA tU m M
abbrev RefP (m : Nat) (M : Mem) : HP := RefAt tA tU m M
attribute [local irreducible] AsBool AsWant AsNat AsInt AsCnt AsPtr AsSlc AsLen AsStr AsAgg AsTup AsFn AsIfc Nth Sc NotNil IsNil Must Cd codeW funW Sat SatL wrapN subM mkRow ltZ leZ ltN leN
variable {con : CallT}

theorem el_acc : elemOk Try.prog tAS tA 8 80 = true := by kernel_rfl
theorem el_u64 : elemOk Try.prog tUS tU 1 8 = true := by kernel_rfl
theorem sl_acc : ∃ e, Try.prog.underlying tAS = some (.slice e) := ⟨tA, by kernel_rfl⟩
theorem sl_u64 : ∃ e, Try.prog.underlying tUS = some (.slice e) := ⟨tU, by kernel_rfl⟩
theorem off1 (a : Nat) : Nat.add 0 (Nat.mul a 1) = a := by show 0 + a * 1 = a; omega
theorem map_get (l : List Nat) {a : Nat} (h : a < l.length) : (l.map u64)[a]? = some (u64 (l.getD a 0)) := by
  rw [List.getElem?_map, List.getElem?_eq_getElem h, List.getD_eq_getElem?_getD, List.getElem?_eq_getElem h]; rfl

theorem plainSize_ok (hc : Con con lives) {L : List HP} {H : CH} {b x c n : Nat} {o : Nat} {f : Value} {K : KP} (hs : Sat L H) [HasCell L b [slc x o n c, f]] (k : K (iN n) H) : Call1 Try.prog con 230 [ptr b 0] H K := by
  refine call_of (hc _ _ _ rfl) ?_
  rw [plainSize_W]
  repeat (first | refine run ?_ | refine Cd.t rfl ?_ | refine Cd.f rfl ?_ | refine Cd.t (by decide +kernel) ?_ | refine Cd.f (by decide +kernel) ?_ | refine Sc.mk rfl ?_ | refine ld (by assumption) rfl ?_ | refine nw (by assumption) fun _ _ _ => ?_ | refine stB (by assumption) rfl rfl fun _ _ => ?_)
  exact k

theorem plainLoad_ok (hc : Con con lives) {L : List HP} {H : CH} {b x c n a : Nat} {f v : Value} {cs : List Value} {K : KP} (hs : Sat L H) [HasCell L b [slc x 0 n c, f]] [HasCell L x cs] (ha : a < n) (hv : cs[a]? = some v) (k : K v H) : Call1 Try.prog con 228 [ptr b 0, u64 a] H K := by
  refine call_of (hc _ _ _ rfl) ?_
  rw [plainLoad_W]
  repeat (first | refine run ?_ | refine Cd.t rfl ?_ | refine Cd.f rfl ?_ | refine Cd.t (by decide +kernel) ?_ | refine Cd.f (by decide +kernel) ?_ | refine Sc.mk rfl ?_ | refine ld (by assumption) rfl ?_ | refine nw (by assumption) fun _ _ _ => ?_ | refine stB (by assumption) rfl rfl fun _ _ => ?_)
  refine Must.mk (ltN_t ha) (ld hs (by rw [off1]; exact hv) k)

theorem plainStore_ok (hc : Con con lives) {L : List HP} {H : CH} {b x c n a y : Nat} {f : Value} {cs : List Value} {F : List Value → List HP} {K : KP} (hs : Sat L H) [HasCell L b [slc x 0 n c, f]] [HasObj L x cs F] (ha : a < n) (hn : n = cs.length) (k : ∀ H1, Sat (F (cs.set a (u64 y))) H1 → K unit H1) : Call1 Try.prog con 231 [ptr b 0, u64 a, u64 y] H K := by
  refine call_of (hc _ _ _ rfl) ?_
  rw [plainStore_W]
  repeat (first | refine run ?_ | refine Cd.t rfl ?_ | refine Cd.f rfl ?_ | refine Cd.t (by decide +kernel) ?_ | refine Cd.f (by decide +kernel) ?_ | refine Sc.mk rfl ?_ | refine ld (by assumption) rfl ?_ | refine nw (by assumption) fun _ _ _ => ?_ | refine stB (by assumption) rfl rfl fun _ _ => ?_)
  refine Must.mk (ltN_t ha) (st hs (by rw [off1]; omega) rfl fun H1 h => k H1 ?_)
  rw [off1] at h
  exact h

theorem memHas_ok (hc : Con con lives) {L R : List HP} {H : CH} {m a : Nat} {M : Mem} {K : KP} (hs : Sat L H) (hp : Pull L (MemP m M) R) (k : K (.bool (ltN a M.cells.length)) H) : Call1 Try.prog con 83 [ptr m 0, u64 a] H K := by
  refine call_of (hc _ _ _ rfl) ?_
  rw [memHas_W]
  obtain ⟨h1, h2, s1, s2, d, ⟨bp, bl, tr, ⟨hn, hf⟩, hin⟩, hR⟩ := hs.opens hp
  have hs1 := Sat.merge s1 s2 d hin hR
  simp only [List.cons_append, List.nil_append] at hs1
  repeat (first | refine run ?_ | refine Cd.t rfl ?_ | refine Cd.f rfl ?_ | refine Cd.t (by decide +kernel) ?_ | refine Cd.f (by decide +kernel) ?_ | refine Sc.mk rfl ?_ | refine ld (by assumption) rfl ?_ | refine nw (by assumption) fun _ _ _ => ?_ | refine stB (by assumption) rfl rfl fun _ _ => ?_)
  refine Mth.of (f := 230) (rc := ptr bp 0) (by kernel_rfl) (by kernel_rfl) ?_
  refine plainSize_ok hc hs1 ?_
  repeat (first | refine run ?_ | refine Cd.t rfl ?_ | refine Cd.f rfl ?_ | refine Cd.t (by decide +kernel) ?_ | refine Cd.f (by decide +kernel) ?_ | refine Sc.mk rfl ?_ | refine ld (by assumption) rfl ?_ | refine nw (by assumption) fun _ _ _ => ?_ | refine stB (by assumption) rfl rfl fun _ _ => ?_)
  refine Must.mk (cv_small (by omega)) ?_
  rw [wrapN_small (by omega)]
  exact k

theorem memPeek_ok (hc : Con con lives) {L R : List HP} {H : CH} {m a : Nat} {M : Mem} {K : KP} (hs : Sat L H) (hp : Pull L (MemP m M) R) (k : K (u64 (M.peek a)) H) : Call1 Try.prog con 71 [ptr m 0, u64 a] H K := by
  refine call_of (hc _ _ _ rfl) ?_
  rw [memPeek_W]
  refine memHas_ok hc hs hp ?_
  obtain ⟨h1, h2, s1, s2, d, ⟨bp, bl, tr, ⟨hn, hf⟩, hin⟩, hR⟩ := hs.opens hp
  have hs1 := Sat.merge s1 s2 d hin hR
  simp only [List.cons_append, List.nil_append] at hs1
  repeat (first | refine run ?_ | refine Cd.t rfl ?_ | refine Cd.f rfl ?_ | refine Cd.t (by decide +kernel) ?_ | refine Cd.f (by decide +kernel) ?_ | refine Sc.mk rfl ?_ | refine ld (by assumption) rfl ?_ | refine nw (by assumption) fun _ _ _ => ?_ | refine stB (by assumption) rfl rfl fun _ _ => ?_)
  by_cases h : a < M.cells.length
  · refine Cd.f (by rw [ltN_t h]; rfl) ?_
    repeat (first | refine run ?_ | refine Cd.t rfl ?_ | refine Cd.f rfl ?_ | refine Cd.t (by decide +kernel) ?_ | refine Cd.f (by decide +kernel) ?_ | refine Sc.mk rfl ?_ | refine ld (by assumption) rfl ?_ | refine nw (by assumption) fun _ _ _ => ?_ | refine stB (by assumption) rfl rfl fun _ _ => ?_)
    refine Mth.of (f := 228) (rc := ptr bp 0) (by kernel_rfl) (by kernel_rfl) ?_
    exact plainLoad_ok hc hs1 h (map_get _ h) k
  · refine Cd.t (by rw [ltN_f (by omega)]; rfl) ?_
    have e : M.peek a = 0 := by unfold Mem.peek; rw [List.getD_eq_getElem?_getD, List.getElem?_eq_none (by omega)]; rfl
    rw [e] at k
    exact k

theorem note_ok (hc : Con con lives) {L R1 R2 R3 : List HP} {H : CH} {p m n : Nat} {th : Int} {M : Mem} {v0 : Value} {c : Acs} {K : KP} (hs : Sat L H) (hm' : Pull L (MemP m M) R1) (hv : Pull R1 (ViewAt p m th n) R2) (hq : Pull R2 (Nums v0 c.vals) R3)
    (hn : n < 1000000000) (ht : M.tr.length < 1000000000) (hv0 : isCell v0 = true) (k : ∀ H1, Sat (MemP m (M.note { c with th := th }) :: ViewAt p m th (n + 1) :: R3) H1 → K unit H1) :
    Call1 Try.prog con 84 [ptr p 0, .agg ⟨[i64 (Int.ofNat 0), u8 c.kind, u64 c.a, u64 c.x, u64 c.y, v0, u64 c.got, .bool c.ok]⟩] H K := by
  refine call_of (hc _ _ _ rfl) ?_
  rw [viewNote_W]
  have hs0 := hs.takes (.cons hm' (.cons hv (.cons hq .nil)))
  simp only [List.cons_append, List.nil_append] at hs0
  obtain ⟨h1, h2, s1, s2, d, ⟨bp, bl, tr, ⟨hn1, hf⟩, hin⟩, hR⟩ := hs0.opens Pull.here
  have hs1 := Sat.merge s1 s2 d hin hR
  simp only [List.cons_append, List.nil_append] at hs1
  obtain ⟨g1, g2, t1, t2, d2, hT, _⟩ := hs1.opens (.there (.there (.there .here)))
  obtain ⟨q, rfl⟩ := hT.shape
  repeat (first | refine run ?_ | refine Cd.t rfl ?_ | refine Cd.f rfl ?_ | refine Cd.t (by decide +kernel) ?_ | refine Cd.f (by decide +kernel) ?_ | refine Sc.mk rfl ?_ | refine ld (by assumption) rfl ?_ | refine nw (by assumption) fun _ _ _ => ?_ | refine stB (by assumption) rfl rfl fun _ _ => ?_)
  refine inR_nat (n := n + 1) (by omega) ?_
  repeat (first | refine run ?_ | refine Cd.t rfl ?_ | refine Cd.f rfl ?_ | refine Cd.t (by decide +kernel) ?_ | refine Cd.f (by decide +kernel) ?_ | refine Sc.mk rfl ?_ | refine ld (by assumption) rfl ?_ | refine nw (by assumption) fun _ _ _ => ?_ | refine stB (by assumption) rfl rfl fun _ _ => ?_)
  refine app_trace (c := { c with th := th }) (v0 := v0) (by assumption) (by repeat (first | exact Pull.here | apply Pull.there)) (by repeat (first | exact Pull.here | apply Pull.there)) el_acc (by omega) sl_acc hv0 ht (fun q H1 hs2 => ?_)
  repeat (first | refine run ?_ | refine Cd.t rfl ?_ | refine Cd.f rfl ?_ | refine Cd.t (by decide +kernel) ?_ | refine Cd.f (by decide +kernel) ?_ | refine Sc.mk rfl ?_ | refine ld (by assumption) rfl ?_ | refine nw (by assumption) fun _ _ _ => ?_ | refine stB (by assumption) rfl rfl fun _ _ => ?_)
  refine k _ (Sat.close (L1 := [_, _, _, _]) (Sat.ent (by assumption) (by repeat (first | exact Ent.refl _ | exact Ent.none | apply Ent.cons (by repeat (first | exact Pull.here | apply Pull.there)) | refine Ent.drop ?_))) fun g a => ⟨bp, bl, _, ⟨hn1, hf⟩, a⟩)
end Go.Proofs.Ytipbbnoepphdkaa

set_option linter.unusedVariables false
set_option linter.unusedSimpArgs false
namespace Go.Proofs.Ytipbbnoepphdkaa
open Go Go.CM
attribute [local irreducible] AsBool AsWant AsNat AsInt AsCnt AsPtr AsSlc AsLen AsStr AsAgg AsTup AsFn AsIfc Nth Sc NotNil IsNil Must Cd codeW funW Sat SatL wrapN subM mkRow ltZ leZ ltN leN
variable {con : CallT}

theorem viewLoad_ok (hc : Con con lives) {L R1 R2 : List HP} {H : CH} {p m n a : Nat} {th : Int} {M : Mem} {K : KP} (hs : Sat L H) (hm : Pull L (MemP m M) R1) (hv : Pull R1 (ViewAt p m th n) R2)
    (hn : n < 1000000000) (ht : M.tr.length < 1000000000) (k : ∀ H1, Sat (MemP m (M.load th a) :: ViewAt p m th (n + 1) :: R2) H1 → K (u64 (M.peek a)) H1) : Call1 Try.prog con 74 [ptr p 0, u64 a] H K := by
  refine call_of (hc _ _ _ rfl) ?_
  rw [viewLoad_W]
  have hs0 := hs.takes (.cons hm (.cons hv .nil))
  simp only [List.cons_append, List.nil_append] at hs0
  repeat (first | refine run ?_ | refine Cd.t rfl ?_ | refine Cd.f rfl ?_ | refine Cd.t (by decide +kernel) ?_ | refine Cd.f (by decide +kernel) ?_ | refine Sc.mk rfl ?_ | refine ld (by assumption) rfl ?_ | refine nw (by assumption) fun _ _ _ => ?_ | refine stB (by assumption) rfl rfl fun _ _ => ?_)
  refine memPeek_ok hc hs0 (by repeat (first | exact Pull.here | apply Pull.there)) ?_
  repeat (first | refine run ?_ | refine Cd.t rfl ?_ | refine Cd.f rfl ?_ | refine Cd.t (by decide +kernel) ?_ | refine Cd.f (by decide +kernel) ?_ | refine Sc.mk rfl ?_ | refine ld (by assumption) rfl ?_ | refine nw (by assumption) fun _ _ _ => ?_ | refine stB (by assumption) rfl rfl fun _ _ => ?_)
  refine note_ok (c := accLd 0 a (M.peek a)) (v0 := snil) hc hs0.nil (by repeat (first | exact Pull.here | apply Pull.there)) (by repeat (first | exact Pull.here | apply Pull.there)) (by repeat (first | exact Pull.here | apply Pull.there)) hn ht rfl fun H1 h => ?_
  exact k _ h

theorem put_oob {M : Mem} {a x : Nat} (h : M.cells.length ≤ a) : M.put a x = M := by
  unfold Mem.put; rw [List.set_eq_of_length_le h]

theorem viewStore_ok (hc : Con con lives) {L R1 R2 : List HP} {H : CH} {p m n a x : Nat} {th : Int} {M : Mem} {K : KP} (hs : Sat L H) (hm : Pull L (MemP m M) R1) (hv : Pull R1 (ViewAt p m th n) R2)
    (hn : n < 1000000000) (ht : M.tr.length < 1000000000) (k : ∀ H1, Sat (MemP m (M.store th a x) :: ViewAt p m th (n + 1) :: R2) H1 → K unit H1) : Call1 Try.prog con 23 [ptr p 0, u64 a, u64 x] H K := by
  refine call_of (hc _ _ _ rfl) ?_
  rw [viewStore_W]
  have hs0 := hs.takes (.cons hm (.cons hv .nil))
  simp only [List.cons_append, List.nil_append] at hs0
  repeat (first | refine run ?_ | refine Cd.t rfl ?_ | refine Cd.f rfl ?_ | refine Cd.t (by decide +kernel) ?_ | refine Cd.f (by decide +kernel) ?_ | refine Sc.mk rfl ?_ | refine ld (by assumption) rfl ?_ | refine nw (by assumption) fun _ _ _ => ?_ | refine stB (by assumption) rfl rfl fun _ _ => ?_)
  refine memHas_ok hc hs0 (by repeat (first | exact Pull.here | apply Pull.there)) ?_
  repeat (first | refine run ?_ | refine Cd.t rfl ?_ | refine Cd.f rfl ?_ | refine Cd.t (by decide +kernel) ?_ | refine Cd.f (by decide +kernel) ?_ | refine Sc.mk rfl ?_ | refine ld (by assumption) rfl ?_ | refine nw (by assumption) fun _ _ _ => ?_ | refine stB (by assumption) rfl rfl fun _ _ => ?_)
  refine Cd.of (fun hlt => ?_) (fun hge => ?_)
  · have hlt' : a < M.cells.length := ltN_iff.1 hlt
    obtain ⟨h1, h2, s1, s2, d, ⟨bp, bl, tr, ⟨hn1, hf⟩, hin⟩, hR⟩ := hs0.opens Pull.here
    have hs1 := Sat.merge s1 s2 d hin hR
    simp only [List.cons_append, List.nil_append] at hs1
    repeat (first | refine run ?_ | refine Cd.t rfl ?_ | refine Cd.f rfl ?_ | refine Cd.t (by decide +kernel) ?_ | refine Cd.f (by decide +kernel) ?_ | refine Sc.mk rfl ?_ | refine ld (by assumption) rfl ?_ | refine nw (by assumption) fun _ _ _ => ?_ | refine stB (by assumption) rfl rfl fun _ _ => ?_)
    refine Mth.of (f := 231) (rc := ptr bp 0) (by kernel_rfl) (by kernel_rfl) ?_
    refine plainStore_ok hc hs1 hlt' (by simp) fun H1 h => ?_
    rw [← List.map_set] at h
    have hs2 : Sat (MemP m (M.put a x) :: ViewAt p m th n :: R2) H1 := Sat.close (L1 := [_, _, _, _]) (h.ent (by repeat (first | exact Ent.refl _ | exact Ent.none | apply Ent.cons (by repeat (first | exact Pull.here | apply Pull.there)) | refine Ent.drop ?_))) fun g a => ⟨bp, bl, tr, ⟨by rw [put_len]; exact hn1, by rw [put_len]; exact hf⟩, by rw [put_len]; exact a⟩
    refine note_ok (M := M.put a x) (c := accSt 0 a x) (v0 := snil) hc hs2.nil (by repeat (first | exact Pull.here | apply Pull.there)) (by repeat (first | exact Pull.here | apply Pull.there)) (by repeat (first | exact Pull.here | apply Pull.there)) hn ht rfl fun H1 h => ?_
    exact k _ h
  · have hge' : M.cells.length ≤ a := by
      rcases Nat.lt_or_ge a M.cells.length with h | h
      · rw [ltN_t h] at hge; cases hge
      · exact h
    refine note_ok (c := accSt 0 a x) (v0 := snil) hc hs0.nil (by repeat (first | exact Pull.here | apply Pull.there)) (by repeat (first | exact Pull.here | apply Pull.there)) (by repeat (first | exact Pull.here | apply Pull.there)) hn ht rfl fun H1 h => ?_
    refine k _ ?_
    unfold Mem.store
    rw [put_oob hge']
    exact h

theorem plainCas_ok (hc : Con con lives) {L : List HP} {H : CH} {b x c n a y z v : Nat} {f : Value} {cs : List Value} {F : List Value → List HP} {K : KP} (hs : Sat L H) [HasCell L b [slc x 0 n c, f]] [HasObj L x cs F] [HasCell L x cs] (ha : a < n) (hn : n = cs.length) (hv : cs[a]? = some (u64 v))
    (k : v ≠ y → K (.bool false) H) (k2 : v = y → ∀ H1, Sat (F (cs.set a (u64 z))) H1 → K (.bool true) H1) : Call1 Try.prog con 226 [ptr b 0, u64 a, u64 y, u64 z] H K := by
  refine call_of (hc _ _ _ rfl) ?_
  rw [plainCas_W]
  repeat (first | refine run ?_ | refine Cd.t rfl ?_ | refine Cd.f rfl ?_ | refine Cd.t (by decide +kernel) ?_ | refine Cd.f (by decide +kernel) ?_ | refine Sc.mk rfl ?_ | refine ld (by assumption) rfl ?_ | refine nw (by assumption) fun _ _ _ => ?_ | refine stB (by assumption) rfl rfl fun _ _ => ?_)
  refine Must.mk (ltN_t ha) (ld hs (by rw [off1]; exact hv) ?_)
  repeat (first | refine run ?_ | refine Cd.t rfl ?_ | refine Cd.f rfl ?_ | refine Cd.t (by decide +kernel) ?_ | refine Cd.f (by decide +kernel) ?_ | refine Sc.mk rfl ?_ | refine ld (by assumption) rfl ?_ | refine nw (by assumption) fun _ _ _ => ?_ | refine stB (by assumption) rfl rfl fun _ _ => ?_)
  by_cases e : v = y
  · refine Cd.f (by rw [eqN_t e]; rfl) ?_
    repeat (first | refine run ?_ | refine Cd.t rfl ?_ | refine Cd.f rfl ?_ | refine Cd.t (by decide +kernel) ?_ | refine Cd.f (by decide +kernel) ?_ | refine Sc.mk rfl ?_ | refine ld (by assumption) rfl ?_ | refine nw (by assumption) fun _ _ _ => ?_ | refine stB (by assumption) rfl rfl fun _ _ => ?_)
    refine Must.mk (ltN_t ha) (st hs (by rw [off1]; omega) rfl fun H1 h => k2 e H1 ?_)
    rw [off1] at h
    exact h
  · exact Cd.t (by rw [eqN_f e]; rfl) (k e)

theorem viewCas_ok (hc : Con con lives) {L R1 R2 : List HP} {H : CH} {p m n a x y : Nat} {th : Int} {M : Mem} {K : KP} (hs : Sat L H) (hm : Pull L (MemP m M) R1) (hv : Pull R1 (ViewAt p m th n) R2)
    (hn : n < 1000000000) (ht : M.tr.length < 1000000000) (k : ∀ H1, Sat (MemP m (M.cas th a x y) :: ViewAt p m th (n + 1) :: R2) H1 → K (.bool (M.swaps a x)) H1) : Call1 Try.prog con 109 [ptr p 0, u64 a, u64 x, u64 y] H K := by
  refine call_of (hc _ _ _ rfl) ?_
  rw [viewCas_W]
  have hs0 := hs.takes (.cons hm (.cons hv .nil))
  simp only [List.cons_append, List.nil_append] at hs0
  repeat (first | refine run ?_ | refine Cd.t rfl ?_ | refine Cd.f rfl ?_ | refine Cd.t (by decide +kernel) ?_ | refine Cd.f (by decide +kernel) ?_ | refine Sc.mk rfl ?_ | refine ld (by assumption) rfl ?_ | refine nw (by assumption) fun _ _ _ => ?_ | refine stB (by assumption) rfl rfl fun _ _ => ?_)
  refine memHas_ok hc hs0 (by repeat (first | exact Pull.here | apply Pull.there)) ?_
  repeat (first | refine run ?_ | refine Cd.t rfl ?_ | refine Cd.f rfl ?_ | refine Cd.t (by decide +kernel) ?_ | refine Cd.f (by decide +kernel) ?_ | refine Sc.mk rfl ?_ | refine ld (by assumption) rfl ?_ | refine nw (by assumption) fun _ _ _ => ?_ | refine stB (by assumption) rfl rfl fun _ _ => ?_)
  refine Cd.of (fun hlt => ?_) (fun hge => ?_)
  · have hlt' : a < M.cells.length := ltN_iff.1 hlt
    obtain ⟨h1, h2, s1, s2, d, ⟨bp, bl, tr, ⟨hn1, hf⟩, hin⟩, hR⟩ := hs0.opens Pull.here
    have hs1 := Sat.merge s1 s2 d hin hR
    simp only [List.cons_append, List.nil_append] at hs1
    repeat (first | refine run ?_ | refine Cd.t rfl ?_ | refine Cd.f rfl ?_ | refine Cd.t (by decide +kernel) ?_ | refine Cd.f (by decide +kernel) ?_ | refine Sc.mk rfl ?_ | refine ld (by assumption) rfl ?_ | refine nw (by assumption) fun _ _ _ => ?_ | refine stB (by assumption) rfl rfl fun _ _ => ?_)
    refine Mth.of (f := 226) (rc := ptr bp 0) (by kernel_rfl) (by kernel_rfl) ?_
    refine plainCas_ok hc hs1 hlt' (by simp) (map_get _ hlt') (fun hne => ?_) (fun he H1 h => ?_)
    · have e : M.swaps a x = false := by unfold Mem.swaps Mem.peek; rw [decide_eq_false hne, Bool.and_false]
      repeat (first | refine run ?_ | refine Cd.t rfl ?_ | refine Cd.f rfl ?_ | refine Cd.t (by decide +kernel) ?_ | refine Cd.f (by decide +kernel) ?_ | refine Sc.mk rfl ?_ | refine ld (by assumption) rfl ?_ | refine nw (by assumption) fun _ _ _ => ?_ | refine stB (by assumption) rfl rfl fun _ _ => ?_)
      refine note_ok (c := accCas 0 a x y false) (v0 := snil) hc hs0.nil (by repeat (first | exact Pull.here | apply Pull.there)) (by repeat (first | exact Pull.here | apply Pull.there)) (by repeat (first | exact Pull.here | apply Pull.there)) hn ht rfl fun H1 h => ?_
      have e2 : M.cas th a x y = M.note { accCas 0 a x y false with th := th } := by unfold Mem.cas; rw [e]; rfl
      rw [← e2] at h
      rw [← e]
      exact k _ h
    · have e : M.swaps a x = true := by unfold Mem.swaps Mem.peek; rw [decide_eq_true hlt', decide_eq_true he]; rfl
      rw [← List.map_set] at h
      have hs2 : Sat (MemP m (M.put a y) :: ViewAt p m th n :: R2) H1 := Sat.close (L1 := [_, _, _, _]) (h.ent (by repeat (first | exact Ent.refl _ | exact Ent.none | apply Ent.cons (by repeat (first | exact Pull.here | apply Pull.there)) | refine Ent.drop ?_))) fun g a => ⟨bp, bl, tr, ⟨by rw [put_len]; exact hn1, by rw [put_len]; exact hf⟩, by rw [put_len]; exact a⟩
      repeat (first | refine run ?_ | refine Cd.t rfl ?_ | refine Cd.f rfl ?_ | refine Cd.t (by decide +kernel) ?_ | refine Cd.f (by decide +kernel) ?_ | refine Sc.mk rfl ?_ | refine ld (by assumption) rfl ?_ | refine nw (by assumption) fun _ _ _ => ?_ | refine stB (by assumption) rfl rfl fun _ _ => ?_)
      refine note_ok (M := M.put a y) (c := accCas 0 a x y true) (v0 := snil) hc hs2.nil (by repeat (first | exact Pull.here | apply Pull.there)) (by repeat (first | exact Pull.here | apply Pull.there)) (by repeat (first | exact Pull.here | apply Pull.there)) hn ht rfl fun H1 h => ?_
      have e2 : M.cas th a x y = (M.put a y).note { accCas 0 a x y true with th := th } := by unfold Mem.cas; rw [e]; rfl
      rw [← e2] at h
      rw [← e]
      exact k _ h
  · have hge' : M.cells.length ≤ a := by
      rcases Nat.lt_or_ge a M.cells.length with h | h
      · rw [ltN_t h] at hge; cases hge
      · exact h
    have e : M.swaps a x = false := by unfold Mem.swaps; rw [decide_eq_false (by omega)]; rfl
    refine note_ok (c := accCas 0 a x y false) (v0 := snil) hc hs0.nil (by repeat (first | exact Pull.here | apply Pull.there)) (by repeat (first | exact Pull.here | apply Pull.there)) (by repeat (first | exact Pull.here | apply Pull.there)) hn ht rfl fun H1 h => ?_
    have e2 : M.cas th a x y = M.note { accCas 0 a x y false with th := th } := by unfold Mem.cas; rw [e]; rfl
    rw [← e2] at h
    rw [← e]
    exact k _ h

theorem memView_ok (hc : Con con lives) {L : List HP} {H : CH} {m : Nat} {th : Int} {K : KP} (hs : Sat L H) (k : ∀ p H1, Sat (ViewAt p m th 0 :: L) H1 → K (ptr p 0) H1) : Call1 Try.prog con 22 [ptr m 0, i64 th] H K := by
  refine call_of (hc _ _ _ rfl) ?_
  rw [memView_W]
  exact nw hs k

def mem0 (n : Nat) : Mem := { cells := List.replicate n 0, free := 1, tr := [] }

theorem zero_u : (zeroOf Try.prog tU).map cellsF = some [u64 0] := by kernel_rfl
theorem rep_u (n : Nat) : (List.replicate n [u64 0]).flatten = (List.replicate n 0).map u64 := by
  induction n with
  | zero => rfl
  | succ n ih => rw [List.replicate_succ, List.replicate_succ, List.flatten_cons, List.map_cons, ih]; rfl

theorem nilTrace {L : List HP} {H : CH} (hs : Sat L H) : Sat (TrAt snil tA [] :: L) H := hs.nilT

theorem arenaNew_ok (hc : Con con lives) {L : List HP} {H : CH} {n : Nat} {K : KP} (hs : Sat L H) (h1 : 128 ≤ n) (h2 : n ≤ 4194304) (k : ∀ m H1, Sat (MemP m (mem0 n) :: L) H1 → K (.tuple ⟨[ptr m 0, iN 0]⟩) H1) : Call1 Try.prog con 20 [iN n, .bool false] H K := by
  refine call_of (hc _ _ _ rfl) ?_
  rw [arenaNew_W]
  refine Cd.f (ltZ_f (by omega)) ?_
  refine Cd.f (ltZ_f (by omega)) ?_
  repeat (first | refine run ?_ | refine Cd.t rfl ?_ | refine Cd.f rfl ?_ | refine Cd.t (by decide +kernel) ?_ | refine Cd.f (by decide +kernel) ?_ | refine Sc.mk rfl ?_ | refine ld (by assumption) rfl ?_ | refine nw (by assumption) fun _ _ _ => ?_ | refine stB (by assumption) rfl rfl fun _ _ => ?_)
  refine mkS hs el_u64 zero_u (Nat.le_refl n) (by omega) (by omega) fun b H1 h => ?_
  rw [rep_u] at h
  refine Sc.mk rfl ?_
  refine nw h fun bp H2 h2 => nw h2 fun m H3 h3 => ?_
  refine k _ _ (Sat.close (L1 := [Own m [.iface tPl (ptr bp 0), .bool false, snil], Own bp [slc b 0 n n, iN 1], Row b tU 0 true ((List.replicate n 0).map u64), TrAt snil tA []]) (Sat.ent (Sat.nilT (e := tA) h3) (by repeat (first | exact Ent.refl _ | exact Ent.none | apply Ent.cons (by repeat (first | exact Pull.here | apply Pull.there)) | refine Ent.drop ?_))) fun g a => ⟨bp, b, snil, ⟨by simp [mem0]; omega, by simp [mem0]; omega⟩, by simpa only [mem0, List.length_replicate] using a⟩)

theorem refNew_ok (hc : Con con lives) {L : List HP} {H : CH} {n : Nat} {K : KP} (hs : Sat L H) (h1 : 128 ≤ n) (h2 : n ≤ 4194304) (k : ∀ m H1, Sat (RefP m (mem0 n) :: L) H1 → K (.tuple ⟨[ptr m 0, iN 0]⟩) H1) : Call1 Try.prog con 21 [iN n, .bool false] H K := by
  refine call_of (hc _ _ _ rfl) ?_
  rw [refNew_W]
  refine Cd.f (ltZ_f (by omega)) ?_
  refine Cd.f (ltZ_f (by omega)) ?_
  refine mkS hs el_u64 zero_u (Nat.le_refl n) (by omega) (by omega) fun b H1 h => ?_
  rw [rep_u] at h
  refine Sc.mk rfl ?_
  refine nw h fun m H3 h3 => ?_
  refine k _ _ (Sat.close (L1 := [Own m [slc b 0 n n, iN 1, snil, .bool false], Row b tU 0 true ((List.replicate n 0).map u64), TrAt snil tA []]) (Sat.ent (Sat.nilT (e := tA) h3) (by repeat (first | exact Ent.refl _ | exact Ent.none | apply Ent.cons (by repeat (first | exact Pull.here | apply Pull.there)) | refine Ent.drop ?_))) fun g a => ⟨b, snil, ⟨by simp [mem0]; omega, by simp [mem0]; omega⟩, by simpa only [mem0, List.length_replicate] using a⟩)

theorem refPeek_ok (hc : Con con lives) {L R : List HP} {H : CH} {m a : Nat} {M : Mem} {K : KP} (hs : Sat L H) (hp : Pull L (RefP m M) R) (k : K (u64 (M.peek a)) H) : Call1 Try.prog con 126 [ptr m 0, u64 a] H K := by
  refine call_of (hc _ _ _ rfl) ?_
  rw [refPeek_W]
  obtain ⟨h1, h2, s1, s2, d, ⟨bl, tr, ⟨hn, hf⟩, hin⟩, hR⟩ := hs.opens hp
  have hs1 := Sat.merge s1 s2 d hin hR
  simp only [List.cons_append, List.nil_append] at hs1
  repeat (first | refine run ?_ | refine Cd.t rfl ?_ | refine Cd.f rfl ?_ | refine Cd.t (by decide +kernel) ?_ | refine Cd.f (by decide +kernel) ?_ | refine Sc.mk rfl ?_ | refine ld (by assumption) rfl ?_ | refine nw (by assumption) fun _ _ _ => ?_ | refine stB (by assumption) rfl rfl fun _ _ => ?_)
  refine Must.mk (cv_small (by omega)) ?_
  rw [wrapN_small (by omega)]
  by_cases h : a < M.cells.length
  · refine Cd.f (leN_f h) ?_
    repeat (first | refine run ?_ | refine Cd.t rfl ?_ | refine Cd.f rfl ?_ | refine Cd.t (by decide +kernel) ?_ | refine Cd.f (by decide +kernel) ?_ | refine Sc.mk rfl ?_ | refine ld (by assumption) rfl ?_ | refine nw (by assumption) fun _ _ _ => ?_ | refine stB (by assumption) rfl rfl fun _ _ => ?_)
    refine Must.mk (ltN_t h) (ld hs1 (by rw [off1]; exact map_get _ h) k)
  · refine Cd.t (leN_t (by omega)) ?_
    have e : M.peek a = 0 := by unfold Mem.peek; rw [List.getD_eq_getElem?_getD, List.getElem?_eq_none (by omega)]; rfl
    rw [e] at k
    exact k

theorem refSet_ok (hc : Con con lives) {L R : List HP} {H : CH} {m a x : Nat} {M : Mem} {K : KP} (hs : Sat L H) (hp : Pull L (RefP m M) R) (k : ∀ H1, Sat (RefP m (M.put a x) :: R) H1 → K unit H1) : Call1 Try.prog con 85 [ptr m 0, u64 a, u64 x] H K := by
  refine call_of (hc _ _ _ rfl) ?_
  rw [refSet_W]
  obtain ⟨h1, h2, s1, s2, d, ⟨bl, tr, ⟨hn, hf⟩, hin⟩, hR⟩ := hs.opens hp
  have hs1 := Sat.merge s1 s2 d hin hR
  simp only [List.cons_append, List.nil_append] at hs1
  repeat (first | refine run ?_ | refine Cd.t rfl ?_ | refine Cd.f rfl ?_ | refine Cd.t (by decide +kernel) ?_ | refine Cd.f (by decide +kernel) ?_ | refine Sc.mk rfl ?_ | refine ld (by assumption) rfl ?_ | refine nw (by assumption) fun _ _ _ => ?_ | refine stB (by assumption) rfl rfl fun _ _ => ?_)
  refine Must.mk (cv_small (by omega)) ?_
  rw [wrapN_small (by omega)]
  by_cases h : a < M.cells.length
  · refine Cd.t (ltN_t h) ?_
    repeat (first | refine run ?_ | refine Cd.t rfl ?_ | refine Cd.f rfl ?_ | refine Cd.t (by decide +kernel) ?_ | refine Cd.f (by decide +kernel) ?_ | refine Sc.mk rfl ?_ | refine ld (by assumption) rfl ?_ | refine nw (by assumption) fun _ _ _ => ?_ | refine stB (by assumption) rfl rfl fun _ _ => ?_)
    refine Must.mk (ltN_t h) (st hs1 (by rw [off1]; simpa using h) rfl fun H1 h3 => k H1 ?_)
    rw [off1, ← List.map_set] at h3
    exact Sat.close (L1 := [_, _, _]) (h3.ent (by repeat (first | exact Ent.refl _ | exact Ent.none | apply Ent.cons (by repeat (first | exact Pull.here | apply Pull.there)) | refine Ent.drop ?_))) fun g a => ⟨bl, tr, ⟨by rw [put_len]; exact hn, by rw [put_len]; exact hf⟩, by rw [put_len]; exact a⟩
  · refine Cd.f (ltN_f (by omega)) (k H ?_)
    rw [put_oob (by omega)]
    exact hs.pull hp

theorem refNote_ok (hc : Con con lives) {L R2 R3 : List HP} {H : CH} {m : Nat} {M : Mem} {v0 : Value} {c : Acs} {K : KP} (hs : Sat L H) (hm' : Pull L (RefP m M) R2) (hq : Pull R2 (Nums v0 c.vals) R3)
    (ht : M.tr.length < 1000000000) (hv0 : isCell v0 = true) (k : ∀ H1, Sat (RefP m (M.note c) :: R3) H1 → K unit H1) :
    Call1 Try.prog con 86 [ptr m 0, .agg ⟨[i64 c.th, u8 c.kind, u64 c.a, u64 c.x, u64 c.y, v0, u64 c.got, .bool c.ok]⟩] H K := by
  refine call_of (hc _ _ _ rfl) ?_
  rw [refNote_W]
  have hs0 := hs.takes (.cons hm' (.cons hq .nil))
  simp only [List.cons_append, List.nil_append] at hs0
  obtain ⟨h1, h2, s1, s2, d, ⟨bl, tr, ⟨hn1, hf⟩, hin⟩, hR⟩ := hs0.opens Pull.here
  have hs1 := Sat.merge s1 s2 d hin hR
  simp only [List.cons_append, List.nil_append] at hs1
  obtain ⟨g1, g2, t1, t2, d2, hT, _⟩ := hs1.opens (A := TrAt tr tA M.tr) (.there (.there .here))
  obtain ⟨q, rfl⟩ := hT.shape
  repeat (first | refine run ?_ | refine Cd.t rfl ?_ | refine Cd.f rfl ?_ | refine Cd.t (by decide +kernel) ?_ | refine Cd.f (by decide +kernel) ?_ | refine Sc.mk rfl ?_ | refine ld (by assumption) rfl ?_ | refine nw (by assumption) fun _ _ _ => ?_ | refine stB (by assumption) rfl rfl fun _ _ => ?_)
  refine app_trace (c := c) (v0 := v0) (by assumption) (by repeat (first | exact Pull.here | apply Pull.there)) (by repeat (first | exact Pull.here | apply Pull.there)) el_acc (by omega) sl_acc hv0 ht (fun q H1 hs2 => ?_)
  repeat (first | refine run ?_ | refine Cd.t rfl ?_ | refine Cd.f rfl ?_ | refine Cd.t (by decide +kernel) ?_ | refine Cd.f (by decide +kernel) ?_ | refine Sc.mk rfl ?_ | refine ld (by assumption) rfl ?_ | refine nw (by assumption) fun _ _ _ => ?_ | refine stB (by assumption) rfl rfl fun _ _ => ?_)
  refine k _ (Sat.close (L1 := [_, _, _]) (Sat.ent (by assumption) (by repeat (first | exact Ent.refl _ | exact Ent.none | apply Ent.cons (by repeat (first | exact Pull.here | apply Pull.there)) | refine Ent.drop ?_))) fun g a => ⟨bl, _, ⟨hn1, hf⟩, a⟩)

theorem refLoad_ok (hc : Con con lives) {L R1 : List HP} {H : CH} {m a : Nat} {th : Int} {M : Mem} {K : KP} (hs : Sat L H) (hm : Pull L (RefP m M) R1)
    (ht : M.tr.length < 1000000000) (k : ∀ H1, Sat (RefP m (M.load th a) :: R1) H1 → K (u64 (M.peek a)) H1) : Call1 Try.prog con 88 [ptr m 0, i64 th, u64 a] H K := by
  refine call_of (hc _ _ _ rfl) ?_
  rw [refLoad_W]
  have hs0 := hs.pull hm
  refine refPeek_ok hc hs0 (by repeat (first | exact Pull.here | apply Pull.there)) ?_
  repeat (first | refine run ?_ | refine Cd.t rfl ?_ | refine Cd.f rfl ?_ | refine Cd.t (by decide +kernel) ?_ | refine Cd.f (by decide +kernel) ?_ | refine Sc.mk rfl ?_ | refine ld (by assumption) rfl ?_ | refine nw (by assumption) fun _ _ _ => ?_ | refine stB (by assumption) rfl rfl fun _ _ => ?_)
  refine refNote_ok (c := accLd th a (M.peek a)) (v0 := snil) hc hs0.nil (by repeat (first | exact Pull.here | apply Pull.there)) (by repeat (first | exact Pull.here | apply Pull.there)) ht rfl fun H1 h => ?_
  exact k _ h

theorem refStore_ok (hc : Con con lives) {L R1 : List HP} {H : CH} {m a x : Nat} {th : Int} {M : Mem} {K : KP} (hs : Sat L H) (hm : Pull L (RefP m M) R1)
    (ht : M.tr.length < 1000000000) (k : ∀ H1, Sat (RefP m (M.store th a x) :: R1) H1 → K unit H1) : Call1 Try.prog con 24 [ptr m 0, i64 th, u64 a, u64 x] H K := by
  refine call_of (hc _ _ _ rfl) ?_
  rw [refStore_W]
  have hs0 := hs.pull hm
  refine refSet_ok hc hs0 (by repeat (first | exact Pull.here | apply Pull.there)) fun H1 h => ?_
  refine refNote_ok (M := M.put a x) (c := accSt th a x) (v0 := snil) hc h.nil (by repeat (first | exact Pull.here | apply Pull.there)) (by repeat (first | exact Pull.here | apply Pull.there)) ht rfl fun H1 h => ?_
  exact k _ h
end Go.Proofs.Ytipbbnoepphdkaa

set_option linter.unusedVariables false
set_option linter.unusedSimpArgs false
namespace Go.Proofs.Ytipbbnoepphdkaa
open Go Go.CM
attribute [local irreducible] AsBool AsWant AsNat AsInt AsCnt AsPtr AsSlc AsLen AsStr AsAgg AsTup AsFn AsIfc Nth Sc NotNil IsNil Must Cd codeW funW Sat SatL wrapN subM mkRow ltZ leZ ltN leN
variable {con : CallT}


theorem cloneN_ok (hc : Con con lives) {L : List HP} {H : CH} {v : Value} {l : List Nat} {K : KP} (hs : Sat L H) (hq : Has L (Nums v l)) (hl : l.length ≤ 1000000000) (k : ∀ v' H1, isCell v' = true → Sat (Nums v' l :: L) H1 → K v' H1) : Call1 Try.prog con 87 [v] H K := by
  refine call_of (hc _ _ _ rfl) ?_
  rw [cloneN_W]
  rcases (hs.has hq).shape with ⟨rfl, rfl⟩ | ⟨b, o, c, rfl⟩
  · repeat (first | refine run ?_ | refine Cd.t rfl ?_ | refine Cd.f rfl ?_ | refine Cd.t (by decide +kernel) ?_ | refine Cd.f (by decide +kernel) ?_ | refine Sc.mk rfl ?_ | refine ld (by assumption) rfl ?_ | refine nw (by assumption) fun _ _ _ => ?_ | refine stB (by assumption) rfl rfl fun _ _ => ?_)
    exact k _ _ rfl hs.nil
  · refine IsNil.slc (Cd.f rfl ?_)
    refine nwR hs fun p H1 h1 => ?_
    rcases Nat.eq_zero_or_pos l.length with h0 | hpos
    · have hl0 : l = [] := List.eq_nil_of_length_eq_zero h0
      subst hl0
      refine app_none h1 el_u64 sl_u64 (Src.skip (hq.src rfl)) ?_
      exact k _ _ rfl (h1.imp fun g r => .inr ⟨p, 0, 0, tU, 0, true, [], rfl, Nat.le_refl _, Nat.le_refl _, rfl, r⟩)
    · refine app_clone (new := l.map fun x => [u64 x]) h1 el_u64 (by omega) sl_u64 (by rw [flat1]; exact hq.src rfl) (by simp) (by simp) hl hpos fun v' H2 h2 => ?_
      have h3 : Sat (Nums v' l :: L) H2 := h2.imp fun g a => a.nums
      refine k _ _ ?_ h3
      obtain ⟨p, c, rfl⟩ := (h3.has Has.nums).len
      rfl

/-- Two accesses that are the same. -/
theorem sameAccess_ok (hc : Con con lives) {L : List HP} {H : CH} {v w : Value} {c : Acs} {K : KP} (hs : Sat L H) (hv : Has L (Nums v c.vals)) (hw : Has L (Nums w c.vals)) (hl : c.vals.length ≤ 1000000000) (k : ∀ H1, Sat L H1 → K (.bool true) H1) :
    Call1 Try.prog con 91 [.agg ⟨encA c v⟩, .agg ⟨encA c w⟩] H K := by
  refine call_of (hc _ _ _ rfl) ?_
  unfold encA
  rw [sameAccess_W]
  obtain ⟨pv, cv, rfl⟩ := (hs.has hv).len
  obtain ⟨pw, cw, rfl⟩ := (hs.has hw).len
  refine nw hs fun p1 H1 h1 => nw h1 fun p3 H2 h2 => ?_
  repeat (first | refine run ?_ | refine Cd.t rfl ?_ | refine Cd.f rfl ?_ | refine Cd.t (by decide +kernel) ?_ | refine Cd.f (by decide +kernel) ?_ | refine Sc.mk rfl ?_ | refine ld (by assumption) rfl ?_ | refine nw (by assumption) fun _ _ _ => ?_ | refine stB (by assumption) rfl rfl fun _ _ => ?_)
  refine Cd.f (by rw [eqZ_self]; rfl) ?_
  repeat (first | refine run ?_ | refine Cd.t rfl ?_ | refine Cd.f rfl ?_ | refine Cd.t (by decide +kernel) ?_ | refine Cd.f (by decide +kernel) ?_ | refine Sc.mk rfl ?_ | refine ld (by assumption) rfl ?_ | refine nw (by assumption) fun _ _ _ => ?_ | refine stB (by assumption) rfl rfl fun _ _ => ?_)
  refine Cd.f (by rw [eqN_self]; rfl) ?_
  repeat (first | refine run ?_ | refine Cd.t rfl ?_ | refine Cd.f rfl ?_ | refine Cd.t (by decide +kernel) ?_ | refine Cd.f (by decide +kernel) ?_ | refine Sc.mk rfl ?_ | refine ld (by assumption) rfl ?_ | refine nw (by assumption) fun _ _ _ => ?_ | refine stB (by assumption) rfl rfl fun _ _ => ?_)
  refine Cd.f (by rw [eqN_self]; rfl) ?_
  repeat (first | refine run ?_ | refine Cd.t rfl ?_ | refine Cd.f rfl ?_ | refine Cd.t (by decide +kernel) ?_ | refine Cd.f (by decide +kernel) ?_ | refine Sc.mk rfl ?_ | refine ld (by assumption) rfl ?_ | refine nw (by assumption) fun _ _ _ => ?_ | refine stB (by assumption) rfl rfl fun _ _ => ?_)
  refine Cd.f (by rw [eqN_self]; rfl) ?_
  repeat (first | refine run ?_ | refine Cd.t rfl ?_ | refine Cd.f rfl ?_ | refine Cd.t (by decide +kernel) ?_ | refine Cd.f (by decide +kernel) ?_ | refine Sc.mk rfl ?_ | refine ld (by assumption) rfl ?_ | refine nw (by assumption) fun _ _ _ => ?_ | refine stB (by assumption) rfl rfl fun _ _ => ?_)
  refine Cd.f (by rw [eqN_self]; rfl) ?_
  repeat (first | refine run ?_ | refine Cd.t rfl ?_ | refine Cd.f rfl ?_ | refine Cd.t (by decide +kernel) ?_ | refine Cd.f (by decide +kernel) ?_ | refine Sc.mk rfl ?_ | refine ld (by assumption) rfl ?_ | refine nw (by assumption) fun _ _ _ => ?_ | refine stB (by assumption) rfl rfl fun _ _ => ?_)
  refine Cd.f (by rw [eqN_self]; rfl) ?_
  repeat (first | refine run ?_ | refine Cd.t rfl ?_ | refine Cd.f rfl ?_ | refine Cd.t (by decide +kernel) ?_ | refine Cd.f (by decide +kernel) ?_ | refine Sc.mk rfl ?_ | refine ld (by assumption) rfl ?_ | refine nw (by assumption) fun _ _ _ => ?_ | refine stB (by assumption) rfl rfl fun _ _ => ?_)
  refine Cd.f (by rw [eqB_self]; rfl) ?_
  repeat (first | refine run ?_ | refine Cd.t rfl ?_ | refine Cd.f rfl ?_ | refine Cd.t (by decide +kernel) ?_ | refine Cd.f (by decide +kernel) ?_ | refine Sc.mk rfl ?_ | refine ld (by assumption) rfl ?_ | refine nw (by assumption) fun _ _ _ => ?_ | refine stB (by assumption) rfl rfl fun _ _ => ?_)
  refine Cd.f (by rw [eqZ_self]; rfl) ?_
  refine LoopC.ind (n := 100) (by kernel_rfl) (fun (i : Nat) σ H => σ 2 = ptr p1 0 ∧ σ 3 = ptr p3 0 ∧ σ 5 = iN i ∧ i ≤ c.vals.length ∧ H = H2) (fun i => c.vals.length - i) (fun i σ H hI => ?_) 0 _ _ ⟨rfl, rfl, rfl, Nat.zero_le _, rfl⟩
  obtain ⟨e2, e3, e5, hi, rfl⟩ := hI
  rw [sameAccessL_W]
  simp only [e2, e3, e5]
  repeat (first | refine run ?_ | refine Cd.t rfl ?_ | refine Cd.f rfl ?_ | refine Cd.t (by decide +kernel) ?_ | refine Cd.f (by decide +kernel) ?_ | refine Sc.mk rfl ?_ | refine ld (by assumption) rfl ?_ | refine nw (by assumption) fun _ _ _ => ?_ | refine stB (by assumption) rfl rfl fun _ _ => ?_)
  rcases Nat.lt_or_ge i c.vals.length with hlt | hge
  · refine Cd.t (ltZ_t (by omega)) ?_
    rcases (hs.has hv).shape with ⟨h3, h4⟩ | ⟨b, o, c', h3⟩
    · rw [h4] at hlt; simp at hlt
    rcases (hs.has hw).shape with ⟨h5, h6⟩ | ⟨b', o', c'', h5⟩
    · rw [h6] at hlt; simp at hlt
    cases h3
    cases h5
    repeat (first | refine run ?_ | refine Cd.t rfl ?_ | refine Cd.f rfl ?_ | refine Cd.t (by decide +kernel) ?_ | refine Cd.f (by decide +kernel) ?_ | refine Sc.mk rfl ?_ | refine ld (by assumption) rfl ?_ | refine nw (by assumption) fun _ _ _ => ?_ | refine stB (by assumption) rfl rfl fun _ _ => ?_)
    refine Must.mk (ltN_t hlt) ?_
    refine ldSrc h2 (Src.skip (Src.skip (hv.src rfl))) (by rw [show Nat.mul i 1 = i from Nat.mul_one i]; rfl) (map_get _ hlt) ?_
    repeat (first | refine run ?_ | refine Cd.t rfl ?_ | refine Cd.f rfl ?_ | refine Cd.t (by decide +kernel) ?_ | refine Cd.f (by decide +kernel) ?_ | refine Sc.mk rfl ?_ | refine ld (by assumption) rfl ?_ | refine nw (by assumption) fun _ _ _ => ?_ | refine stB (by assumption) rfl rfl fun _ _ => ?_)
    refine Must.mk (ltN_t hlt) ?_
    refine ldSrc h2 (Src.skip (Src.skip (hw.src rfl))) (by rw [show Nat.mul i 1 = i from Nat.mul_one i]; rfl) (map_get _ hlt) ?_
    repeat (first | refine run ?_ | refine Cd.t rfl ?_ | refine Cd.f rfl ?_ | refine Cd.t (by decide +kernel) ?_ | refine Cd.f (by decide +kernel) ?_ | refine Sc.mk rfl ?_ | refine ld (by assumption) rfl ?_ | refine nw (by assumption) fun _ _ _ => ?_ | refine stB (by assumption) rfl rfl fun _ _ => ?_)
    refine Cd.f (by rw [eqN_self]; rfl) ?_
    repeat (first | refine run ?_ | refine Cd.t rfl ?_ | refine Cd.f rfl ?_ | refine Cd.t (by decide +kernel) ?_ | refine Cd.f (by decide +kernel) ?_ | refine Sc.mk rfl ?_ | refine ld (by assumption) rfl ?_ | refine nw (by assumption) fun _ _ _ => ?_ | refine stB (by assumption) rfl rfl fun _ _ => ?_)
    refine inR_nat (n := i + 1) (by omega) ?_
    show ∃ y, _ ∧ _
    exact ⟨i + 1, by omega, e2, e3, rfl, hlt, rfl⟩
  · refine Cd.f (ltZ_f (by omega)) ?_
    show Cd _ _ _
    refine Cd.t (eqN_self 0) ?_
    exact k _ h2.drop.drop

/-- Two traces that are the same; they are let go. -/
theorem sameTrace_ok (hc : Con con lives) {L R1 R2 : List HP} {H : CH} {x y : Value} {e e' : Nat} {l : List Acs} {K : KP} (hs : Sat L H) (hp : Pull L (TrAt x e l) R1) (hq : Pull R1 (TrAt y e' l) R2) (hl : l.length ≤ 1000000000) (hvl : ∀ a ∈ l, a.vals.length ≤ 1000000000) (k : ∀ H1, Sat R2 H1 → K (.bool true) H1) :
    Call1 Try.prog con 27 [x, y] H K := by
  refine call_of (hc _ _ _ rfl) ?_
  rw [sameTrace_W]
  have hs0 := hs.takes (.cons hp (.cons hq .nil))
  simp only [List.cons_append, List.nil_append] at hs0
  obtain ⟨h1, h2, s1, s2, d, ⟨vs, hvs, hva⟩, hR⟩ := hs0.opens Pull.here
  have hsa := Sat.merge s1 s2 d hva hR
  have hsb : Sat (TrAt y e' l :: (Vec x e 8 (List.zipWith encA l vs) :: valsL l vs ++ R2)) H := by
    refine hsa.pull ?_
    have pu : ∀ (L1 : List HP), Pull (L1 ++ (TrAt y e' l :: R2)) (TrAt y e' l) (L1 ++ R2) := fun L1 => by
      induction L1 with
      | nil => exact Pull.here
      | cons A L1 ih => exact Pull.there ih
    exact pu _
  obtain ⟨g1, g2, t1, t2, d2, ⟨ws, hws, hb⟩, hR2⟩ := hsb.opens Pull.here
  have hs1 := Sat.merge t1 t2 d2 hb hR2
  have hV : Has (Vec y e' 8 (List.zipWith encA l ws) :: valsL l ws ++ (Vec x e 8 (List.zipWith encA l vs) :: valsL l vs ++ R2)) (Vec x e 8 (List.zipWith encA l vs)) := Has.app Has.vec
  have hW : Has (Vec y e' 8 (List.zipWith encA l ws) :: valsL l ws ++ (Vec x e 8 (List.zipWith encA l vs) :: valsL l vs ++ R2)) (Vec y e' 8 (List.zipWith encA l ws)) := Has.vec
  have hNv : ∀ (i : Nat) (c : Acs) (v : Value), l[i]? = some c → vs[i]? = some v → Has (Vec y e' 8 (List.zipWith encA l ws) :: valsL l ws ++ (Vec x e 8 (List.zipWith encA l vs) :: valsL l vs ++ R2)) (Nums v c.vals) := fun i c v h1 h2 => Has.app (Has.skip (Has.vals h1 h2))
  have hNw : ∀ (i : Nat) (c : Acs) (v : Value), l[i]? = some c → ws[i]? = some v → Has (Vec y e' 8 (List.zipWith encA l ws) :: valsL l ws ++ (Vec x e 8 (List.zipWith encA l vs) :: valsL l vs ++ R2)) (Nums v c.vals) := fun i c v h1 h2 => Has.skip (Has.vals h1 h2)
  have hend : ∀ {H1}, Sat (Vec y e' 8 (List.zipWith encA l ws) :: valsL l ws ++ (Vec x e 8 (List.zipWith encA l vs) :: valsL l vs ++ R2)) H1 → Sat R2 H1 := fun h => by
    have dr : ∀ (L1 : List HP) {R : List HP} {H : CH}, Sat (L1 ++ R) H → Sat R H := fun L1 => by
      induction L1 with
      | nil => exact fun h => h
      | cons A L1 ih => exact fun h => ih (Sat.drop h)
    exact dr _ (dr _ h)
  generalize (Vec y e' 8 (List.zipWith encA l ws) :: valsL l ws ++ (Vec x e 8 (List.zipWith encA l vs) :: valsL l vs ++ R2)) = L' at hs1 hV hW hNv hNw hend
  have lv : (List.zipWith encA l vs).length = l.length := by rw [List.length_zipWith, hvs, Nat.min_self]
  have lw : (List.zipWith encA l ws).length = l.length := by rw [List.length_zipWith, hws, Nat.min_self]
  obtain ⟨px, ex⟩ := (hs1.has hV).shape
  obtain ⟨py, ey⟩ := (hs1.has hW).shape
  rw [lv] at ex
  rw [lw] at ey
  subst ex; subst ey
  repeat (first | refine run ?_ | refine Cd.t rfl ?_ | refine Cd.f rfl ?_ | refine Cd.t (by decide +kernel) ?_ | refine Cd.f (by decide +kernel) ?_ | refine Sc.mk rfl ?_ | refine ld (by assumption) rfl ?_ | refine nw (by assumption) fun _ _ _ => ?_ | refine stB (by assumption) rfl rfl fun _ _ => ?_)
  refine Cd.f (by rw [eqZ_self]; rfl) ?_
  refine LoopC.ind (n := 100) (by kernel_rfl) (fun (i : Nat) σ H => σ 0 = .slice px l.length l.length ∧ σ 1 = .slice py l.length l.length ∧ σ 5 = iN i ∧ i ≤ l.length ∧ Sat L' H) (fun i => l.length - i) (fun i σ H hI => ?_) 0 _ _ ⟨rfl, rfl, rfl, Nat.zero_le _, hs1⟩
  obtain ⟨e0, e1, e5, hi, hs2⟩ := hI
  rw [sameTraceL_W]
  simp only [e0, e1, e5]
  repeat (first | refine run ?_ | refine Cd.t rfl ?_ | refine Cd.f rfl ?_ | refine Cd.t (by decide +kernel) ?_ | refine Cd.f (by decide +kernel) ?_ | refine Sc.mk rfl ?_ | refine ld (by assumption) rfl ?_ | refine nw (by assumption) fun _ _ _ => ?_ | refine stB (by assumption) rfl rfl fun _ _ => ?_)
  rcases Nat.lt_or_ge i l.length with hlt | hge
  · refine Cd.t (ltZ_t (by omega)) ?_
    obtain ⟨a, ha⟩ : ∃ a, l[i]? = some a := ⟨_, List.getElem?_eq_getElem hlt⟩
    obtain ⟨v, hv⟩ : ∃ v, vs[i]? = some v := ⟨_, List.getElem?_eq_getElem (by omega)⟩
    obtain ⟨w, hw⟩ : ∃ w, ws[i]? = some w := ⟨_, List.getElem?_eq_getElem (by omega)⟩
    have hne : l ≠ [] := by rintro rfl; simp at hlt
    have ox : ∃ b, Value.slice px l.length l.length = slc b 0 l.length l.length := by
      rcases (hs2.has hV).2 with ⟨e1, e2⟩ | ⟨b, _, e2, _⟩
      · have e3 : l.length = 0 := by injection e1
        omega
      · rw [lv] at e2; exact ⟨b, e2⟩
    have oy : ∃ b, Value.slice py l.length l.length = slc b 0 l.length l.length := by
      rcases (hs2.has hW).2 with ⟨e1, e2⟩ | ⟨b, _, e2, _⟩
      · have e3 : l.length = 0 := by injection e1
        omega
      · rw [lw] at e2; exact ⟨b, e2⟩
    obtain ⟨bx, ox⟩ := ox
    obtain ⟨by_, oy⟩ := oy
    cases ox
    cases oy
    repeat (first | refine run ?_ | refine Cd.t rfl ?_ | refine Cd.f rfl ?_ | refine Cd.t (by decide +kernel) ?_ | refine Cd.f (by decide +kernel) ?_ | refine Sc.mk rfl ?_ | refine ld (by assumption) rfl ?_ | refine nw (by assumption) fun _ _ _ => ?_ | refine stB (by assumption) rfl rfl fun _ _ => ?_)
    refine Must.mk (ltN_t hlt) ?_
    refine ldTr hs2 hV rfl ha hv (j := 0) (by simp) (by omega) rfl ?_
    refine ldTr hs2 hV rfl ha hv (j := 1) (by simp) (by omega) rfl ?_
    refine ldTr hs2 hV rfl ha hv (j := 2) (by simp) (by omega) rfl ?_
    refine ldTr hs2 hV rfl ha hv (j := 3) (by simp) (by omega) rfl ?_
    refine ldTr hs2 hV rfl ha hv (j := 4) (by simp) (by omega) rfl ?_
    refine ldTr hs2 hV rfl ha hv (j := 5) (by simp) (by omega) rfl ?_
    refine ldTr hs2 hV rfl ha hv (j := 6) (by simp) (by omega) rfl ?_
    refine ldTr hs2 hV rfl ha hv (j := 7) (by simp) (by omega) rfl ?_
    repeat (first | refine run ?_ | refine Cd.t rfl ?_ | refine Cd.f rfl ?_ | refine Cd.t (by decide +kernel) ?_ | refine Cd.f (by decide +kernel) ?_ | refine Sc.mk rfl ?_ | refine ld (by assumption) rfl ?_ | refine nw (by assumption) fun _ _ _ => ?_ | refine stB (by assumption) rfl rfl fun _ _ => ?_)
    refine Must.mk (ltN_t hlt) ?_
    refine ldTr hs2 hW rfl ha hw (j := 0) (by simp) (by omega) rfl ?_
    refine ldTr hs2 hW rfl ha hw (j := 1) (by simp) (by omega) rfl ?_
    refine ldTr hs2 hW rfl ha hw (j := 2) (by simp) (by omega) rfl ?_
    refine ldTr hs2 hW rfl ha hw (j := 3) (by simp) (by omega) rfl ?_
    refine ldTr hs2 hW rfl ha hw (j := 4) (by simp) (by omega) rfl ?_
    refine ldTr hs2 hW rfl ha hw (j := 5) (by simp) (by omega) rfl ?_
    refine ldTr hs2 hW rfl ha hw (j := 6) (by simp) (by omega) rfl ?_
    refine ldTr hs2 hW rfl ha hw (j := 7) (by simp) (by omega) rfl ?_
    refine sameAccess_ok (c := a) hc hs2 (hNv i a v ha hv) (hNw i a w ha hw) (hvl a (List.mem_of_getElem? ha)) fun H3 h3 => ?_
    repeat (first | refine run ?_ | refine Cd.t rfl ?_ | refine Cd.f rfl ?_ | refine Cd.t (by decide +kernel) ?_ | refine Cd.f (by decide +kernel) ?_ | refine Sc.mk rfl ?_ | refine ld (by assumption) rfl ?_ | refine nw (by assumption) fun _ _ _ => ?_ | refine stB (by assumption) rfl rfl fun _ _ => ?_)
    refine inR_nat (n := i + 1) (by omega) ?_
    show ∃ y, _ ∧ _
    exact ⟨i + 1, by omega, e0, e1, rfl, hlt, h3⟩
  · refine Cd.f (ltZ_f (by omega)) ?_
    show Cd _ _ _
    refine Cd.t (eqN_self 0) ?_
    exact k _ (hend hs2)

theorem cloneA_ok (hc : Con con lives) {L : List HP} {H : CH} {v : Value} {e : Nat} {l : List (List Value)} {K : KP} (hs : Sat L H) (hq : Has L (Vec v e 8 l)) (hl : l.length ≤ 1000000000) (k : ∀ v' H1, Sat (Vec v' tA 8 l :: L) H1 → K v' H1) : Call1 Try.prog con 92 [v] H K := by
  refine call_of (hc _ _ _ rfl) ?_
  rw [cloneA_W]
  rcases (hs.has hq) with ⟨h8, ⟨rfl, rfl⟩ | ⟨b, h1, rfl, h3⟩⟩
  · repeat (first | refine run ?_ | refine Cd.t rfl ?_ | refine Cd.f rfl ?_ | refine Cd.t (by decide +kernel) ?_ | refine Cd.f (by decide +kernel) ?_ | refine Sc.mk rfl ?_ | refine ld (by assumption) rfl ?_ | refine nw (by assumption) fun _ _ _ => ?_ | refine stB (by assumption) rfl rfl fun _ _ => ?_)
    exact k _ _ (hs.nilV)
  · refine IsNil.slc (Cd.f rfl ?_)
    refine nwR hs fun p H1 h1 => ?_
    have hpos : 0 < l.length := by cases l with | nil => contradiction | cons _ _ => simp
    exact app_clone (new := l) h1 el_acc (by omega) sl_acc (hq.vecSrc rfl) rfl h8 hl hpos k

/-- A trace is told: a row of its own. -/
theorem memTrace_ok (hc : Con con lives) {L R : List HP} {H : CH} {m : Nat} {M : Mem} {K : KP} (hs : Sat L H) (hp : Pull L (MemP m M) R) (hl : M.tr.length ≤ 1000000000) (hvl : ∀ a ∈ M.tr, a.vals.length ≤ 1000000000)
    (k : ∀ x H1, Sat (TrAt x tA M.tr :: R) H1 → K x H1) : Call1 Try.prog con 28 [ptr m 0] H K := by
  refine call_of (hc _ _ _ rfl) ?_
  rw [memTrace_W]
  obtain ⟨h1, h2, s1, s2, d, ⟨bp, bl, tr, ⟨hn, hf⟩, hin⟩, hR⟩ := hs.opens hp
  have hs1 := Sat.merge s1 s2 d hin hR
  simp only [List.cons_append, List.nil_append] at hs1
  have hs2 : Sat (TrAt tr tA M.tr :: Own m [.iface tPl (ptr bp 0), .bool false, tr] :: R) H := hs1.ent (by repeat (first | exact Ent.refl _ | exact Ent.none | apply Ent.cons (by repeat (first | exact Pull.here | apply Pull.there)) | refine Ent.drop ?_))
  obtain ⟨g1, g2, t1, t2, d2, ⟨vs, hvs, hva⟩, hR2⟩ := hs2.opens Pull.here
  have hs3 := Sat.merge t1 t2 d2 hva hR2
  have hV : Has (Vec tr tA 8 (List.zipWith encA M.tr vs) :: valsL M.tr vs ++ (Own m [.iface tPl (ptr bp 0), .bool false, tr] :: R)) (Vec tr tA 8 (List.zipWith encA M.tr vs)) := Has.vec
  have hN : ∀ (i : Nat) (c : Acs) (v : Value), M.tr[i]? = some c → vs[i]? = some v → Has (Vec tr tA 8 (List.zipWith encA M.tr vs) :: valsL M.tr vs ++ (Own m [.iface tPl (ptr bp 0), .bool false, tr] :: R)) (Nums v c.vals) := fun i c v h1 h2 => Has.skip (Has.vals h1 h2)
  have hC : HasCell (Vec tr tA 8 (List.zipWith encA M.tr vs) :: valsL M.tr vs ++ (Own m [.iface tPl (ptr bp 0), .bool false, tr] :: R)) m [.iface tPl (ptr bp 0), .bool false, tr] := by
    have dr : ∀ (L1 : List HP), HasCell (L1 ++ (Own m [.iface tPl (ptr bp 0), .bool false, tr] :: R)) m [.iface tPl (ptr bp 0), .bool false, tr] := fun L1 => by
      induction L1 with
      | nil => exact HasCell.obj
      | cons A L1 ih => exact @HasCell.skip A m _ _ ih
    exact dr _
  have hend : ∀ {H1} {A : List HP}, Sat (A ++ (Vec tr tA 8 (List.zipWith encA M.tr vs) :: valsL M.tr vs ++ (Own m [.iface tPl (ptr bp 0), .bool false, tr] :: R))) H1 → Sat (A ++ R) H1 := fun {H1} {A} h => by
    have dr : ∀ (L1 : List HP) {R : List HP} {h : PH}, SatL (L1 ++ R) h → SatL R h := fun L1 => by
      induction L1 with
      | nil => exact fun h => h
      | cons A L1 ih => exact fun h => ih (SatL.drop h)
    have un : ∀ (A : List HP) {L R : List HP} {h : PH}, (∀ h, SatL L h → SatL R h) → SatL (A ++ L) h → SatL (A ++ R) h := fun A => by
      induction A with
      | nil => exact fun f a => f _ a
      | cons B A ih => exact fun f a => SatL.under (fun g => ih f) a
    exact Sat.mk (un A (fun h a => SatL.drop (dr _ a)) (Sat.out h))
  generalize (Vec tr tA 8 (List.zipWith encA M.tr vs) :: valsL M.tr vs ++ (Own m [.iface tPl (ptr bp 0), .bool false, tr] :: R)) = L' at hs3 hV hN hC hend
  refine ld hs3 rfl ?_
  have lv : (List.zipWith encA M.tr vs).length = M.tr.length := by rw [List.length_zipWith, hvs, Nat.min_self]
  refine cloneA_ok hc hs3 hV (by rw [lv]; exact hl) fun x H1 h1 => ?_
  obtain ⟨px, ex⟩ := (h1.has Has.vec).shape
  rw [lv] at ex
  subst ex
  repeat (first | refine run ?_ | refine Cd.t rfl ?_ | refine Cd.f rfl ?_ | refine Cd.t (by decide +kernel) ?_ | refine Cd.f (by decide +kernel) ?_ | refine Sc.mk rfl ?_ | refine ld (by assumption) rfl ?_ | refine nw (by assumption) fun _ _ _ => ?_ | refine stB (by assumption) rfl rfl fun _ _ => ?_)
  refine LoopC.ind (n := 100) (by kernel_rfl) (fun (i : Nat) σ H => σ 3 = .slice px M.tr.length M.tr.length ∧ σ 13 = iN M.tr.length ∧ σ 14 = iN i ∧ i ≤ M.tr.length ∧ ∃ ws : List Value, ws.length = M.tr.length ∧ (∀ j, i ≤ j → ws[j]? = vs[j]?) ∧ Sat (Vec (.slice px M.tr.length M.tr.length) tA 8 (List.zipWith encA M.tr ws) :: (valsL (M.tr.take i) (ws.take i) ++ L')) H)
    (fun i => M.tr.length - i) (fun i σ H hI => ?_) 0 _ _ ⟨rfl, rfl, rfl, Nat.zero_le _, vs, hvs, fun _ _ => rfl, by rw [List.take_zero]; exact h1⟩
  obtain ⟨e3, e13, e14, hi, ws, hws, hwv, hs4⟩ := hI
  rw [memTraceL_W]
  simp only [e3, e13, e14]
  repeat (first | refine run ?_ | refine Cd.t rfl ?_ | refine Cd.f rfl ?_ | refine Cd.t (by decide +kernel) ?_ | refine Cd.f (by decide +kernel) ?_ | refine Sc.mk rfl ?_ | refine ld (by assumption) rfl ?_ | refine nw (by assumption) fun _ _ _ => ?_ | refine stB (by assumption) rfl rfl fun _ _ => ?_)
  have lw : ∀ us : List Value, us.length = M.tr.length → (List.zipWith encA M.tr us).length = M.tr.length := fun us h => by rw [List.length_zipWith, h, Nat.min_self]
  rcases Nat.lt_or_ge i M.tr.length with hlt | hge
  · refine Cd.t (ltZ_t (by omega)) ?_
    obtain ⟨a, ha⟩ : ∃ a, M.tr[i]? = some a := ⟨_, List.getElem?_eq_getElem hlt⟩
    obtain ⟨v, hv⟩ : ∃ v, vs[i]? = some v := ⟨_, List.getElem?_eq_getElem (by omega)⟩
    have hw : ws[i]? = some v := (hwv i (Nat.le_refl _)).trans hv
    obtain ⟨f1, f2, u1, u2, d4, ⟨q1, ⟨q2, q3⟩ | ⟨b, q2, q3, q4⟩⟩, q5⟩ := hs4.opens Pull.here
    · have e3 : M.tr.length = 0 := by injection q2
      omega
    rw [lw ws hws] at q3
    cases q3
    have hs5 : Sat (Row b tA 8 true (List.zipWith encA M.tr ws).flatten :: (valsL (M.tr.take i) (ws.take i) ++ L')) H := Sat.merge (L1 := [_]) u1 u2 d4 (SatL.one q4) q5
    repeat (first | refine run ?_ | refine Cd.t rfl ?_ | refine Cd.f rfl ?_ | refine Cd.t (by decide +kernel) ?_ | refine Cd.f (by decide +kernel) ?_ | refine Sc.mk rfl ?_ | refine ld (by assumption) rfl ?_ | refine nw (by assumption) fun _ _ _ => ?_ | refine stB (by assumption) rfl rfl fun _ _ => ?_)
    refine Must.mk (ltN_t hlt) ?_
    refine ldTr hs4 Has.vec rfl ha hw (j := 5) (by simp) (by omega) rfl ?_
    refine cloneN_ok hc hs5 (Has.skip (Has.app (hN i a v ha hv))) (hvl a (List.mem_of_getElem? ha)) fun v' H6 hv' h6 => ?_
    repeat (first | refine run ?_ | refine Cd.t rfl ?_ | refine Cd.f rfl ?_ | refine Cd.t (by decide +kernel) ?_ | refine Cd.f (by decide +kernel) ?_ | refine Sc.mk rfl ?_ | refine ld (by assumption) rfl ?_ | refine nw (by assumption) fun _ _ _ => ?_ | refine stB (by assumption) rfl rfl fun _ _ => ?_)
    refine Must.mk (ltN_t hlt) (Sc.mk hv' ?_)
    refine st h6 (by rw [flat_len (zip_len _ _), lw ws hws]; show 0 + i * 8 + 5 < M.tr.length * 8; omega) hv' fun H7 h7 => ?_
    rw [show Nat.add (Nat.add 0 (Nat.mul i 8)) 5 = i * 8 + 5 from by show 0 + i * 8 + 5 = _; omega, flat_set (zip_len _ _) i 5 _ v' (zip_get ha hw) (by omega)] at h7
    have e1 : (List.zipWith encA M.tr ws).set i ((encA a v).set 5 v') = List.zipWith encA M.tr (ws.set i v') := by
      apply List.ext_getElem?
      intro j
      rw [List.getElem?_set, List.getElem?_zipWith, List.getElem?_zipWith, List.getElem?_set]
      by_cases hj : i = j
      · subst hj
        rw [if_pos rfl, if_pos rfl, if_pos (by rw [lw ws hws]; exact hlt), if_pos (by omega), ha]
        rfl
      · rw [if_neg hj, if_neg hj]
    rw [e1] at h7
    repeat (first | refine run ?_ | refine Cd.t rfl ?_ | refine Cd.f rfl ?_ | refine Cd.t (by decide +kernel) ?_ | refine Cd.f (by decide +kernel) ?_ | refine Sc.mk rfl ?_ | refine ld (by assumption) rfl ?_ | refine nw (by assumption) fun _ _ _ => ?_ | refine stB (by assumption) rfl rfl fun _ _ => ?_)
    refine inR_nat (n := i + 1) (by omega) ?_
    show ∃ y, _ ∧ _
    refine ⟨i + 1, by omega, e3, e13, rfl, hlt, ws.set i v', by simp [hws], fun j hj => ?_, ?_⟩
    · rw [List.getElem?_set, if_neg (by omega)]; exact hwv j (by omega)
    · have h8 : Sat (Vec (slc b 0 M.tr.length M.tr.length) tA 8 (List.zipWith encA M.tr (ws.set i v')) :: Nums v' a.vals :: (valsL (M.tr.take i) (ws.take i) ++ L')) H7 := (h7.ent (by repeat (first | exact Ent.refl _ | apply Ent.cons (by repeat (first | exact Pull.here | apply Pull.there)) | refine Ent.drop ?_))).imp fun g r => ⟨zip_len _ _, .inr ⟨b, by
          intro h0; have := lw (ws.set i v') (by simp [hws]); rw [h0] at this; simp at this; omega, by rw [lw _ (by simp [hws])], r⟩⟩
      have e2 : valsL (M.tr.take (i + 1)) ((ws.set i v').take (i + 1)) = valsL (M.tr.take i) (ws.take i) ++ [Nums v' a.vals] := by
        have t1 : M.tr.take (i + 1) = M.tr.take i ++ [a] := by rw [List.take_add_one, ha]; rfl
        have t2 : (ws.set i v').take (i + 1) = ws.take i ++ [v'] := by
          rw [List.take_add_one, List.getElem?_set, if_pos rfl, if_pos (by omega), List.take_set_of_le (Nat.le_refl _)]; rfl
        rw [t1, t2]
        exact zip_snoc _ (by simp; omega) a v'
      rw [e2, List.append_assoc]
      refine h8.ent ?_
      refine Ent.cons Pull.here ?_
      have mv : ∀ (L1 : List HP) {A : HP} {R : List HP}, Ent (A :: (L1 ++ R)) (L1 ++ ([A] ++ R)) := fun L1 => by
        induction L1 with
        | nil => exact fun {A R} => Ent.refl _
        | cons B L1 ih => exact fun {A R} => Ent.cons (Pull.there Pull.here) ih
      exact mv _
  · refine Cd.f (ltZ_f (by omega)) ?_
    show Cd _ _ _
    refine Cd.t (eqN_self 0) ?_
    have hie : i = M.tr.length := by omega
    subst hie
    rw [List.take_length, List.take_of_length_le (by omega)] at hs4
    have h9 : Sat ((Vec (.slice px M.tr.length M.tr.length) tA 8 (List.zipWith encA M.tr ws) :: valsL M.tr ws) ++ R) H := hend hs4
    have e : (upd σ 15 (.bool (ltZ (Int.ofNat M.tr.length) (Int.ofNat M.tr.length)))) 3 = .slice px M.tr.length M.tr.length := e3
    show K ((upd σ 15 _) 3) H
    rw [e]
    exact k _ _ (h9.close fun g a => ⟨ws, hws, a⟩)
end Go.Proofs.Ytipbbnoepphdkaa

set_option linter.unusedVariables false
set_option linter.unusedSimpArgs false
namespace Go.Proofs.Ytipbbnoepphdkaa
open Go Go.CM
attribute [local irreducible] AsBool AsWant AsNat AsInt AsCnt AsPtr AsSlc AsLen AsStr AsAgg AsTup AsFn AsIfc Nth Sc NotNil IsNil Must Cd codeW funW Sat SatL wrapN subM mkRow ltZ leZ ltN leN
variable {con : CallT}

/-! ### what is needed -/
def asksB (a b t : Nat) : Bool := decide (a ≤ t) && decide (t < b)
def needed (fl : Nat) (st : List Nat) (a b : Nat) : Bool := if b ≤ a then false else if fl < b then true else st.any (asksB a b)

theorem any_take_succ (p : Nat → Bool) {l : List Nat} {i : Nat} (h : i < l.length) : (l.take (i + 1)).any p = ((l.take i).any p || p (l.getD i 0)) := by
  rw [List.take_add_one, List.getElem?_eq_getElem h, List.any_append, List.getD_eq_getElem?_getD, List.getElem?_eq_getElem h]; simp
theorem any_at (p : Nat → Bool) {l : List Nat} {i : Nat} (h : i < l.length) (hp : p (l.getD i 0) = true) : l.any p = true := by
  rw [List.getD_eq_getElem?_getD, List.getElem?_eq_getElem h] at hp
  exact List.any_eq_true.2 ⟨l[i], List.getElem_mem h, hp⟩

theorem neededC_ok (hc : Con con lives) {L : List HP} {H : CH} {p q a b x : Nat} {K : KP} (hs : Sat L H) [HasCell L p [u64 a]] [HasCell L q [u64 b]] (k : K (.bool (asksB a b x)) H) : Call1 Try.prog con 72 [u64 x, ptr p 0, ptr q 0] H K := by
  refine call_of (hc _ _ _ rfl) ?_
  rw [neededC_W]
  repeat (first | refine run ?_ | refine Cd.t rfl ?_ | refine Cd.f rfl ?_ | refine Cd.t (by decide +kernel) ?_ | refine Cd.f (by decide +kernel) ?_ | refine Sc.mk rfl ?_ | refine ld (by assumption) rfl ?_ | refine nw (by assumption) fun _ _ _ => ?_ | refine stB (by assumption) rfl rfl fun _ _ => ?_)
  by_cases h : a ≤ x
  · refine Cd.t (leN_t h) ?_
    repeat (first | refine run ?_ | refine Cd.t rfl ?_ | refine Cd.f rfl ?_ | refine Cd.t (by decide +kernel) ?_ | refine Cd.f (by decide +kernel) ?_ | refine Sc.mk rfl ?_ | refine ld (by assumption) rfl ?_ | refine nw (by assumption) fun _ _ _ => ?_ | refine stB (by assumption) rfl rfl fun _ _ => ?_)
    have e : asksB a b x = ltN x b := by
      unfold asksB
      rw [decide_eq_true h]
      by_cases h2 : x < b
      · rw [ltN_t h2, decide_eq_true h2]; rfl
      · rw [ltN_f (by omega), decide_eq_false h2]; rfl
    rw [← e]; exact k
  · refine Cd.f (leN_f (by omega)) ?_
    have e : asksB a b x = false := by unfold asksB; rw [decide_eq_false h]; rfl
    rw [← e]; exact k

theorem containsF_ok (hc : Con con lives) {L : List HP} {H : CH} {p q a b : Nat} {v : Value} {l : List Nat} {K : KP} (hs : Sat L H) (hq : Has L (Nums v l)) [HasCell L p [u64 a]] [HasCell L q [u64 b]] (hl : l.length ≤ 1000000000) (k : K (.bool (l.any (asksB a b))) H) :
    Call1 Try.prog con 73 [v, .func (.func 72) ⟨[]⟩ ⟨[ptr p 0, ptr q 0]⟩] H K := by
  refine call_of (hc _ _ _ rfl) ?_
  rw [containsF_W]
  refine call_of (hc _ _ _ rfl) ?_
  rw [indexF_W]
  obtain ⟨pv, cv, rfl⟩ := (hs.has hq).len
  repeat (first | refine run ?_ | refine Cd.t rfl ?_ | refine Cd.f rfl ?_ | refine Cd.t (by decide +kernel) ?_ | refine Cd.f (by decide +kernel) ?_ | refine Sc.mk rfl ?_ | refine ld (by assumption) rfl ?_ | refine nw (by assumption) fun _ _ _ => ?_ | refine stB (by assumption) rfl rfl fun _ _ => ?_)
  refine LoopC.ind (n := 100) (by kernel_rfl) (fun (i : Nat) σ H1 => σ 0 = .slice pv l.length cv ∧ σ 1 = .func (.func 72) ⟨[]⟩ ⟨[ptr p 0, ptr q 0]⟩ ∧ σ 7 = iN l.length ∧ σ 8 = iN i ∧ i ≤ l.length ∧ (l.take i).any (asksB a b) = false ∧ H1 = H) (fun i => l.length - i) (fun i σ H1 hI => ?_) 0 _ _ ⟨rfl, rfl, rfl, rfl, Nat.zero_le _, rfl, rfl⟩
  obtain ⟨e0, e1, e7, e8, hi, hno, rfl⟩ := hI
  rw [indexFL_W]
  simp only [e0, e1, e7, e8]
  repeat (first | refine run ?_ | refine Cd.t rfl ?_ | refine Cd.f rfl ?_ | refine Cd.t (by decide +kernel) ?_ | refine Cd.f (by decide +kernel) ?_ | refine Sc.mk rfl ?_ | refine ld (by assumption) rfl ?_ | refine nw (by assumption) fun _ _ _ => ?_ | refine stB (by assumption) rfl rfl fun _ _ => ?_)
  rcases Nat.lt_or_ge i l.length with hlt | hge
  · refine Cd.t (ltZ_t (by omega)) ?_
    rcases (hs.has hq).shape with ⟨h3, h4⟩ | ⟨b', o, c', h3⟩
    · rw [h4] at hlt; simp at hlt
    cases h3
    repeat (first | refine run ?_ | refine Cd.t rfl ?_ | refine Cd.f rfl ?_ | refine Cd.t (by decide +kernel) ?_ | refine Cd.f (by decide +kernel) ?_ | refine Sc.mk rfl ?_ | refine ld (by assumption) rfl ?_ | refine nw (by assumption) fun _ _ _ => ?_ | refine stB (by assumption) rfl rfl fun _ _ => ?_)
    refine Must.mk (ltN_t hlt) ?_
    refine ldSrc hs (hq.src rfl) (by rw [show Nat.mul i 1 = i from Nat.mul_one i]; rfl) (map_get _ hlt) ?_
    repeat (first | refine run ?_ | refine Cd.t rfl ?_ | refine Cd.f rfl ?_ | refine Cd.t (by decide +kernel) ?_ | refine Cd.f (by decide +kernel) ?_ | refine Sc.mk rfl ?_ | refine ld (by assumption) rfl ?_ | refine nw (by assumption) fun _ _ _ => ?_ | refine stB (by assumption) rfl rfl fun _ _ => ?_)
    refine Must.mk (by kernel_rfl) ?_
    refine neededC_ok (a := a) (b := b) hc hs ?_
    repeat (first | refine run ?_ | refine Cd.t rfl ?_ | refine Cd.f rfl ?_ | refine Cd.t (by decide +kernel) ?_ | refine Cd.f (by decide +kernel) ?_ | refine Sc.mk rfl ?_ | refine ld (by assumption) rfl ?_ | refine nw (by assumption) fun _ _ _ => ?_ | refine stB (by assumption) rfl rfl fun _ _ => ?_)
    refine Cd.of (fun hy => ?_) (fun hn => ?_)
    · show AsInt _ _ _
      refine AsInt.mk ?_
      rw [any_at _ hlt hy] at k
      show K (.bool (leZ (Int.ofNat 0) (Int.ofNat i))) _
      rw [leZ_t (Nat.zero_le i)]
      exact k
    · repeat (first | refine run ?_ | refine Cd.t rfl ?_ | refine Cd.f rfl ?_ | refine Cd.t (by decide +kernel) ?_ | refine Cd.f (by decide +kernel) ?_ | refine Sc.mk rfl ?_ | refine ld (by assumption) rfl ?_ | refine nw (by assumption) fun _ _ _ => ?_ | refine stB (by assumption) rfl rfl fun _ _ => ?_)
      refine inR_nat (n := i + 1) (by omega) ?_
      show ∃ y, _ ∧ _
      exact ⟨i + 1, by omega, e0, e1, e7, rfl, hlt, by rw [any_take_succ _ hlt, hno, hn]; rfl, rfl⟩
  · refine Cd.f (ltZ_f (by omega)) ?_
    show Cd _ _ _
    refine Cd.t (eqN_self 0) ?_
    refine AsInt.mk ?_
    rw [List.take_of_length_le hge] at hno
    rw [hno] at k
    rw [show leZ (Int.ofNat 0) (Int.negSucc 0) = false by decide +kernel]
    exact k

theorem needed_ok (hc : Con con lives) {L : List HP} {H : CH} {fl a b : Nat} {v : Value} {l : List Nat} {K : KP} (hs : Sat L H) (hq : Has L (Nums v l)) (hl : l.length ≤ 1000000000) (k : ∀ H1, Sat L H1 → K (.bool (needed fl l a b)) H1) :
    Call1 Try.prog con 12 [.agg ⟨[u64 fl, v]⟩, u64 a, u64 b] H K := by
  refine call_of (hc _ _ _ rfl) ?_
  rw [needed_W]
  obtain ⟨pv, cv, rfl⟩ := (hs.has hq).len
  refine nw hs fun p1 H1 h1 => ?_
  repeat (first | refine run ?_ | refine Cd.t rfl ?_ | refine Cd.f rfl ?_ | refine Cd.t (by decide +kernel) ?_ | refine Cd.f (by decide +kernel) ?_ | refine Sc.mk rfl ?_ | refine ld (by assumption) rfl ?_ | refine nw (by assumption) fun _ _ _ => ?_ | refine stB (by assumption) rfl rfl fun _ _ => ?_)
  by_cases h : b ≤ a
  · refine Cd.t (leN_t h) ?_
    have e : needed fl l a b = false := by unfold needed; rw [if_pos h]
    rw [← e]
    refine k _ (Sat.ent (by assumption) (by repeat (first | exact Ent.refl _ | exact Ent.none | apply Ent.cons (by repeat (first | exact Pull.here | apply Pull.there)) | refine Ent.drop ?_)))
  refine Cd.f (leN_f (by omega)) ?_
  repeat (first | refine run ?_ | refine Cd.t rfl ?_ | refine Cd.f rfl ?_ | refine Cd.t (by decide +kernel) ?_ | refine Cd.f (by decide +kernel) ?_ | refine Sc.mk rfl ?_ | refine ld (by assumption) rfl ?_ | refine nw (by assumption) fun _ _ _ => ?_ | refine stB (by assumption) rfl rfl fun _ _ => ?_)
  by_cases h2 : fl < b
  · refine Cd.t (ltN_t h2) ?_
    have e : needed fl l a b = true := by unfold needed; rw [if_neg h, if_pos h2]
    rw [← e]
    refine k _ (Sat.ent (by assumption) (by repeat (first | exact Ent.refl _ | exact Ent.none | apply Ent.cons (by repeat (first | exact Pull.here | apply Pull.there)) | refine Ent.drop ?_)))
  refine Cd.f (ltN_f (by omega)) ?_
  repeat (first | refine run ?_ | refine Cd.t rfl ?_ | refine Cd.f rfl ?_ | refine Cd.t (by decide +kernel) ?_ | refine Cd.f (by decide +kernel) ?_ | refine Sc.mk rfl ?_ | refine ld (by assumption) rfl ?_ | refine nw (by assumption) fun _ _ _ => ?_ | refine stB (by assumption) rfl rfl fun _ _ => ?_)
  refine containsF_ok (a := a) (b := b) (l := l) hc (by assumption) (Has.skip (Has.skip (Has.skip hq))) hl ?_
  have e : needed fl l a b = l.any (asksB a b) := by unfold needed; rw [if_neg h, if_neg h2]
  rw [← e]
  refine k _ (Sat.ent (by assumption) (by repeat (first | exact Ent.refl _ | exact Ent.none | apply Ent.cons (by repeat (first | exact Pull.here | apply Pull.there)) | refine Ent.drop ?_)))

theorem refNeeded_ok (hc : Con con lives) {L : List HP} {H : CH} {fl a b : Nat} {v : Value} {l : List Nat} {K : KP} (hs : Sat L H) (hq : Has L (Nums v l)) (hl : l.length ≤ 1000000000) (k : ∀ H1, Sat L H1 → K (.bool (needed fl l a b)) H1) :
    Call1 Try.prog con 13 [.agg ⟨[u64 fl, v]⟩, u64 a, u64 b] H K := by
  refine call_of (hc _ _ _ rfl) ?_
  rw [refNeeded_W]
  obtain ⟨pv, cv, rfl⟩ := (hs.has hq).len
  refine nw hs fun p1 H1 h1 => ?_
  repeat (first | refine run ?_ | refine Cd.t rfl ?_ | refine Cd.f rfl ?_ | refine Cd.t (by decide +kernel) ?_ | refine Cd.f (by decide +kernel) ?_ | refine Sc.mk rfl ?_ | refine ld (by assumption) rfl ?_ | refine nw (by assumption) fun _ _ _ => ?_ | refine stB (by assumption) rfl rfl fun _ _ => ?_)
  by_cases h : b ≤ a
  · refine Cd.t (leN_t h) ?_
    have e : needed fl l a b = false := by unfold needed; rw [if_pos h]
    rw [← e]
    exact k _ h1.drop
  refine Cd.f (leN_f (by omega)) ?_
  repeat (first | refine run ?_ | refine Cd.t rfl ?_ | refine Cd.f rfl ?_ | refine Cd.t (by decide +kernel) ?_ | refine Cd.f (by decide +kernel) ?_ | refine Sc.mk rfl ?_ | refine ld (by assumption) rfl ?_ | refine nw (by assumption) fun _ _ _ => ?_ | refine stB (by assumption) rfl rfl fun _ _ => ?_)
  by_cases h2 : fl < b
  · refine Cd.t (ltN_t h2) ?_
    have e : needed fl l a b = true := by unfold needed; rw [if_neg h, if_pos h2]
    rw [← e]
    exact k _ h1.drop
  refine Cd.f (ltN_f (by omega)) ?_
  have e : needed fl l a b = l.any (asksB a b) := by unfold needed; rw [if_neg h, if_neg h2]
  refine LoopC.ind (n := 100) (by kernel_rfl) (fun (i : Nat) σ H => σ 1 = u64 a ∧ σ 2 = u64 b ∧ σ 3 = ptr p1 0 ∧ σ 7 = iN i ∧ i ≤ l.length ∧ (l.take i).any (asksB a b) = false ∧ H = H1) (fun i => l.length - i) (fun i σ H2 hI => ?_) 0 _ _ ⟨rfl, rfl, rfl, rfl, Nat.zero_le _, rfl, rfl⟩
  obtain ⟨e1, e2, e3, e7, hi, hno, rfl⟩ := hI
  rw [refNeededL_W]
  simp only [e1, e2, e3, e7]
  repeat (first | refine run ?_ | refine Cd.t rfl ?_ | refine Cd.f rfl ?_ | refine Cd.t (by decide +kernel) ?_ | refine Cd.f (by decide +kernel) ?_ | refine Sc.mk rfl ?_ | refine ld (by assumption) rfl ?_ | refine nw (by assumption) fun _ _ _ => ?_ | refine stB (by assumption) rfl rfl fun _ _ => ?_)
  rcases Nat.lt_or_ge i l.length with hlt | hge
  · refine Cd.t (ltZ_t (by omega)) ?_
    rcases (hs.has hq).shape with ⟨h3, h4⟩ | ⟨b', o, c', h3⟩
    · rw [h4] at hlt; simp at hlt
    cases h3
    repeat (first | refine run ?_ | refine Cd.t rfl ?_ | refine Cd.f rfl ?_ | refine Cd.t (by decide +kernel) ?_ | refine Cd.f (by decide +kernel) ?_ | refine Sc.mk rfl ?_ | refine ld (by assumption) rfl ?_ | refine nw (by assumption) fun _ _ _ => ?_ | refine stB (by assumption) rfl rfl fun _ _ => ?_)
    refine Must.mk (ltN_t hlt) ?_
    refine ldSrc h1 (Src.skip (hq.src rfl)) (by rw [show Nat.mul i 1 = i from Nat.mul_one i]; rfl) (map_get _ hlt) ?_
    repeat (first | refine run ?_ | refine Cd.t rfl ?_ | refine Cd.f rfl ?_ | refine Cd.t (by decide +kernel) ?_ | refine Cd.f (by decide +kernel) ?_ | refine Sc.mk rfl ?_ | refine ld (by assumption) rfl ?_ | refine nw (by assumption) fun _ _ _ => ?_ | refine stB (by assumption) rfl rfl fun _ _ => ?_)
    by_cases h3 : a ≤ l.getD i 0
    · refine Cd.t (leN_t h3) ?_
      repeat (first | refine run ?_ | refine Cd.t rfl ?_ | refine Cd.f rfl ?_ | refine Cd.t (by decide +kernel) ?_ | refine Cd.f (by decide +kernel) ?_ | refine Sc.mk rfl ?_ | refine ld (by assumption) rfl ?_ | refine nw (by assumption) fun _ _ _ => ?_ | refine stB (by assumption) rfl rfl fun _ _ => ?_)
      refine Must.mk (ltN_t hlt) ?_
      refine ldSrc h1 (Src.skip (hq.src rfl)) (by rw [show Nat.mul i 1 = i from Nat.mul_one i]; rfl) (map_get _ hlt) ?_
      repeat (first | refine run ?_ | refine Cd.t rfl ?_ | refine Cd.f rfl ?_ | refine Cd.t (by decide +kernel) ?_ | refine Cd.f (by decide +kernel) ?_ | refine Sc.mk rfl ?_ | refine ld (by assumption) rfl ?_ | refine nw (by assumption) fun _ _ _ => ?_ | refine stB (by assumption) rfl rfl fun _ _ => ?_)
      by_cases h4 : l.getD i 0 < b
      · refine Cd.t (ltN_t h4) ?_
        have ey : l.any (asksB a b) = true := any_at _ hlt (by unfold asksB; rw [decide_eq_true h3, decide_eq_true h4]; rfl)
        rw [e, ey] at k
        exact k _ h1.drop
      · refine Cd.f (ltN_f (by omega)) ?_
        repeat (first | refine run ?_ | refine Cd.t rfl ?_ | refine Cd.f rfl ?_ | refine Cd.t (by decide +kernel) ?_ | refine Cd.f (by decide +kernel) ?_ | refine Sc.mk rfl ?_ | refine ld (by assumption) rfl ?_ | refine nw (by assumption) fun _ _ _ => ?_ | refine stB (by assumption) rfl rfl fun _ _ => ?_)
        refine inR_nat (n := i + 1) (by omega) ?_
        show ∃ y, _ ∧ _
        exact ⟨i + 1, by omega, e1, e2, e3, rfl, hlt, by rw [any_take_succ _ hlt, hno]; unfold asksB; rw [decide_eq_false h4, Bool.and_false]; rfl, rfl⟩
    · refine Cd.f (leN_f (by omega)) ?_
      repeat (first | refine run ?_ | refine Cd.t rfl ?_ | refine Cd.f rfl ?_ | refine Cd.t (by decide +kernel) ?_ | refine Cd.f (by decide +kernel) ?_ | refine Sc.mk rfl ?_ | refine ld (by assumption) rfl ?_ | refine nw (by assumption) fun _ _ _ => ?_ | refine stB (by assumption) rfl rfl fun _ _ => ?_)
      refine inR_nat (n := i + 1) (by omega) ?_
      show ∃ y, _ ∧ _
      exact ⟨i + 1, by omega, e1, e2, e3, rfl, hlt, by rw [any_take_succ _ hlt, hno]; unfold asksB; rw [decide_eq_false h3]; rfl, rfl⟩
  · refine Cd.f (ltZ_f (by omega)) ?_
    show Cd _ _ _
    refine Cd.t (eqN_self 0) ?_
    rw [List.take_of_length_le hge] at hno
    rw [e, hno] at k
    exact k _ h1.drop
end Go.Proofs.Ytipbbnoepphdkaa

set_option linter.unusedVariables false
set_option linter.unusedSimpArgs false
namespace Go.Proofs.Ytipbbnoepphdkaa
open Go Go.CM
attribute [local irreducible] AsBool AsWant AsNat AsInt AsCnt AsPtr AsSlc AsLen AsStr AsAgg AsTup AsFn AsIfc Nth Sc NotNil IsNil Must Cd codeW funW Sat SatL wrapN subM mkRow ltZ leZ ltN leN
variable {con : CallT}

/-! ### a cut -/
structure CutS where
  obj : Nat
  fl : Nat
  st : List Nat
  at_ : Nat
  x : Nat
  sx : Nat
  y : Nat
  y0 : Nat
  sy : Nat
  found : Nat
  head : Nat
  told : Nat

abbrev addM (a b : Nat) : Nat := Nat.mod (Nat.add a b) 18446744073709551616
def CutS.further (s : CutS) : CutS := if s.y = 0 then { s with at_ := 7 } else { s with x := s.y, sx := s.sy, at_ := 3 }
def CutS.stay (s : CutS) : CutS := if s.y = s.y0 then s.further else { s with at_ := 6 }
def CutS.on (s : CutS) : CutS := if s.y = 0 then ({ s with at_ := 4 } : CutS).stay else { s with at_ := 4 }
def CutS.fin (s : CutS) : CutS := if s.at_ = 7 then { s with head := s.told } else s
def CutS.go (s : CutS) (M : Mem) (th : Int) : CutS × Mem :=
  if s.at_ = 0 then ({ s with x := M.peek s.obj, at_ := if M.peek s.obj = 0 then 7 else 1 }, M.load th s.obj)
  else if s.at_ = 1 then ({ s with sx := if M.peek (addM s.x 1) = 0 then 18446744073709551615 else M.peek (addM s.x 1), at_ := 2 }, M.load th (addM s.x 1))
  else if s.at_ = 2 then ({ s with told := M.peek s.x, at_ := 3 }, M.load th s.x)
  else if s.at_ = 3 then (({ s with y0 := M.peek (addM s.x 2), y := M.peek (addM s.x 2) } : CutS).on, M.load th (addM s.x 2))
  else if s.at_ = 4 then (if needed s.fl s.st (M.peek (addM s.y 1)) s.sx then ({ s with sy := M.peek (addM s.y 1) } : CutS).stay else { s with sy := M.peek (addM s.y 1), found := addM s.found 1, at_ := 5 }, M.load th (addM s.y 1))
  else if s.at_ = 5 then (({ s with y := M.peek (addM s.y 2) } : CutS).on, M.load th (addM s.y 2))
  else (s.further, M.store th (addM s.x 2) s.y)
def CutS.step (s : CutS) (M : Mem) (th : Int) : CutS × Mem := ((s.go M th).1.fin, (s.go M th).2)

def cutC (s : CutS) (v : Value) : List Value := [u64 s.obj, u64 s.fl, v, iN s.at_, u64 s.x, u64 s.sx, u64 s.y, u64 s.y0, u64 s.sy, u64 s.found, u64 s.head, u64 s.told]


theorem cutFurther_ok (hc : Con con lives) (s : CutS) {L R : List HP} {H : CH} {p : Nat} {v : Value} {K : KP} (hs : Sat L H) (hp : Pull L (Own p (cutC s v)) R) (k : ∀ H1, Sat (Own p (cutC s.further v) :: R) H1 → K unit H1) : Call1 Try.prog con 77 [ptr p 0] H K := by
  refine call_of (hc _ _ _ rfl) ?_
  rw [cutFurther_W]
  have hs0 := hs.pull hp
  unfold CutS.further at k
  repeat (first | refine run ?_ | refine Cd.t rfl ?_ | refine Cd.f rfl ?_ | refine Cd.t (by decide +kernel) ?_ | refine Cd.f (by decide +kernel) ?_ | refine Sc.mk rfl ?_ | refine ld (by assumption) rfl ?_ | refine nw (by assumption) fun _ _ _ => ?_ | refine stB (by assumption) rfl rfl fun _ _ => ?_)
  by_cases h : s.y = 0
  · refine Cd.f (by rw [eqN_t h]; rfl) ?_
    rw [if_pos h] at k
    exact k _ (by assumption)
  · refine Cd.t (by rw [eqN_f h]; rfl) ?_
    rw [if_neg h] at k
    repeat (first | refine run ?_ | refine Cd.t rfl ?_ | refine Cd.f rfl ?_ | refine Cd.t (by decide +kernel) ?_ | refine Cd.f (by decide +kernel) ?_ | refine Sc.mk rfl ?_ | refine ld (by assumption) rfl ?_ | refine nw (by assumption) fun _ _ _ => ?_ | refine stB (by assumption) rfl rfl fun _ _ => ?_)
    exact k _ (by assumption)

theorem cutStay_ok (hc : Con con lives) (s : CutS) {L R : List HP} {H : CH} {p : Nat} {v : Value} {K : KP} (hs : Sat L H) (hp : Pull L (Own p (cutC s v)) R) (k : ∀ H1, Sat (Own p (cutC s.stay v) :: R) H1 → K unit H1) : Call1 Try.prog con 76 [ptr p 0] H K := by
  refine call_of (hc _ _ _ rfl) ?_
  rw [cutStay_W]
  have hs0 := hs.pull hp
  unfold CutS.stay at k
  repeat (first | refine run ?_ | refine Cd.t rfl ?_ | refine Cd.f rfl ?_ | refine Cd.t (by decide +kernel) ?_ | refine Cd.f (by decide +kernel) ?_ | refine Sc.mk rfl ?_ | refine ld (by assumption) rfl ?_ | refine nw (by assumption) fun _ _ _ => ?_ | refine stB (by assumption) rfl rfl fun _ _ => ?_)
  by_cases h : s.y = s.y0
  · refine Cd.f (by rw [eqN_t h]; rfl) ?_
    rw [if_pos h] at k
    exact cutFurther_ok hc s hs0 (by repeat (first | exact Pull.here | apply Pull.there)) k
  · refine Cd.t (by rw [eqN_f h]; rfl) ?_
    rw [if_neg h] at k
    repeat (first | refine run ?_ | refine Cd.t rfl ?_ | refine Cd.f rfl ?_ | refine Cd.t (by decide +kernel) ?_ | refine Cd.f (by decide +kernel) ?_ | refine Sc.mk rfl ?_ | refine ld (by assumption) rfl ?_ | refine nw (by assumption) fun _ _ _ => ?_ | refine stB (by assumption) rfl rfl fun _ _ => ?_)
    exact k _ (by assumption)

theorem cutOn_ok (hc : Con con lives) (s : CutS) {L R : List HP} {H : CH} {p : Nat} {v : Value} {K : KP} (hs : Sat L H) (hp : Pull L (Own p (cutC s v)) R) (k : ∀ H1, Sat (Own p (cutC s.on v) :: R) H1 → K unit H1) : Call1 Try.prog con 75 [ptr p 0] H K := by
  refine call_of (hc _ _ _ rfl) ?_
  rw [cutOn_W]
  have hs0 := hs.pull hp
  unfold CutS.on at k
  repeat (first | refine run ?_ | refine Cd.t rfl ?_ | refine Cd.f rfl ?_ | refine Cd.t (by decide +kernel) ?_ | refine Cd.f (by decide +kernel) ?_ | refine Sc.mk rfl ?_ | refine ld (by assumption) rfl ?_ | refine nw (by assumption) fun _ _ _ => ?_ | refine stB (by assumption) rfl rfl fun _ _ => ?_)
  by_cases h : s.y = 0
  · refine Cd.t (eqN_t h) ?_
    rw [if_pos h] at k
    exact cutStay_ok hc { s with at_ := 4 } (by assumption) (by repeat (first | exact Pull.here | apply Pull.there)) k
  · refine Cd.f (eqN_f h) ?_
    rw [if_neg h] at k
    exact k _ (by assumption)

theorem cutTail (s : CutS) {L R : List HP} {H : CH} {p : Nat} {v : Value} {K : KP} (hs : Sat L H) (hp : Pull L (Own p (cutC s v)) R) (k : ∀ H1, Sat (Own p (cutC s.fin v) :: R) H1 → K (.bool (eqZ (Int.ofNat s.fin.at_) (Int.ofNat 7))) H1) :
    Ld H p 3 fun v => AsInt .i64 v fun z => Cd (eqZ z (Int.ofNat 7)) (Ld H p 11 fun v13 => Sc v13 (St H p 10 [v13] fun H14 => Ld H14 p 3 fun v15 => AsInt .i64 v15 fun z16 => K (.bool (eqZ z16 (Int.ofNat 7))) H14)) (Ld H p 3 fun v17 => AsInt .i64 v17 fun z18 => K (.bool (eqZ z18 (Int.ofNat 7))) H) := by
  have hs0 := hs.pull hp
  unfold CutS.fin at k
  repeat (first | refine run ?_ | refine Cd.t rfl ?_ | refine Cd.f rfl ?_ | refine Cd.t (by decide +kernel) ?_ | refine Cd.f (by decide +kernel) ?_ | refine Sc.mk rfl ?_ | refine ld (by assumption) rfl ?_ | refine nw (by assumption) fun _ _ _ => ?_ | refine stB (by assumption) rfl rfl fun _ _ => ?_)
  by_cases h : s.at_ = 7
  · refine Cd.t (eqZ_t h) ?_
    rw [if_pos h] at k
    repeat (first | refine run ?_ | refine Cd.t rfl ?_ | refine Cd.f rfl ?_ | refine Cd.t (by decide +kernel) ?_ | refine Cd.f (by decide +kernel) ?_ | refine Sc.mk rfl ?_ | refine ld (by assumption) rfl ?_ | refine nw (by assumption) fun _ _ _ => ?_ | refine stB (by assumption) rfl rfl fun _ _ => ?_)
    exact k _ (by assumption)
  · refine Cd.f (eqZ_f h) ?_
    rw [if_neg h] at k
    repeat (first | refine run ?_ | refine Cd.t rfl ?_ | refine Cd.f rfl ?_ | refine Cd.t (by decide +kernel) ?_ | refine Cd.f (by decide +kernel) ?_ | refine Sc.mk rfl ?_ | refine ld (by assumption) rfl ?_ | refine nw (by assumption) fun _ _ _ => ?_ | refine stB (by assumption) rfl rfl fun _ _ => ?_)
    exact k _ hs0

theorem go0 {s : CutS} {M : Mem} {th : Int} (h : s.at_ = 0) : s.go M th = ({ s with x := M.peek s.obj, at_ := if M.peek s.obj = 0 then 7 else 1 }, M.load th s.obj) := by unfold CutS.go; rw [if_pos h]
theorem go1 {s : CutS} {M : Mem} {th : Int} (h : s.at_ = 1) : s.go M th = ({ s with sx := if M.peek (addM s.x 1) = 0 then 18446744073709551615 else M.peek (addM s.x 1), at_ := 2 }, M.load th (addM s.x 1)) := by unfold CutS.go; rw [if_neg (by omega), if_pos h]
theorem go2 {s : CutS} {M : Mem} {th : Int} (h : s.at_ = 2) : s.go M th = ({ s with told := M.peek s.x, at_ := 3 }, M.load th s.x) := by unfold CutS.go; rw [if_neg (by omega), if_neg (by omega), if_pos h]
theorem go3 {s : CutS} {M : Mem} {th : Int} (h : s.at_ = 3) : s.go M th = (({ s with y0 := M.peek (addM s.x 2), y := M.peek (addM s.x 2) } : CutS).on, M.load th (addM s.x 2)) := by unfold CutS.go; rw [if_neg (by omega), if_neg (by omega), if_neg (by omega), if_pos h]
theorem go4 {s : CutS} {M : Mem} {th : Int} (h : s.at_ = 4) : s.go M th = (if needed s.fl s.st (M.peek (addM s.y 1)) s.sx then ({ s with sy := M.peek (addM s.y 1) } : CutS).stay else { s with sy := M.peek (addM s.y 1), found := addM s.found 1, at_ := 5 }, M.load th (addM s.y 1)) := by unfold CutS.go; rw [if_neg (by omega), if_neg (by omega), if_neg (by omega), if_neg (by omega), if_pos h]
theorem go5 {s : CutS} {M : Mem} {th : Int} (h : s.at_ = 5) : s.go M th = (({ s with y := M.peek (addM s.y 2) } : CutS).on, M.load th (addM s.y 2)) := by unfold CutS.go; rw [if_neg (by omega), if_neg (by omega), if_neg (by omega), if_neg (by omega), if_neg (by omega), if_pos h]
theorem go6 {s : CutS} {M : Mem} {th : Int} (h : s.at_ = 6) : s.go M th = (s.further, M.store th (addM s.x 2) s.y) := by unfold CutS.go; rw [if_neg (by omega), if_neg (by omega), if_neg (by omega), if_neg (by omega), if_neg (by omega), if_neg (by omega)]

theorem cutStep_ok (hc : Con con lives) (s : CutS) {L R1 R2 R3 : List HP} {H : CH} {p q m n : Nat} {th : Int} {M : Mem} {v : Value} {K : KP} (hs : Sat L H) (hm : Pull L (MemP m M) R1) (hv : Pull R1 (ViewAt q m th n) R2) (hp : Pull R2 (Own p (cutC s v)) R3) (hq : Has R3 (Nums v s.st)) (hl : s.st.length ≤ 1000000000)
    (hn : n < 1000000000) (ht : M.tr.length < 1000000000) (hat : s.at_ < 7) (k : ∀ H1, Sat (Own p (cutC (s.step M th).1 v) :: MemP m (s.step M th).2 :: ViewAt q m th (n + 1) :: R3) H1 → K (.bool (eqZ (Int.ofNat (s.step M th).1.at_) (Int.ofNat 7))) H1) :
    Call1 Try.prog con 14 [ptr p 0, ptr q 0] H K := by
  refine call_of (hc _ _ _ rfl) ?_
  rw [cutStep_W]
  have hs0 := hs.takes (.cons hm (.cons hv (.cons hp .nil)))
  simp only [List.cons_append, List.nil_append] at hs0
  obtain ⟨obj, fl, st, at_, x, sx, y, y0, sy, found, head, told⟩ := s
  simp only at hat hq hl
  rcases (by omega : at_ = 0 ∨ at_ = 1 ∨ at_ = 2 ∨ at_ = 3 ∨ at_ = 4 ∨ at_ = 5 ∨ at_ = 6) with rfl | rfl | rfl | rfl | rfl | rfl | rfl
  · simp only [CutS.step, go0] at k
    repeat (first | refine run ?_ | refine Cd.t rfl ?_ | refine Cd.f rfl ?_ | refine Cd.t (by decide +kernel) ?_ | refine Cd.f (by decide +kernel) ?_ | refine Sc.mk rfl ?_ | refine ld (by assumption) rfl ?_ | refine nw (by assumption) fun _ _ _ => ?_ | refine stB (by assumption) rfl rfl fun _ _ => ?_)
    refine viewLoad_ok hc hs0 (by repeat (first | exact Pull.here | apply Pull.there)) (by repeat (first | exact Pull.here | apply Pull.there)) hn ht fun H1 h1 => ?_
    repeat (first | refine run ?_ | refine Cd.t rfl ?_ | refine Cd.f rfl ?_ | refine Cd.t (by decide +kernel) ?_ | refine Cd.f (by decide +kernel) ?_ | refine Sc.mk rfl ?_ | refine ld (by assumption) rfl ?_ | refine nw (by assumption) fun _ _ _ => ?_ | refine stB (by assumption) rfl rfl fun _ _ => ?_)
    by_cases h : M.peek obj = 0
    · refine Cd.t (eqN_t h) (stB (by assumption) rfl rfl fun H9 h9 => ?_)
      simp only [if_pos h] at k
      exact cutTail ⟨obj, fl, st, 7, M.peek obj, sx, y, y0, sy, found, head, told⟩ h9 (by repeat (first | exact Pull.here | apply Pull.there)) k
    · refine Cd.f (eqN_f h) ?_
      simp only [if_neg h] at k
      exact cutTail ⟨obj, fl, st, 1, M.peek obj, sx, y, y0, sy, found, head, told⟩ (by assumption) (by repeat (first | exact Pull.here | apply Pull.there)) k
  · simp only [CutS.step, go1] at k
    repeat (first | refine run ?_ | refine Cd.t rfl ?_ | refine Cd.f rfl ?_ | refine Cd.t (by decide +kernel) ?_ | refine Cd.f (by decide +kernel) ?_ | refine Sc.mk rfl ?_ | refine ld (by assumption) rfl ?_ | refine nw (by assumption) fun _ _ _ => ?_ | refine stB (by assumption) rfl rfl fun _ _ => ?_)
    refine viewLoad_ok hc hs0 (by repeat (first | exact Pull.here | apply Pull.there)) (by repeat (first | exact Pull.here | apply Pull.there)) hn ht fun H1 h1 => ?_
    refine Sc.mk rfl (stB h1 rfl rfl fun H2 h2 => ?_)
    repeat (first | refine run ?_ | refine Cd.t rfl ?_ | refine Cd.f rfl ?_ | refine Cd.t (by decide +kernel) ?_ | refine Cd.f (by decide +kernel) ?_ | refine Sc.mk rfl ?_ | refine ld (by assumption) rfl ?_ | refine nw (by assumption) fun _ _ _ => ?_ | refine stB (by assumption) rfl rfl fun _ _ => ?_)
    by_cases h : M.peek (addM x 1) = 0
    · refine Cd.t (eqN_t h) (stB (by assumption) rfl rfl fun H8 h8 => stB h8 rfl rfl fun H9 h9 => ?_)
      simp only [if_pos h] at k
      exact cutTail ⟨obj, fl, st, 2, x, 18446744073709551615, y, y0, sy, found, head, told⟩ h9 (by repeat (first | exact Pull.here | apply Pull.there)) k
    · refine Cd.f (eqN_f h) (stB (by assumption) rfl rfl fun H9 h9 => ?_)
      simp only [if_neg h] at k
      exact cutTail ⟨obj, fl, st, 2, x, M.peek (addM x 1), y, y0, sy, found, head, told⟩ h9 (by repeat (first | exact Pull.here | apply Pull.there)) k
  · simp only [CutS.step, go2] at k
    repeat (first | refine run ?_ | refine Cd.t rfl ?_ | refine Cd.f rfl ?_ | refine Cd.t (by decide +kernel) ?_ | refine Cd.f (by decide +kernel) ?_ | refine Sc.mk rfl ?_ | refine ld (by assumption) rfl ?_ | refine nw (by assumption) fun _ _ _ => ?_ | refine stB (by assumption) rfl rfl fun _ _ => ?_)
    refine viewLoad_ok hc hs0 (by repeat (first | exact Pull.here | apply Pull.there)) (by repeat (first | exact Pull.here | apply Pull.there)) hn ht fun H1 h1 => ?_
    refine Sc.mk rfl (stB h1 rfl rfl fun H2 h2 => stB h2 rfl rfl fun H3 h3 => ?_)
    exact cutTail ⟨obj, fl, st, 3, x, sx, y, y0, sy, found, head, M.peek x⟩ h3 (by repeat (first | exact Pull.here | apply Pull.there)) k
  · simp only [CutS.step, go3] at k
    repeat (first | refine run ?_ | refine Cd.t rfl ?_ | refine Cd.f rfl ?_ | refine Cd.t (by decide +kernel) ?_ | refine Cd.f (by decide +kernel) ?_ | refine Sc.mk rfl ?_ | refine ld (by assumption) rfl ?_ | refine nw (by assumption) fun _ _ _ => ?_ | refine stB (by assumption) rfl rfl fun _ _ => ?_)
    refine viewLoad_ok hc hs0 (by repeat (first | exact Pull.here | apply Pull.there)) (by repeat (first | exact Pull.here | apply Pull.there)) hn ht fun H1 h1 => ?_
    repeat (first | refine run ?_ | refine Cd.t rfl ?_ | refine Cd.f rfl ?_ | refine Cd.t (by decide +kernel) ?_ | refine Cd.f (by decide +kernel) ?_ | refine Sc.mk rfl ?_ | refine ld (by assumption) rfl ?_ | refine nw (by assumption) fun _ _ _ => ?_ | refine stB (by assumption) rfl rfl fun _ _ => ?_)
    refine cutOn_ok hc ⟨obj, fl, st, 3, x, sx, M.peek (addM x 2), M.peek (addM x 2), sy, found, head, told⟩ (by assumption) (by repeat (first | exact Pull.here | apply Pull.there)) fun H4 h4 => ?_
    exact cutTail _ h4 (by repeat (first | exact Pull.here | apply Pull.there)) k
  · simp only [CutS.step, go4] at k
    repeat (first | refine run ?_ | refine Cd.t rfl ?_ | refine Cd.f rfl ?_ | refine Cd.t (by decide +kernel) ?_ | refine Cd.f (by decide +kernel) ?_ | refine Sc.mk rfl ?_ | refine ld (by assumption) rfl ?_ | refine nw (by assumption) fun _ _ _ => ?_ | refine stB (by assumption) rfl rfl fun _ _ => ?_)
    refine viewLoad_ok hc hs0 (by repeat (first | exact Pull.here | apply Pull.there)) (by repeat (first | exact Pull.here | apply Pull.there)) hn ht fun H1 h1 => ?_
    refine Sc.mk rfl (stB h1 rfl rfl fun H2 h2 => ?_)
    repeat (first | refine run ?_ | refine Cd.t rfl ?_ | refine Cd.f rfl ?_ | refine Cd.t (by decide +kernel) ?_ | refine Cd.f (by decide +kernel) ?_ | refine Sc.mk rfl ?_ | refine ld (by assumption) rfl ?_ | refine nw (by assumption) fun _ _ _ => ?_ | refine stB (by assumption) rfl rfl fun _ _ => ?_)
    refine needed_ok hc h2 (Has.skip (Has.skip (Has.skip hq))) hl fun H3 h3 => ?_
    repeat (first | refine run ?_ | refine Cd.t rfl ?_ | refine Cd.f rfl ?_ | refine Cd.t (by decide +kernel) ?_ | refine Cd.f (by decide +kernel) ?_ | refine Sc.mk rfl ?_ | refine ld (by assumption) rfl ?_ | refine nw (by assumption) fun _ _ _ => ?_ | refine stB (by assumption) rfl rfl fun _ _ => ?_)
    cases hnd : needed fl st (M.peek (addM y 1)) sx with
    | true =>
      simp only [hnd, if_true] at k
      refine Cd.t rfl ?_
      refine cutStay_ok hc ⟨obj, fl, st, 4, x, sx, y, y0, M.peek (addM y 1), found, head, told⟩ h3 (by repeat (first | exact Pull.here | apply Pull.there)) fun H4 h4 => ?_
      exact cutTail _ h4 (by repeat (first | exact Pull.here | apply Pull.there)) k
    | false =>
      simp only [hnd] at k
      refine Cd.f rfl (ld h3 rfl (AsNat.mk (stB h3 rfl rfl fun H4 h4 => stB h4 rfl rfl fun H5 h5 => ?_)))
      exact cutTail ⟨obj, fl, st, 5, x, sx, y, y0, M.peek (addM y 1), addM found 1, head, told⟩ h5 (by repeat (first | exact Pull.here | apply Pull.there)) k
  · simp only [CutS.step, go5] at k
    repeat (first | refine run ?_ | refine Cd.t rfl ?_ | refine Cd.f rfl ?_ | refine Cd.t (by decide +kernel) ?_ | refine Cd.f (by decide +kernel) ?_ | refine Sc.mk rfl ?_ | refine ld (by assumption) rfl ?_ | refine nw (by assumption) fun _ _ _ => ?_ | refine stB (by assumption) rfl rfl fun _ _ => ?_)
    refine viewLoad_ok hc hs0 (by repeat (first | exact Pull.here | apply Pull.there)) (by repeat (first | exact Pull.here | apply Pull.there)) hn ht fun H1 h1 => ?_
    repeat (first | refine run ?_ | refine Cd.t rfl ?_ | refine Cd.f rfl ?_ | refine Cd.t (by decide +kernel) ?_ | refine Cd.f (by decide +kernel) ?_ | refine Sc.mk rfl ?_ | refine ld (by assumption) rfl ?_ | refine nw (by assumption) fun _ _ _ => ?_ | refine stB (by assumption) rfl rfl fun _ _ => ?_)
    refine cutOn_ok hc ⟨obj, fl, st, 5, x, sx, M.peek (addM y 2), y0, sy, found, head, told⟩ (by assumption) (by repeat (first | exact Pull.here | apply Pull.there)) fun H4 h4 => ?_
    exact cutTail _ h4 (by repeat (first | exact Pull.here | apply Pull.there)) k
  · simp only [CutS.step, go6] at k
    repeat (first | refine run ?_ | refine Cd.t rfl ?_ | refine Cd.f rfl ?_ | refine Cd.t (by decide +kernel) ?_ | refine Cd.f (by decide +kernel) ?_ | refine Sc.mk rfl ?_ | refine ld (by assumption) rfl ?_ | refine nw (by assumption) fun _ _ _ => ?_ | refine stB (by assumption) rfl rfl fun _ _ => ?_)
    refine viewStore_ok hc hs0 (by repeat (first | exact Pull.here | apply Pull.there)) (by repeat (first | exact Pull.here | apply Pull.there)) hn ht fun H1 h1 => ?_
    refine cutFurther_ok hc ⟨obj, fl, st, 6, x, sx, y, y0, sy, found, head, told⟩ h1 (by repeat (first | exact Pull.here | apply Pull.there)) fun H4 h4 => ?_
    exact cutTail _ h4 (by repeat (first | exact Pull.here | apply Pull.there)) k
end Go.Proofs.Ytipbbnoepphdkaa

set_option linter.unusedVariables false
set_option linter.unusedSimpArgs false
namespace Go.Proofs.Ytipbbnoepphdkaa
open Go Go.CM
attribute [local irreducible] AsBool AsWant AsNat AsInt AsCnt AsPtr AsSlc AsLen AsStr AsAgg AsTup AsFn AsIfc Nth Sc NotNil IsNil Must Cd codeW funW Sat SatL wrapN subM mkRow ltZ leZ ltN leN
variable {con : CallT}

/-! ### the document's cut -/
def ratN (a : Nat) : Nat := if a = 7 then 9 else a
def rcutC (s : CutS) (nx : Nat) (v : Value) : List Value := [iN (ratN s.at_), u64 s.obj, u64 s.fl, v, u64 s.x, u64 s.sx, u64 s.y, u64 s.y0, u64 nx, u64 s.found, u64 s.told, u64 (if s.at_ = 7 then s.found else 0), u64 s.head]
/-- What is to be kept next, where it matters. -/
def NxOk (s : CutS) (nx : Nat) : Prop := s.at_ = 6 → s.y ≠ 0 → nx = s.sy

theorem rcutEnd_ok (hc : Con con lives) (s : CutS) (nx : Nat) {L R : List HP} {H : CH} {p : Nat} {v : Value} {K : KP} (h7 : s.at_ < 7) (hs : Sat L H) (hp : Pull L (Own p (rcutC s nx v)) R) (k : ∀ H1, Sat (Own p (rcutC ({ s with at_ := 7 } : CutS).fin nx v) :: R) H1 → K unit H1) : Call1 Try.prog con 89 [ptr p 0] H K := by
  refine call_of (hc _ _ _ rfl) ?_
  rw [rcutEnd_W]
  have hs0 := hs.pull hp
  have e : ({ s with at_ := 7 } : CutS).fin = { s with at_ := 7, head := s.told } := rfl
  rw [e] at k
  repeat (first | refine run ?_ | refine Cd.t rfl ?_ | refine Cd.f rfl ?_ | refine Cd.t (by decide +kernel) ?_ | refine Cd.f (by decide +kernel) ?_ | refine Sc.mk rfl ?_ | refine ld (by assumption) rfl ?_ | refine nw (by assumption) fun _ _ _ => ?_ | refine stB (by assumption) rfl rfl fun _ _ => ?_)
  exact k _ (by assumption)

theorem ratN_lt {a : Nat} (h : a < 7) : ratN a = a := by unfold ratN; rw [if_neg (by omega)]

theorem rcutEnough_ok (hc : Con con lives) (s : CutS) (nx a : Nat) {L R : List HP} {H : CH} {p : Nat} {v : Value} {K : KP} (h7 : s.at_ < 7) (ha : s.y ≠ 0 → a = s.sy) (hs : Sat L H) (hp : Pull L (Own p (rcutC s nx v)) R) (k : ∀ H1, Sat (Own p (rcutC s.stay.fin a v) :: R) H1 → K unit H1) : Call1 Try.prog con 90 [ptr p 0, u64 a] H K := by
  refine call_of (hc _ _ _ rfl) ?_
  rw [rcutEnough_W]
  have hs0 := hs.pull hp
  have c11 : (if s.at_ = 7 then s.found else 0) = 0 := if_neg (by omega)
  unfold CutS.stay CutS.further at k
  repeat (first | refine run ?_ | refine Cd.t rfl ?_ | refine Cd.f rfl ?_ | refine Cd.t (by decide +kernel) ?_ | refine Cd.f (by decide +kernel) ?_ | refine Sc.mk rfl ?_ | refine ld (by assumption) rfl ?_ | refine nw (by assumption) fun _ _ _ => ?_ | refine stB (by assumption) rfl rfl fun _ _ => ?_)
  by_cases h : s.y = s.y0
  · refine Cd.f (by rw [eqN_t h]; rfl) ?_
    rw [if_pos h] at k
    repeat (first | refine run ?_ | refine Cd.t rfl ?_ | refine Cd.f rfl ?_ | refine Cd.t (by decide +kernel) ?_ | refine Cd.f (by decide +kernel) ?_ | refine Sc.mk rfl ?_ | refine ld (by assumption) rfl ?_ | refine nw (by assumption) fun _ _ _ => ?_ | refine stB (by assumption) rfl rfl fun _ _ => ?_)
    by_cases h0 : s.y = 0
    · rw [if_pos h0] at k
      refine Cd.t (eqN_t h0) ?_
      exact rcutEnd_ok hc s a h7 (by assumption) (by repeat (first | exact Pull.here | apply Pull.there)) k
    · rw [if_neg h0] at k
      refine Cd.f (eqN_f h0) ?_
      rw [ha h0] at *
      have e : ({ s with x := s.y, sx := s.sy, at_ := 3 } : CutS).fin = { s with x := s.y, sx := s.sy, at_ := 3 } := rfl
      rw [e] at k
      have hf : (if s.at_ = 7 then s.found else 0) = (if (3 : Nat) = 7 then s.found else 0) := by rw [c11]; rfl
      repeat (first | refine run ?_ | refine Cd.t rfl ?_ | refine Cd.f rfl ?_ | refine Cd.t (by decide +kernel) ?_ | refine Cd.f (by decide +kernel) ?_ | refine Sc.mk rfl ?_ | refine ld (by assumption) rfl ?_ | refine nw (by assumption) fun _ _ _ => ?_ | refine stB (by assumption) rfl rfl fun _ _ => ?_)
      refine k _ ?_
      unfold rcutC
      rw [← hf]
      assumption
  · refine Cd.t (by rw [eqN_f h]; rfl) ?_
    rw [if_neg h] at k
    have e : ({ s with at_ := 6 } : CutS).fin = { s with at_ := 6 } := rfl
    rw [e] at k
    have hf : (if s.at_ = 7 then s.found else 0) = (if (6 : Nat) = 7 then s.found else 0) := by rw [c11]; rfl
    repeat (first | refine run ?_ | refine Cd.t rfl ?_ | refine Cd.f rfl ?_ | refine Cd.t (by decide +kernel) ?_ | refine Cd.f (by decide +kernel) ?_ | refine Sc.mk rfl ?_ | refine ld (by assumption) rfl ?_ | refine nw (by assumption) fun _ _ _ => ?_ | refine stB (by assumption) rfl rfl fun _ _ => ?_)
    refine k _ ?_
    unfold rcutC
    rw [← hf]
    assumption

theorem rcutTail (s : CutS) (nx : Nat) {L R : List HP} {H : CH} {p : Nat} {v : Value} {K : KP} (hs : Sat L H) (hp : Pull L (Own p (rcutC s nx v)) R) (k : Sat (Own p (rcutC s nx v) :: R) H → K (.bool (eqZ (Int.ofNat s.at_) (Int.ofNat 7))) H) (h : s.at_ ≤ 7) :
    Ld H p 0 fun v => AsInt .i64 v fun z => K (.bool (eqZ z (Int.ofNat 9))) H := by
  have hs0 := hs.pull hp
  have e : eqZ (Int.ofNat (ratN s.at_)) (Int.ofNat 9) = eqZ (Int.ofNat s.at_) (Int.ofNat 7) := by
    unfold ratN
    by_cases h7 : s.at_ = 7
    · rw [if_pos h7, eqZ_t rfl, eqZ_t h7]
    · rw [if_neg h7, eqZ_f (by omega), eqZ_f h7]
  repeat (first | refine run ?_ | refine Cd.t rfl ?_ | refine Cd.f rfl ?_ | refine Cd.t (by decide +kernel) ?_ | refine Cd.f (by decide +kernel) ?_ | refine Sc.mk rfl ?_ | refine ld (by assumption) rfl ?_ | refine nw (by assumption) fun _ _ _ => ?_ | refine stB (by assumption) rfl rfl fun _ _ => ?_)
  rw [e]
  exact k hs0

theorem further_le (s : CutS) : s.further.at_ ≤ 7 := by unfold CutS.further; split <;> simp
theorem stay_le (s : CutS) : s.stay.at_ ≤ 7 := by unfold CutS.stay; split; exact further_le s; simp
theorem fin_at (s : CutS) : s.fin.at_ = s.at_ := by unfold CutS.fin; split <;> rfl
theorem fin_nx {s : CutS} {nx : Nat} (h : NxOk s nx) : NxOk s.fin nx := by
  unfold CutS.fin; split
  · intro h6; simp_all
  · exact h
theorem stay_nx {s : CutS} (nx : Nat) (h : s.y ≠ 0 → nx = s.sy) : NxOk s.stay nx := by
  unfold CutS.stay CutS.further
  split
  · split <;> (intro h6; simp at h6)
  · exact fun _ h1 => h h1

theorem rcutStep_ok (hc : Con con lives) (s : CutS) (nx : Nat) {L R1 R3 : List HP} {H : CH} {p m : Nat} {th : Int} {M : Mem} {v : Value} {K : KP} (hnx : NxOk s nx) (hs : Sat L H) (hm : Pull L (RefP m M) R1) (hp : Pull R1 (Own p (rcutC s nx v)) R3) (hq : Has R3 (Nums v s.st)) (hl : s.st.length ≤ 1000000000)
    (ht : M.tr.length < 1000000000) (hat : s.at_ < 7) (k : ∀ nx' H1, NxOk (s.step M th).1 nx' → Sat (Own p (rcutC (s.step M th).1 nx' v) :: RefP m (s.step M th).2 :: R3) H1 → K (.bool (eqZ (Int.ofNat (s.step M th).1.at_) (Int.ofNat 7))) H1) :
    Call1 Try.prog con 26 [ptr p 0, ptr m 0, i64 th] H K := by
  refine call_of (hc _ _ _ rfl) ?_
  rw [rcutStep_W]
  have hs0 := hs.takes (.cons hm (.cons hp .nil))
  simp only [List.cons_append, List.nil_append] at hs0
  obtain ⟨obj, fl, st, at_, x, sx, y, y0, sy, found, head, told⟩ := s
  simp only at hat hq hl
  rcases (by omega : at_ = 0 ∨ at_ = 1 ∨ at_ = 2 ∨ at_ = 3 ∨ at_ = 4 ∨ at_ = 5 ∨ at_ = 6) with rfl | rfl | rfl | rfl | rfl | rfl | rfl
  · simp only [CutS.step, go0] at k
    repeat (first | refine run ?_ | refine Cd.t rfl ?_ | refine Cd.f rfl ?_ | refine Cd.t (by decide +kernel) ?_ | refine Cd.f (by decide +kernel) ?_ | refine Sc.mk rfl ?_ | refine ld (by assumption) rfl ?_ | refine nw (by assumption) fun _ _ _ => ?_ | refine stB (by assumption) rfl rfl fun _ _ => ?_)
    refine refLoad_ok hc hs0 (by repeat (first | exact Pull.here | apply Pull.there)) ht fun H1 h1 => ?_
    repeat (first | refine run ?_ | refine Cd.t rfl ?_ | refine Cd.f rfl ?_ | refine Cd.t (by decide +kernel) ?_ | refine Cd.f (by decide +kernel) ?_ | refine Sc.mk rfl ?_ | refine ld (by assumption) rfl ?_ | refine nw (by assumption) fun _ _ _ => ?_ | refine stB (by assumption) rfl rfl fun _ _ => ?_)
    by_cases h : M.peek obj = 0
    · simp only [if_pos h] at k
      refine Cd.t (eqN_t h) ?_
      refine rcutEnd_ok hc ⟨obj, fl, st, 1, M.peek obj, sx, y, y0, sy, found, head, told⟩ nx (by simp) (by assumption) (by repeat (first | exact Pull.here | apply Pull.there)) fun H2 h2 => ?_
      exact rcutTail _ nx h2 (by repeat (first | exact Pull.here | apply Pull.there)) (k nx H2 (fun h6 => by simp [CutS.fin] at h6)) (by simp [CutS.fin])
    · simp only [if_neg h] at k
      refine Cd.f (eqN_f h) ?_
      exact rcutTail ⟨obj, fl, st, 1, M.peek obj, sx, y, y0, sy, found, head, told⟩ nx (by assumption) (by repeat (first | exact Pull.here | apply Pull.there)) (k nx _ (fun h6 => by simp [CutS.fin] at h6)) (by simp)
  · simp only [CutS.step, go1] at k
    repeat (first | refine run ?_ | refine Cd.t rfl ?_ | refine Cd.f rfl ?_ | refine Cd.t (by decide +kernel) ?_ | refine Cd.f (by decide +kernel) ?_ | refine Sc.mk rfl ?_ | refine ld (by assumption) rfl ?_ | refine nw (by assumption) fun _ _ _ => ?_ | refine stB (by assumption) rfl rfl fun _ _ => ?_)
    refine refLoad_ok hc hs0 (by repeat (first | exact Pull.here | apply Pull.there)) ht fun H1 h1 => ?_
    refine Sc.mk rfl (stB h1 rfl rfl fun H2 h2 => ?_)
    repeat (first | refine run ?_ | refine Cd.t rfl ?_ | refine Cd.f rfl ?_ | refine Cd.t (by decide +kernel) ?_ | refine Cd.f (by decide +kernel) ?_ | refine Sc.mk rfl ?_ | refine ld (by assumption) rfl ?_ | refine nw (by assumption) fun _ _ _ => ?_ | refine stB (by assumption) rfl rfl fun _ _ => ?_)
    by_cases h : M.peek (addM x 1) = 0
    · simp only [if_pos h] at k
      refine Cd.t (eqN_t h) (stB (by assumption) rfl rfl fun H8 h8 => stB h8 rfl rfl fun H9 h9 => ?_)
      exact rcutTail ⟨obj, fl, st, 2, x, 18446744073709551615, y, y0, sy, found, head, told⟩ nx h9 (by repeat (first | exact Pull.here | apply Pull.there)) (k nx _ (fun h6 => by simp [CutS.fin] at h6)) (by simp)
    · simp only [if_neg h] at k
      refine Cd.f (eqN_f h) (stB (by assumption) rfl rfl fun H9 h9 => ?_)
      exact rcutTail ⟨obj, fl, st, 2, x, M.peek (addM x 1), y, y0, sy, found, head, told⟩ nx h9 (by repeat (first | exact Pull.here | apply Pull.there)) (k nx _ (fun h6 => by simp [CutS.fin] at h6)) (by simp)
  · simp only [CutS.step, go2] at k
    repeat (first | refine run ?_ | refine Cd.t rfl ?_ | refine Cd.f rfl ?_ | refine Cd.t (by decide +kernel) ?_ | refine Cd.f (by decide +kernel) ?_ | refine Sc.mk rfl ?_ | refine ld (by assumption) rfl ?_ | refine nw (by assumption) fun _ _ _ => ?_ | refine stB (by assumption) rfl rfl fun _ _ => ?_)
    refine refLoad_ok hc hs0 (by repeat (first | exact Pull.here | apply Pull.there)) ht fun H1 h1 => ?_
    refine Sc.mk rfl (stB h1 rfl rfl fun H2 h2 => stB h2 rfl rfl fun H3 h3 => ?_)
    exact rcutTail ⟨obj, fl, st, 3, x, sx, y, y0, sy, found, head, M.peek x⟩ nx h3 (by repeat (first | exact Pull.here | apply Pull.there)) (k nx _ (fun h6 => by simp [CutS.fin] at h6)) (by simp)
  · simp only [CutS.step, go3, CutS.on] at k
    repeat (first | refine run ?_ | refine Cd.t rfl ?_ | refine Cd.f rfl ?_ | refine Cd.t (by decide +kernel) ?_ | refine Cd.f (by decide +kernel) ?_ | refine Sc.mk rfl ?_ | refine ld (by assumption) rfl ?_ | refine nw (by assumption) fun _ _ _ => ?_ | refine stB (by assumption) rfl rfl fun _ _ => ?_)
    refine refLoad_ok hc hs0 (by repeat (first | exact Pull.here | apply Pull.there)) ht fun H1 h1 => ?_
    repeat (first | refine run ?_ | refine Cd.t rfl ?_ | refine Cd.f rfl ?_ | refine Cd.t (by decide +kernel) ?_ | refine Cd.f (by decide +kernel) ?_ | refine Sc.mk rfl ?_ | refine ld (by assumption) rfl ?_ | refine nw (by assumption) fun _ _ _ => ?_ | refine stB (by assumption) rfl rfl fun _ _ => ?_)
    by_cases h : M.peek (addM x 2) = 0
    · refine Cd.t (eqN_t h) ?_
      refine rcutEnd_ok hc ⟨obj, fl, st, 4, x, sx, M.peek (addM x 2), M.peek (addM x 2), sy, found, head, told⟩ nx (by simp) (by assumption) (by repeat (first | exact Pull.here | apply Pull.there)) fun H2 h2 => ?_
      simp only [if_pos h, CutS.stay, CutS.further, if_true] at k
      exact rcutTail _ nx h2 (by repeat (first | exact Pull.here | apply Pull.there)) (k nx H2 (fun h6 => by simp [CutS.fin] at h6)) (by simp [CutS.fin])
    · simp only [if_neg h] at k
      refine Cd.f (eqN_f h) ?_
      exact rcutTail ⟨obj, fl, st, 4, x, sx, M.peek (addM x 2), M.peek (addM x 2), sy, found, head, told⟩ nx (by assumption) (by repeat (first | exact Pull.here | apply Pull.there)) (k nx _ (fun h6 => by simp [CutS.fin] at h6)) (by simp)
  · simp only [CutS.step, go4] at k
    repeat (first | refine run ?_ | refine Cd.t rfl ?_ | refine Cd.f rfl ?_ | refine Cd.t (by decide +kernel) ?_ | refine Cd.f (by decide +kernel) ?_ | refine Sc.mk rfl ?_ | refine ld (by assumption) rfl ?_ | refine nw (by assumption) fun _ _ _ => ?_ | refine stB (by assumption) rfl rfl fun _ _ => ?_)
    refine refLoad_ok hc hs0 (by repeat (first | exact Pull.here | apply Pull.there)) ht fun H1 h1 => ?_
    repeat (first | refine run ?_ | refine Cd.t rfl ?_ | refine Cd.f rfl ?_ | refine Cd.t (by decide +kernel) ?_ | refine Cd.f (by decide +kernel) ?_ | refine Sc.mk rfl ?_ | refine ld (by assumption) rfl ?_ | refine nw (by assumption) fun _ _ _ => ?_ | refine stB (by assumption) rfl rfl fun _ _ => ?_)
    refine refNeeded_ok hc h1 (Has.skip (Has.skip hq)) hl fun H3 h3 => ?_
    repeat (first | refine run ?_ | refine Cd.t rfl ?_ | refine Cd.f rfl ?_ | refine Cd.t (by decide +kernel) ?_ | refine Cd.f (by decide +kernel) ?_ | refine Sc.mk rfl ?_ | refine ld (by assumption) rfl ?_ | refine nw (by assumption) fun _ _ _ => ?_ | refine stB (by assumption) rfl rfl fun _ _ => ?_)
    cases hnd : needed fl st (M.peek (addM y 1)) sx with
    | true =>
      simp only [hnd, if_true] at k
      refine Cd.t rfl ?_
      have h4 : Sat (Own p (rcutC ⟨obj, fl, st, 4, x, sx, y, y0, M.peek (addM y 1), found, head, told⟩ nx v) :: RefP m (M.load th (addM y 1)) :: R3) H3 := h3.ent (by repeat (first | exact Ent.refl _ | exact Ent.none | apply Ent.cons (by repeat (first | exact Pull.here | apply Pull.there)) | refine Ent.drop ?_))
      refine rcutEnough_ok hc ⟨obj, fl, st, 4, x, sx, y, y0, M.peek (addM y 1), found, head, told⟩ nx (M.peek (addM y 1)) (by simp) (fun _ => rfl) h4 (by repeat (first | exact Pull.here | apply Pull.there)) fun H4 h5 => ?_
      exact rcutTail _ _ h5 (by repeat (first | exact Pull.here | apply Pull.there)) (k _ _ (fin_nx (stay_nx _ fun _ => rfl))) (by rw [fin_at]; exact stay_le _)
    | false =>
      simp only [hnd] at k
      have h4 : Sat (Own p (rcutC ⟨obj, fl, st, 4, x, sx, y, y0, M.peek (addM y 1), found, head, told⟩ nx v) :: RefP m (M.load th (addM y 1)) :: R3) H3 := h3.ent (by repeat (first | exact Ent.refl _ | exact Ent.none | apply Ent.cons (by repeat (first | exact Pull.here | apply Pull.there)) | refine Ent.drop ?_))
      refine Cd.f rfl (ld h4 rfl (AsNat.mk (stB h4 rfl rfl fun H4 h4 => stB h4 rfl rfl fun H5 h5 => ?_)))
      exact rcutTail ⟨obj, fl, st, 5, x, sx, y, y0, M.peek (addM y 1), addM found 1, head, told⟩ nx h5 (by repeat (first | exact Pull.here | apply Pull.there)) (k nx _ (fun h6 => by simp [CutS.fin] at h6)) (by simp)
  · simp only [CutS.step, go5, CutS.on] at k
    repeat (first | refine run ?_ | refine Cd.t rfl ?_ | refine Cd.f rfl ?_ | refine Cd.t (by decide +kernel) ?_ | refine Cd.f (by decide +kernel) ?_ | refine Sc.mk rfl ?_ | refine ld (by assumption) rfl ?_ | refine nw (by assumption) fun _ _ _ => ?_ | refine stB (by assumption) rfl rfl fun _ _ => ?_)
    refine refLoad_ok hc hs0 (by repeat (first | exact Pull.here | apply Pull.there)) ht fun H1 h1 => ?_
    repeat (first | refine run ?_ | refine Cd.t rfl ?_ | refine Cd.f rfl ?_ | refine Cd.t (by decide +kernel) ?_ | refine Cd.f (by decide +kernel) ?_ | refine Sc.mk rfl ?_ | refine ld (by assumption) rfl ?_ | refine nw (by assumption) fun _ _ _ => ?_ | refine stB (by assumption) rfl rfl fun _ _ => ?_)
    by_cases h : M.peek (addM y 2) = 0
    · simp only [if_pos h] at k
      refine Cd.t (eqN_t h) ?_
      refine rcutEnough_ok hc ⟨obj, fl, st, 4, x, sx, M.peek (addM y 2), y0, sy, found, head, told⟩ nx 0 (by simp) (fun hh => absurd h hh) (by assumption) (by repeat (first | exact Pull.here | apply Pull.there)) fun H4 h5 => ?_
      exact rcutTail _ _ h5 (by repeat (first | exact Pull.here | apply Pull.there)) (k _ _ (fin_nx (stay_nx _ fun hh => absurd h hh))) (by rw [fin_at]; exact stay_le _)
    · simp only [if_neg h] at k
      refine Cd.f (eqN_f h) ?_
      exact rcutTail ⟨obj, fl, st, 4, x, sx, M.peek (addM y 2), y0, sy, found, head, told⟩ nx (by assumption) (by repeat (first | exact Pull.here | apply Pull.there)) (k nx _ (fun h6 => by simp [CutS.fin] at h6)) (by simp)
  · simp only [CutS.step, go6, CutS.further] at k
    repeat (first | refine run ?_ | refine Cd.t rfl ?_ | refine Cd.f rfl ?_ | refine Cd.t (by decide +kernel) ?_ | refine Cd.f (by decide +kernel) ?_ | refine Sc.mk rfl ?_ | refine ld (by assumption) rfl ?_ | refine nw (by assumption) fun _ _ _ => ?_ | refine stB (by assumption) rfl rfl fun _ _ => ?_)
    refine refStore_ok hc hs0 (by repeat (first | exact Pull.here | apply Pull.there)) ht fun H1 h1 => ?_
    repeat (first | refine run ?_ | refine Cd.t rfl ?_ | refine Cd.f rfl ?_ | refine Cd.t (by decide +kernel) ?_ | refine Cd.f (by decide +kernel) ?_ | refine Sc.mk rfl ?_ | refine ld (by assumption) rfl ?_ | refine nw (by assumption) fun _ _ _ => ?_ | refine stB (by assumption) rfl rfl fun _ _ => ?_)
    by_cases h : y = 0
    · simp only [if_pos h] at k
      refine Cd.t (eqN_t h) ?_
      refine rcutEnd_ok hc ⟨obj, fl, st, 3, x, sx, y, y0, sy, found, head, told⟩ nx (by simp) (by assumption) (by repeat (first | exact Pull.here | apply Pull.there)) fun H2 h2 => ?_
      exact rcutTail _ nx h2 (by repeat (first | exact Pull.here | apply Pull.there)) (k nx H2 (fun h6 => by simp [CutS.fin] at h6)) (by simp [CutS.fin])
    · simp only [if_neg h] at k
      have enx : nx = sy := hnx rfl h
      subst enx
      refine Cd.f (eqN_f h) ?_
      repeat (first | refine run ?_ | refine Cd.t rfl ?_ | refine Cd.f rfl ?_ | refine Cd.t (by decide +kernel) ?_ | refine Cd.f (by decide +kernel) ?_ | refine Sc.mk rfl ?_ | refine ld (by assumption) rfl ?_ | refine nw (by assumption) fun _ _ _ => ?_ | refine stB (by assumption) rfl rfl fun _ _ => ?_)
      exact k _ _ (fun h6 => by simp [CutS.fin] at h6) (Sat.ent (by assumption) (by repeat (first | exact Ent.refl _ | exact Ent.none | apply Ent.cons (by repeat (first | exact Pull.here | apply Pull.there)) | refine Ent.drop ?_)))
end Go.Proofs.Ytipbbnoepphdkaa

set_option linter.unusedVariables false
set_option linter.unusedSimpArgs false
namespace Go.Proofs.Ytipbbnoepphdkaa
open Go Go.CM
attribute [local irreducible] AsBool AsWant AsNat AsInt AsCnt AsPtr AsSlc AsLen AsStr AsAgg AsTup AsFn AsIfc Nth Sc NotNil IsNil Must Cd codeW funW Sat SatL wrapN subM mkRow ltZ leZ ltN leN
variable {con : CallT}

/-- A call that is answered ahead. -/
theorem call_con {f : FuncId} {args : List Value} {H H1 : CH} {v : Value} {K : KP} (h : con f ⟨args⟩ H = some (v, H1)) (k : K v H1) : Call1 Try.prog con f args H K := ⟨⟨0, v, H1, h, k⟩⟩

theorem newCut_ok (hc : Con con lives) {L : List HP} {H : CH} {obj fl ca : Nat} {v : Value} {st : List Nat} {K : KP} (hs : Sat L H) (hq : Has L (Nums v st)) (hl : st.length ≤ 1000000000)
    (k : ∀ p v' H1, Sat (Own p (cutC ⟨obj, fl, st, 0, 0, 0, 0, 0, 0, 0, 0, 0⟩ v') :: Nums v' st :: L) H1 → K (ptr p 0) H1) : Call1 Try.prog con 25 [u64 ca, u64 obj, .agg ⟨[u64 fl, v]⟩] H K := by
  refine call_of (hc _ _ _ rfl) ?_
  rw [newCut_W]
  refine nw hs fun p1 H1 h1 => ?_
  repeat (first | refine run ?_ | refine Cd.t rfl ?_ | refine Cd.f rfl ?_ | refine Cd.t (by decide +kernel) ?_ | refine Cd.f (by decide +kernel) ?_ | refine Sc.mk rfl ?_ | refine ld (by assumption) rfl ?_ | refine nw (by assumption) fun _ _ _ => ?_ | refine stB (by assumption) rfl rfl fun _ _ => ?_)
  refine cloneN_ok hc h1 (Has.skip hq) hl fun v' H2 hv h2 => ?_
  refine Sc.mk rfl (Sc.mk hv ?_)
  refine nw h2 fun p H3 h3 => ?_
  repeat (first | refine run ?_ | refine Cd.t rfl ?_ | refine Cd.f rfl ?_ | refine Cd.t (by decide +kernel) ?_ | refine Cd.f (by decide +kernel) ?_ | refine Sc.mk rfl ?_ | refine ld (by assumption) rfl ?_ | refine nw (by assumption) fun _ _ _ => ?_ | refine stB (by assumption) rfl rfl fun _ _ => ?_)
  exact k p v' _ (h3.ent (by repeat (first | exact Ent.refl _ | exact Ent.none | apply Ent.cons (by repeat (first | exact Pull.here | apply Pull.there)) | refine Ent.drop ?_)))

theorem cutCount_ok (hc : Con con lives) (s : CutS) {L : List HP} {H : CH} {p : Nat} {v : Value} {K : KP} (hs : Sat L H) [HasCell L p (cutC s v)] (k : K (u64 (if s.at_ = 7 then s.found else 0)) H) : Call1 Try.prog con 16 [ptr p 0] H K := by
  refine call_of (hc _ _ _ rfl) ?_
  rw [cutCount_W]
  repeat (first | refine run ?_ | refine Cd.t rfl ?_ | refine Cd.f rfl ?_ | refine Cd.t (by decide +kernel) ?_ | refine Cd.f (by decide +kernel) ?_ | refine Sc.mk rfl ?_ | refine ld (by assumption) rfl ?_ | refine nw (by assumption) fun _ _ _ => ?_ | refine stB (by assumption) rfl rfl fun _ _ => ?_)
  by_cases h : s.at_ = 7
  · refine Cd.f (by rw [eqZ_t h]; rfl) ?_
    rw [if_pos h] at k
    repeat (first | refine run ?_ | refine Cd.t rfl ?_ | refine Cd.f rfl ?_ | refine Cd.t (by decide +kernel) ?_ | refine Cd.f (by decide +kernel) ?_ | refine Sc.mk rfl ?_ | refine ld (by assumption) rfl ?_ | refine nw (by assumption) fun _ _ _ => ?_ | refine stB (by assumption) rfl rfl fun _ _ => ?_)
    exact k
  · refine Cd.t (by rw [eqZ_f h]; rfl) ?_
    rw [if_neg h] at k
    exact k

theorem cutHead_ok (hc : Con con lives) (s : CutS) {L : List HP} {H : CH} {p : Nat} {v : Value} {K : KP} (hs : Sat L H) [HasCell L p (cutC s v)] (k : K (u64 s.head) H) : Call1 Try.prog con 17 [ptr p 0] H K := by
  refine call_of (hc _ _ _ rfl) ?_
  rw [cutHead_W]
  repeat (first | refine run ?_ | refine Cd.t rfl ?_ | refine Cd.f rfl ?_ | refine Cd.t (by decide +kernel) ?_ | refine Cd.f (by decide +kernel) ?_ | refine Sc.mk rfl ?_ | refine ld (by assumption) rfl ?_ | refine nw (by assumption) fun _ _ _ => ?_ | refine stB (by assumption) rfl rfl fun _ _ => ?_)
  exact k

/-- Short traces, without allotments. -/
def Calm (M : Mem) (n : Nat) : Prop := M.tr.length ≤ n ∧ ∀ a ∈ M.tr, a.vals.length ≤ 1000000000
theorem Calm.note {M : Mem} {n : Nat} {c : Acs} (h : Calm M n) (hc : c.vals = []) : Calm (M.note c) (n + 1) := by
  refine ⟨by simp [Mem.note]; exact h.1, fun a ha => ?_⟩
  simp only [Mem.note, List.mem_append, List.mem_singleton] at ha
  rcases ha with ha | rfl
  · exact h.2 a ha
  · rw [hc]; simp
theorem Calm.load {M : Mem} {n a : Nat} {th : Int} (h : Calm M n) : Calm (M.load th a) (n + 1) := h.note rfl
theorem Calm.store {M : Mem} {n a x : Nat} {th : Int} (h : Calm M n) : Calm (M.store th a x) (n + 1) := Calm.note (M := M.put a x) h rfl
theorem Calm.step {M : Mem} {n : Nat} {s : CutS} {th : Int} (h : Calm M n) : Calm (s.step M th).2 (n + 1) := by
  unfold CutS.step CutS.go
  simp only
  repeat' split
  all_goals first | exact h.load | exact h.store
theorem further_st (s : CutS) : s.further.st = s.st := by unfold CutS.further; split <;> rfl
theorem stay_st (s : CutS) : s.stay.st = s.st := by unfold CutS.stay; split; exact further_st s; rfl
theorem on_st (s : CutS) : s.on.st = s.st := by unfold CutS.on; split; exact stay_st _; rfl
theorem fin_st (s : CutS) : s.fin.st = s.st := by unfold CutS.fin; split <;> rfl
theorem step_st (s : CutS) (M : Mem) (th : Int) : (s.step M th).1.st = s.st := by
  unfold CutS.step
  rw [fin_st]
  unfold CutS.go
  repeat' split
  all_goals first | rfl | exact on_st _ | exact stay_st _ | exact further_st _
theorem on_le (s : CutS) : s.on.at_ ≤ 7 := by unfold CutS.on; split; exact stay_le _; simp
theorem step_le (s : CutS) (M : Mem) (th : Int) : (s.step M th).1.at_ ≤ 7 := by
  unfold CutS.step
  rw [fin_at]
  unfold CutS.go
  repeat' split
  all_goals first | exact on_le _ | exact stay_le _ | exact further_le _ | simp

end Go.Proofs.Ytipbbnoepphdkaa

set_option linter.unusedVariables false
set_option linter.unusedSimpArgs false
namespace Go.Proofs.Ytipbbnoepphdkaa
open Go Go.CM
attribute [local irreducible] AsBool AsWant AsNat AsInt AsCnt AsPtr AsSlc AsLen AsStr AsAgg AsTup AsFn AsIfc Nth Sc NotNil IsNil Must Cd codeW funW Sat SatL wrapN subM mkRow ltZ leZ ltN leN
variable {con : CallT}

theorem plainAlloc_ok (hc : Con con lives) {R : List HP} {H : CH} {bp bl fr : Nat} {cells vals : List Nat} {v : Value} {K : KP} (hs : Sat (Own bp [slc bl 0 cells.length cells.length, iN fr] :: Row bl tU 0 true (cells.map u64) :: R) H)
    (hn : cells.length ≤ 4194304) (hf : fr ≤ cells.length) (hv : Has R (Nums v vals)) (hl : vals.length ≤ 1000000000) (hp : 0 < vals.length)
    (k0 : cells.length - fr < vals.length → K (u64 0) H) (k1 : vals.length ≤ cells.length - fr → ∀ H1, Sat (Own bp [slc bl 0 cells.length cells.length, iN (fr + vals.length)] :: Row bl tU 0 true ((ovN vals cells fr).map u64) :: R) H1 → K (u64 fr) H1) :
    Call1 Try.prog con 225 [ptr bp 0, v] H K := by
  refine call_of (hc _ _ _ rfl) ?_
  rw [plainAlloc_W]
  rcases (hs.has (Has.skip (Has.skip hv))).shape with ⟨rfl, rfl⟩ | ⟨b, o, c, rfl⟩
  · simp at hp
  repeat (first | refine run ?_ | refine Cd.t rfl ?_ | refine Cd.f rfl ?_ | refine Cd.t (by decide +kernel) ?_ | refine Cd.f (by decide +kernel) ?_ | refine Sc.mk rfl ?_ | refine ld (by assumption) rfl ?_ | refine nw (by assumption) fun _ _ _ => ?_ | refine stB (by assumption) rfl rfl fun _ _ => ?_)
  rw [subInt hf]
  refine inR_nat (by omega) ?_
  refine Cd.of (fun h => ?_) (fun h => ?_)
  · refine k0 ?_
    exact ltZ_e h
  · have hle : vals.length ≤ cells.length - fr := ltZ_n h
    repeat (first | refine run ?_ | refine Cd.t rfl ?_ | refine Cd.f rfl ?_ | refine Cd.t (by decide +kernel) ?_ | refine Cd.f (by decide +kernel) ?_ | refine Sc.mk rfl ?_ | refine ld (by assumption) rfl ?_ | refine nw (by assumption) fun _ _ _ => ?_ | refine stB (by assumption) rfl rfl fun _ _ => ?_)
    have hs2 : Sat (Row bl tU 0 true (cells.map u64) :: Own bp [slc bl 0 cells.length cells.length, iN fr] :: R) H := hs.ent (by repeat (first | exact Ent.refl _ | exact Ent.none | apply Ent.cons (by repeat (first | exact Pull.here | apply Pull.there)) | refine Ent.drop ?_))
    refine slcR hs2 el_u64 hf (Nat.le_refl _) fun o' ho' => ?_
    obtain rfl := ho' (by omega)
    refine cpy (n := vals.length) hs el_u64 (Nat.min_eq_left (by omega)) (Src.skip (Src.skip (hv.src rfl))) (by simp) (by simp; omega) (isCell_u64 _) fun H1 h1 => ?_
    rw [Nat.mul_one, ovw_map] at h1
    repeat (first | refine run ?_ | refine Cd.t rfl ?_ | refine Cd.f rfl ?_ | refine Cd.t (by decide +kernel) ?_ | refine Cd.f (by decide +kernel) ?_ | refine Sc.mk rfl ?_ | refine ld (by assumption) rfl ?_ | refine nw (by assumption) fun _ _ _ => ?_ | refine stB (by assumption) rfl rfl fun _ _ => ?_)
    rw [addInt]
    refine inR_nat (by omega) ?_
    refine stB h1 rfl rfl fun H2 h2 => ?_
    repeat (first | refine run ?_ | refine Cd.t rfl ?_ | refine Cd.f rfl ?_ | refine Cd.t (by decide +kernel) ?_ | refine Cd.f (by decide +kernel) ?_ | refine Sc.mk rfl ?_ | refine ld (by assumption) rfl ?_ | refine nw (by assumption) fun _ _ _ => ?_ | refine stB (by assumption) rfl rfl fun _ _ => ?_)
    refine Must.mk (cv_small (by omega)) ?_
    rw [wrapN_small (by omega)]
    exact k1 hle _ h2

theorem viewAlloc_ok (hc : Con con lives) {L R1 R2 : List HP} {H : CH} {p m n : Nat} {th : Int} {M : Mem} {v : Value} {vals : List Nat} {K : KP} (hs : Sat L H) (hm : Pull L (MemP m M) R1) (hv : Pull R1 (ViewAt p m th n) R2) (hq : Has R2 (Nums v vals)) (hl : vals.length ≤ 1000000000)
    (hn : n < 1000000000) (ht : M.tr.length < 1000000000) (k : ∀ H1, Sat (MemP m (M.alloc th vals) :: ViewAt p m th (n + 1) :: R2) H1 → K (u64 (M.room vals)) H1) : Call1 Try.prog con 34 [ptr p 0, v] H K := by
  refine call_of (hc _ _ _ rfl) ?_
  rw [viewAlloc_W]
  have hs0 := hs.takes (.cons hm (.cons hv .nil))
  simp only [List.cons_append, List.nil_append] at hs0
  have tail : ∀ {a : Nat} {M' : Mem} {H1 : CH} {K' : KP}, Sat (MemP m M' :: ViewAt p m th n :: R2) H1 → M'.tr.length < 1000000000 → (∀ H2, Sat (MemP m (M'.note (accNew th a vals)) :: ViewAt p m th (n + 1) :: R2) H2 → K' (u64 a) H2) →
      Call1 Try.prog con 87 [v] H1 fun v8 H9 => Sc (u64 a) (Sc v8 (Call1 Try.prog con 84 [ptr p 0, .agg ⟨[i64 (Int.ofNat 0), u8 5, u64 a, u64 0, u64 0, v8, u64 0, .bool false]⟩] H9 fun v10 H11 => K' (u64 a) H11)) := by
    intro a M' H1 K' h1 ht' k'
    refine cloneN_ok hc h1 (Has.skip (Has.skip hq)) hl fun v' H2 hc' h2 => ?_
    refine Sc.mk rfl (Sc.mk hc' ?_)
    exact note_ok (th := th) (M := M') (c := accNew 0 a vals) (v0 := v') hc h2 (by repeat (first | exact Pull.here | apply Pull.there)) (by repeat (first | exact Pull.here | apply Pull.there)) (by repeat (first | exact Pull.here | apply Pull.there)) hn ht' hc' fun H3 h3 => k' _ h3
  obtain ⟨pv, cv, rfl⟩ := (hs0.has (Has.skip (Has.skip hq))).len
  repeat (first | refine run ?_ | refine Cd.t rfl ?_ | refine Cd.f rfl ?_ | refine Cd.t (by decide +kernel) ?_ | refine Cd.f (by decide +kernel) ?_ | refine Sc.mk rfl ?_ | refine ld (by assumption) rfl ?_ | refine nw (by assumption) fun _ _ _ => ?_ | refine stB (by assumption) rfl rfl fun _ _ => ?_)
  refine Cd.of (fun h => ?_) (fun h => ?_)
  · have hpos : 0 < vals.length := ltZ_e h
    obtain ⟨h1, h2, s1, s2, d, ⟨bp, bl, tr, ⟨hn1, hf1⟩, hin⟩, hR⟩ := hs0.opens Pull.here
    have hs1 := Sat.merge s1 s2 d hin hR
    simp only [List.cons_append, List.nil_append] at hs1
    repeat (first | refine run ?_ | refine Cd.t rfl ?_ | refine Cd.f rfl ?_ | refine Cd.t (by decide +kernel) ?_ | refine Cd.f (by decide +kernel) ?_ | refine Sc.mk rfl ?_ | refine ld (by assumption) rfl ?_ | refine nw (by assumption) fun _ _ _ => ?_ | refine stB (by assumption) rfl rfl fun _ _ => ?_)
    refine Mth.of (f := 225) (rc := ptr bp 0) (by kernel_rfl) (by kernel_rfl) ?_
    have hs2 : Sat (Own bp [slc bl 0 M.cells.length M.cells.length, iN M.free] :: Row bl tU 0 true (M.cells.map u64) :: Own m [.iface tPl (ptr bp 0), .bool false, tr] :: TrAt tr tA M.tr :: ViewAt p m th n :: R2) H := hs1.ent (by repeat (first | exact Ent.refl _ | exact Ent.none | apply Ent.cons (by repeat (first | exact Pull.here | apply Pull.there)) | refine Ent.drop ?_))
    refine plainAlloc_ok hc hs2 hn1 hf1 (Has.skip (Has.skip (Has.skip hq))) hl hpos (fun hlt => ?_) (fun hle H3 h3 => ?_)
    · have hno : ¬ (0 < vals.length ∧ vals.length ≤ M.cells.length - M.free) := by omega
      have e1 := room_f hno
      rw [alloc_f hno, e1] at k
      exact tail hs0 ht k
    · rw [alloc_t hpos hle, room_t hpos hle] at k
      have h4 : Sat (MemP m (M.take vals) :: ViewAt p m th n :: R2) H3 := Sat.close (L1 := [Own m [.iface tPl (ptr bp 0), .bool false, tr], Own bp [slc bl 0 M.cells.length M.cells.length, iN (M.free + vals.length)], Row bl tU 0 true ((ovN vals M.cells M.free).map u64), TrAt tr tA M.tr]) (h3.ent (by repeat (first | exact Ent.refl _ | exact Ent.none | apply Ent.cons (by repeat (first | exact Pull.here | apply Pull.there)) | refine Ent.drop ?_))) fun g a => ⟨bp, bl, tr, ⟨by show (ovN vals M.cells M.free).length ≤ _; rw [ovN_len]; exact hn1, by show M.free + vals.length ≤ (ovN vals M.cells M.free).length; rw [ovN_len]; omega⟩, by show SatL [_, Own bp [slc bl 0 (ovN vals M.cells M.free).length (ovN vals M.cells M.free).length, iN (M.free + vals.length)], _, _] g; rw [ovN_len]; exact a⟩
      exact tail h4 ht k
  · have h0 : vals.length = 0 := by
      have := ltZ_n h
      omega
    have hno : ¬ (0 < vals.length ∧ vals.length ≤ M.cells.length - M.free) := by omega
    rw [alloc_f hno, room_f hno] at k
    have := tail (a := 0) (K' := K) hs0 ht k
    refine cloneN_ok hc hs0 (Has.skip (Has.skip hq)) hl fun v' H2 hc' h2 => ?_
    refine Sc.mk hc' ?_
    exact note_ok (th := th) (M := M) (c := accNew 0 0 vals) (v0 := v') hc h2 (by repeat (first | exact Pull.here | apply Pull.there)) (by repeat (first | exact Pull.here | apply Pull.there)) (by repeat (first | exact Pull.here | apply Pull.there)) hn ht hc' fun H3 h3 => k _ h3

theorem memMade_ok (hc : Con con lives) {L R : List HP} {H : CH} {m : Nat} {M : Mem} {K : KP} (hs : Sat L H) (hp : Pull L (MemP m M) R) (k : K (iN M.tr.length) H) : Call1 Try.prog con 129 [ptr m 0] H K := by
  refine call_of (hc _ _ _ rfl) ?_
  rw [memMade_W]
  obtain ⟨h1, h2, s1, s2, d, ⟨bp, bl, tr, ⟨hn, hf⟩, hin⟩, hR⟩ := hs.opens hp
  have hs1 := Sat.merge s1 s2 d hin hR
  simp only [List.cons_append, List.nil_append] at hs1
  obtain ⟨g1, g2, t1, t2, d2, hT, _⟩ := hs1.opens (.there (.there (.there .here)))
  obtain ⟨q, rfl⟩ := hT.shape
  repeat (first | refine run ?_ | refine Cd.t rfl ?_ | refine Cd.f rfl ?_ | refine Cd.t (by decide +kernel) ?_ | refine Cd.f (by decide +kernel) ?_ | refine Sc.mk rfl ?_ | refine ld (by assumption) rfl ?_ | refine nw (by assumption) fun _ _ _ => ?_ | refine stB (by assumption) rfl rfl fun _ _ => ?_)
  exact k

theorem refLeft_ok (hc : Con con lives) {L R : List HP} {H : CH} {m : Nat} {M : Mem} {K : KP} (hs : Sat L H) (hp : Pull L (RefP m M) R) (k : M.free ≤ M.cells.length → M.cells.length ≤ 4194304 → K (iN (M.cells.length - M.free)) H) : Call1 Try.prog con 178 [ptr m 0] H K := by
  refine call_of (hc _ _ _ rfl) ?_
  rw [refLeft_W]
  obtain ⟨h1, h2, s1, s2, d, ⟨bl, tr, ⟨hn, hf⟩, hin⟩, hR⟩ := hs.opens hp
  have hs1 := Sat.merge s1 s2 d hin hR
  simp only [List.cons_append, List.nil_append] at hs1
  repeat (first | refine run ?_ | refine Cd.t rfl ?_ | refine Cd.f rfl ?_ | refine Cd.t (by decide +kernel) ?_ | refine Cd.f (by decide +kernel) ?_ | refine Sc.mk rfl ?_ | refine ld (by assumption) rfl ?_ | refine nw (by assumption) fun _ _ _ => ?_ | refine stB (by assumption) rfl rfl fun _ _ => ?_)
  rw [subInt hf]
  refine inR_nat (by omega) ?_
  exact k hf hn

theorem refAlloc_ok (hc : Con con lives) {L R : List HP} {H : CH} {m : Nat} {th : Int} {M : Mem} {v : Value} {vals : List Nat} {K : KP} (hs : Sat L H) (hp : Pull L (RefP m M) R) (hq : Has R (Nums v vals)) (hl : vals.length ≤ 1000000000)
    (ht : M.tr.length < 1000000000) (k : ∀ H1, Sat (RefP m (M.alloc th vals) :: R) H1 → K (u64 (M.room vals)) H1) : Call1 Try.prog con 164 [ptr m 0, i64 th, v] H K := by
  refine call_of (hc _ _ _ rfl) ?_
  rw [refAlloc_W]
  have hs0 := hs.pull hp
  have app : ∀ {M' : Mem} {H1 : CH} {K' : KP}, Sat (RefP m M' :: R) H1 → (∀ v' H2, isCell v' = true → Sat (Nums v' vals :: RefP m M' :: R) H2 → K' v' H2) → App Try.prog tUS tUS H1 (.slice none 0 0) v K' := by
    intro M' H1 K' h1 k'
    have h2 := h1.nilV (e := tU) (s := 1)
    rcases (h1.has (Has.skip hq)).shape with ⟨rfl, rfl⟩ | ⟨b, o, c, rfl⟩
    · exact App.of (v := snil) (H1 := H1) (by kernel_rfl) (k' _ _ rfl h1.nil)
    · refine app_vec (x := .slice none 0 0) (new := vals.map fun x => [u64 x]) h2 (by repeat (first | exact Pull.here | apply Pull.there)) el_u64 (by omega) sl_u64 (by rw [flat1]; exact Src.skip (Src.skip (hq.src rfl))) (by simp) (by simp) (by simpa using hl) (by rw [flat1]; exact isCell_u64 _) fun v' H2 h3 => ?_
      rw [List.nil_append] at h3
      have h4 : Sat (Nums v' vals :: RefP m M' :: R) H2 := h3.imp fun g a => a.nums
      obtain ⟨p, c', rfl⟩ := (h4.has Has.nums).len
      exact k' _ _ rfl h4
  have tail : ∀ {a : Nat} {M' : Mem} {H1 : CH} {K' : KP}, a < 9223372036854775808 → Sat (RefP m M' :: R) H1 → M'.tr.length < 1000000000 → (∀ H2, Sat (RefP m (M'.note (accNew th a vals)) :: R) H2 → K' (u64 a) H2) →
      App Try.prog tUS tUS H1 (.slice none 0 0) v fun v26 H27 => Must (cvOk .i64 (Int.ofNat a)) (Sc v26 (Call1 Try.prog con 86 [ptr m 0, .agg ⟨[i64 th, u8 5, u64 (wrapN .u64 (Int.ofNat a)), u64 0, u64 0, v26, u64 0, .bool false]⟩] H27 fun v28 H29 => Must (cvOk .i64 (Int.ofNat a)) (K' (u64 (wrapN .u64 (Int.ofNat a))) H29))) := by
    intro a M' H1 K' ha h1 ht' k'
    refine app h1 fun v' H2 hc' h2 => ?_
    refine Must.mk (cv_small ha) (Sc.mk hc' ?_)
    rw [wrapN_small (by omega)]
    exact refNote_ok (M := M') (c := accNew th a vals) (v0 := v') hc h2 (by repeat (first | exact Pull.here | apply Pull.there)) (by repeat (first | exact Pull.here | apply Pull.there)) ht' hc' fun H3 h3 => Must.mk (cv_small ha) (k' _ h3)
  obtain ⟨pv, cv, ev⟩ := (hs0.has (Has.skip hq)).len
  have eL : ∀ {K : Nat → Prop}, K vals.length → AsLen v K := fun {K} h => by rw [ev]; exact AsLen.mk h
  refine eL ?_
  refine Cd.of (fun h => ?_) (fun h => ?_)
  · have hpos : 0 < vals.length := ltZ_e h
    refine eL ?_
    refine refLeft_ok hc hs0 (by repeat (first | exact Pull.here | apply Pull.there)) fun hfree hcells => ?_
    repeat (first | refine run ?_ | refine Cd.t rfl ?_ | refine Cd.f rfl ?_ | refine Cd.t (by decide +kernel) ?_ | refine Cd.f (by decide +kernel) ?_ | refine Sc.mk rfl ?_ | refine ld (by assumption) rfl ?_ | refine nw (by assumption) fun _ _ _ => ?_ | refine stB (by assumption) rfl rfl fun _ _ => ?_)
    refine Cd.of (fun h => ?_) (fun h => ?_)
    · have hle : vals.length ≤ M.cells.length - M.free := leZ_e h
      rw [alloc_t hpos hle, room_t hpos hle] at k
      obtain ⟨h1, h2, s1, s2, d, ⟨bl, tr, ⟨hn1, hf1⟩, hin⟩, hR⟩ := hs0.opens Pull.here
      have hs1 := Sat.merge s1 s2 d hin hR
      simp only [List.cons_append, List.nil_append] at hs1
      refine ld hs1 rfl (ld hs1 rfl (eL (AsInt.mk ?_)))
      rw [addInt]
      refine inR_nat (by omega) ?_
      refine stB hs1 rfl rfl fun H2 h2 => ?_
      refine LoopC.indP (n := 100) (id := 0) (fun σ H => σ 0 = ptr m 0 ∧ σ 1 = i64 th ∧ σ 2 = v ∧ σ 7 = iN M.free ∧ Sat (RefP m (M.take vals) :: R) H) (by kernel_rfl)
        (fun (i : Nat) σ H => σ 0 = ptr m 0 ∧ σ 1 = i64 th ∧ σ 2 = v ∧ σ 7 = iN M.free ∧ σ 8 = iN i ∧ i ≤ vals.length ∧ ∃ cs : List Nat, cs.length = M.cells.length ∧ ovN (vals.drop i) cs (M.free + i) = ovN vals M.cells M.free ∧
          Sat (Own m [slc bl 0 M.cells.length M.cells.length, iN (M.free + vals.length), tr, .bool false] :: Row bl tU 0 true (cs.map u64) :: TrAt tr tA M.tr :: R) H) (fun i => vals.length - i) (fun i σ H hI => ?_) (fun σ H hP => ?_) 0 _ _
        ⟨rfl, rfl, rfl, rfl, rfl, Nat.zero_le _, M.cells, rfl, rfl, h2⟩
      · obtain ⟨e0, e1, e2, e7, e8, hi, cs, hcs, hov, hs2⟩ := hI
        rw [refAllocL_W]
        simp only [e0, e1, e2, e7, e8]
        refine eL ?_
        repeat (first | refine run ?_ | refine Cd.t rfl ?_ | refine Cd.f rfl ?_ | refine Cd.t (by decide +kernel) ?_ | refine Cd.f (by decide +kernel) ?_ | refine Sc.mk rfl ?_ | refine ld (by assumption) rfl ?_ | refine nw (by assumption) fun _ _ _ => ?_ | refine stB (by assumption) rfl rfl fun _ _ => ?_)
        by_cases hlt : i < vals.length
        · refine Cd.t (ltZ_t hlt) ?_
          repeat (first | refine run ?_ | refine Cd.t rfl ?_ | refine Cd.f rfl ?_ | refine Cd.t (by decide +kernel) ?_ | refine Cd.f (by decide +kernel) ?_ | refine Sc.mk rfl ?_ | refine ld (by assumption) rfl ?_ | refine nw (by assumption) fun _ _ _ => ?_ | refine stB (by assumption) rfl rfl fun _ _ => ?_)
          rw [addInt]
          refine inR_nat (by omega) ?_
          have eS : ∃ b o c, v = slc b o vals.length c := by
            rcases (hs2.has (Has.skip (Has.skip (Has.skip hq)))).shape with ⟨_, h4⟩ | ⟨b, o, c, h⟩
            · rw [h4] at hlt; simp at hlt
            · exact ⟨b, o, c, h⟩
          obtain ⟨b, o, c, e3⟩ := eS
          have hsrc := hq.src e3
          rw [e3]
          repeat (first | refine run ?_ | refine Cd.t rfl ?_ | refine Cd.f rfl ?_ | refine Cd.t (by decide +kernel) ?_ | refine Cd.f (by decide +kernel) ?_ | refine Sc.mk rfl ?_ | refine ld (by assumption) rfl ?_ | refine nw (by assumption) fun _ _ _ => ?_ | refine stB (by assumption) rfl rfl fun _ _ => ?_)
          refine Must.mk (ltN_t hlt) ?_
          refine ldSrc hs2 (Src.skip (Src.skip (Src.skip hsrc))) (by rw [show Nat.mul i 1 = i from Nat.mul_one i]; rfl) (map_get _ hlt) ?_
          repeat (first | refine run ?_ | refine Cd.t rfl ?_ | refine Cd.f rfl ?_ | refine Cd.t (by decide +kernel) ?_ | refine Cd.f (by decide +kernel) ?_ | refine Sc.mk rfl ?_ | refine ld (by assumption) rfl ?_ | refine nw (by assumption) fun _ _ _ => ?_ | refine stB (by assumption) rfl rfl fun _ _ => ?_)
          refine Must.mk (ltN_t (by omega)) ?_
          refine Sc.mk rfl (st hs2 (by rw [off1]; simp [hcs]; omega) rfl fun H5 h5 => ?_)
          rw [off1, ← List.map_set] at h5
          repeat (first | refine run ?_ | refine Cd.t rfl ?_ | refine Cd.f rfl ?_ | refine Cd.t (by decide +kernel) ?_ | refine Cd.f (by decide +kernel) ?_ | refine Sc.mk rfl ?_ | refine ld (by assumption) rfl ?_ | refine nw (by assumption) fun _ _ _ => ?_ | refine stB (by assumption) rfl rfl fun _ _ => ?_)
          rw [show Int.add (Int.ofNat i) (Int.ofNat 1) = Int.ofNat (i + 1) from rfl]
          refine inR_nat (n := i + 1) (by omega) ?_
          show ∃ y, _ ∧ _
          refine ⟨i + 1, by omega, e0, e1, e2.trans e3, e7, rfl, hlt, cs.set (M.free + i) (vals.getD i 0), by simp [hcs], ?_, h5⟩
          rw [← hov, List.drop_eq_getElem_cons hlt, ovN, List.getD_eq_getElem?_getD, List.getElem?_eq_getElem hlt]
          rfl
        · refine Cd.f (ltZ_f (by omega)) ?_
          show _ = _ ∧ _
          have : i = vals.length := by omega
          subst this
          rw [List.drop_of_length_le (Nat.le_refl _)] at hov
          simp only [ovN] at hov
          subst hov
          exact ⟨rfl, e0, e1, e2, e7, Sat.close (L1 := [_, _, _]) (hs2.ent (by repeat (first | exact Ent.refl _ | exact Ent.none | apply Ent.cons (by repeat (first | exact Pull.here | apply Pull.there)) | refine Ent.drop ?_))) fun g a => ⟨bl, tr, ⟨by show (ovN vals M.cells M.free).length ≤ _; rw [ovN_len]; exact hn1, by show M.free + vals.length ≤ (ovN vals M.cells M.free).length; rw [ovN_len]; omega⟩, by show SatL [Own m [slc bl 0 (ovN vals M.cells M.free).length (ovN vals M.cells M.free).length, iN (M.free + vals.length), tr, .bool false], _, _] g; rw [ovN_len]; exact a⟩⟩
      · obtain ⟨e0, e1, e2, e7, hs2⟩ := hP
        show Cd _ _ _
        refine Cd.t (eqN_self 0) ?_
        simp only [e0, e1, e2, e7]
        refine app hs2 fun v' H2 hc' h2 => ?_
        refine AsInt.mk (Must.mk (cv_small (by omega)) (Sc.mk rfl (Sc.mk hc' ?_)))
        rw [wrapN_small (by omega)]
        exact refNote_ok (M := M.take vals) (c := accNew th M.free vals) (v0 := v') hc h2 (by repeat (first | exact Pull.here | apply Pull.there)) (by repeat (first | exact Pull.here | apply Pull.there)) ht hc' fun H3 h3 => AsInt.mk (Must.mk (cv_small (by omega)) (by rw [wrapN_small (by omega)]; exact k _ h3))
    · have hno : ¬ (0 < vals.length ∧ vals.length ≤ M.cells.length - M.free) := by
        have := leZ_n h
        omega
      rw [alloc_f hno, room_f hno] at k
      exact tail (a := 0) (by omega) hs0 ht k
  · have hno : ¬ (0 < vals.length ∧ vals.length ≤ M.cells.length - M.free) := by
      have := ltZ_n h
      omega
    rw [alloc_f hno, room_f hno] at k
    exact tail (a := 0) (by omega) hs0 ht k

end Go.Proofs.Ytipbbnoepphdkaa

set_option linter.unusedVariables false
set_option linter.unusedSimpArgs false
namespace Go.Proofs.Ytipbbnoepphdkaa
open Go Go.CM
attribute [local irreducible] AsBool AsWant AsNat AsInt AsCnt AsPtr AsSlc AsLen AsStr AsAgg AsTup AsFn AsIfc Nth Sc NotNil IsNil Must Cd codeW funW Sat SatL wrapN subM mkRow ltZ leZ ltN leN
variable {con : CallT}

/-! ### the procs of the versions -/
structure IniS where
  cam : Nat
  ver : Nat
  at_ : Nat
  c : Nat
def IniS.step (s : IniS) (M : Mem) (th : Int) : IniS × Mem :=
  if s.at_ = 0 then ({ s with at_ := if M.peek (addM s.ver 1) = 0 then 1 else 3 }, M.load th (addM s.ver 1))
  else if s.at_ = 1 then ({ s with c := M.peek s.cam, at_ := 2 }, M.load th s.cam)
  else ({ s with at_ := 3 }, M.cas th (addM s.ver 1) 0 s.c)
theorem ini_lt (s : IniS) (M : Mem) (th : Int) (h : s.at_ < 3) (e : (s.step M th).1.at_ ≠ 3) : (s.step M th).1.at_ < 3 := by
  unfold IniS.step at e ⊢
  split at e
  · rename_i h0
    rw [if_pos h0] at ⊢
    simp only at e ⊢
    split at e
    · rename_i h1; rw [if_pos h1]; omega
    · exact absurd rfl e
  · rename_i h0
    rw [if_neg h0]
    split at e
    · rename_i h1; rw [if_pos h1]; show 2 < 3; omega
    · exact absurd rfl e
def iniC (s : IniS) : List Value := [u64 s.cam, u64 s.ver, iN s.at_, u64 s.c]

structure CasS where
  cam : Nat
  obj : Nat
  old : Nat
  now : Nat
  at_ : Nat
  h : Nat
  n : Nat
  ini : IniS
def CasS.held (s : CasS) (v : Nat) : CasS := if v = s.old then (if s.old = s.now then { s with at_ := 8 } else { s with at_ := 3 }) else { s with at_ := 8 }
def CasS.step (s : CasS) (M : Mem) (th : Int) : CasS × Mem :=
  match s.at_ with
  | 0 => (if M.peek s.obj = 0 then ({ s with h := M.peek s.obj, ini := ⟨s.cam, M.peek s.obj, 0, 0⟩, at_ := 1 } : CasS).held 0 else { s with h := M.peek s.obj, ini := ⟨s.cam, M.peek s.obj, 0, 0⟩, at_ := 1 }, M.load th s.obj)
  | 1 => ({ s with ini := (s.ini.step M th).1, at_ := if (s.ini.step M th).1.at_ = 3 then 2 else 1 }, (s.ini.step M th).2)
  | 2 => (s.held (M.peek s.h), M.load th s.h)
  | 3 => ({ s with n := M.room [s.now, 0, s.h], at_ := if M.room [s.now, 0, s.h] = 0 then 8 else 4 }, M.alloc th [s.now, 0, s.h])
  | 4 => (if M.swaps s.obj s.h then { s with ini := ⟨s.cam, s.n, 0, 0⟩, at_ := 5 } else { s with at_ := 6 }, M.cas th s.obj s.h s.n)
  | 5 => ({ s with ini := (s.ini.step M th).1, at_ := if (s.ini.step M th).1.at_ = 3 then 8 else 5 }, (s.ini.step M th).2)
  | 6 => ({ s with ini := ⟨s.cam, M.peek s.obj, 0, 0⟩, at_ := 7 }, M.load th s.obj)
  | _ => ({ s with ini := (s.ini.step M th).1, at_ := if (s.ini.step M th).1.at_ = 3 then 8 else 7 }, (s.ini.step M th).2)
def casC (s : CasS) (bg nn hh pi at_ nv sw ps er : Value) : List Value := [u64 s.cam, u64 s.obj, bg, nn, hh, pi, at_, u64 s.old, u64 s.now, nv, sw, ps, er]
/-- A Cas of the program's, by how far it is. -/
def CasAt (p : Nat) (s : CasS) : HP := fun h =>
  match s.at_ with
  | 0 => ∃ nn hh pi nv sw ps er, SatL [Own p (casC s (.bool false) nn hh pi (iN 0) nv sw ps er)] h
  | 1 => ∃ q nv sw ps er, (s.ini.at_ < 3) ∧ SatL [Own p (casC s (.bool true) (.bool false) (u64 s.h) (ptr q 0) (iN 0) nv sw ps er), Own q (iniC s.ini)] h
  | 2 => ∃ bg pi nv sw ps er, SatL [Own p (casC s bg (.bool false) (u64 s.h) pi (iN 1) nv sw ps er)] h
  | 3 => ∃ bg nn pi nv sw ps er, SatL [Own p (casC s bg nn (u64 s.h) pi (iN 2) nv sw ps er)] h
  | 4 => ∃ bg nn pi sw ps er, SatL [Own p (casC s bg nn (u64 s.h) pi (iN 3) (u64 s.n) sw ps er)] h
  | 5 => ∃ bg nn hh pi nv sw q er, (s.ini.at_ < 3) ∧ SatL [Own p (casC s bg nn hh pi (iN 4) nv sw (ptr q 0) er), Own q (iniC s.ini)] h
  | 6 => ∃ bg nn hh pi nv sw ps er, SatL [Own p (casC s bg nn hh pi (iN 5) nv sw ps er)] h
  | 7 => ∃ bg nn hh pi nv sw q er, (s.ini.at_ < 3) ∧ SatL [Own p (casC s bg nn hh pi (iN 4) nv sw (ptr q 0) er), Own q (iniC s.ini)] h
  | _ => True

structure PastS where
  cam : Nat
  obj : Nat
  stamp : Nat
  at_ : Nat
  h : Nat
  ini : IniS
def PastS.step (s : PastS) (M : Mem) (th : Int) : PastS × Mem :=
  match s.at_ with
  | 0 => ({ s with h := M.peek s.obj, ini := ⟨s.cam, M.peek s.obj, 0, 0⟩, at_ := if M.peek s.obj = 0 then 5 else 1 }, M.load th s.obj)
  | 1 => ({ s with ini := (s.ini.step M th).1, at_ := if (s.ini.step M th).1.at_ = 3 then 2 else 1 }, (s.ini.step M th).2)
  | 2 => ({ s with at_ := if s.stamp < M.peek (addM s.h 1) then 3 else 4 }, M.load th (addM s.h 1))
  | 3 => ({ s with h := M.peek (addM s.h 2), at_ := if M.peek (addM s.h 2) = 0 then 5 else 2 }, M.load th (addM s.h 2))
  | _ => ({ s with at_ := 5 }, M.load th s.h)
def pastC (s : PastS) (bg nn hh pi at_ vv : Value) : List Value := [u64 s.cam, u64 s.obj, bg, nn, hh, pi, at_, u64 s.stamp, vv]
def PastAt (p : Nat) (s : PastS) : HP := fun h =>
  match s.at_ with
  | 0 => ∃ nn hh pi vv, SatL [Own p (pastC s (.bool false) nn hh pi (iN 0) vv)] h
  | 1 => ∃ q vv, (s.ini.at_ < 3) ∧ SatL [Own p (pastC s (.bool true) (.bool false) (u64 s.h) (ptr q 0) (iN 0) vv), Own q (iniC s.ini)] h
  | 2 => ∃ bg nn pi vv, SatL [Own p (pastC s bg nn (u64 s.h) pi (iN 5) vv)] h
  | 3 => ∃ bg nn pi vv, SatL [Own p (pastC s bg nn (u64 s.h) pi (iN 6) vv)] h
  | 4 => ∃ bg nn pi vv, SatL [Own p (pastC s bg nn (u64 s.h) pi (iN 1) vv)] h
  | _ => True

structure TakeS where
  cam : Nat
  most : Nat
  at_ : Nat
  t : Nat
def TakeS.step (s : TakeS) (M : Mem) (th : Int) : TakeS × Mem :=
  match s.at_ with
  | 0 => ({ s with t := M.peek s.cam, at_ := if M.peek s.cam < s.most then 1 else 2 }, M.load th s.cam)
  | _ => ({ s with at_ := 2 }, M.cas th s.cam s.t (addM s.t 1))
def takeC (s : TakeS) (x y z : Value) : List Value := [iN s.at_, u64 s.cam, u64 s.most, u64 s.t, x, y, z]
def TakeAt (p : Nat) (s : TakeS) : HP := fun h => ∃ x y z, Own p (takeC s x y z) h

theorem newTake_ok (hc : Con con lives) {L : List HP} {H : CH} {cam most : Nat} {K : KP} (hs : Sat L H) (k : ∀ p H1, Sat (TakeAt p ⟨cam, most, 0, 0⟩ :: L) H1 → K (ptr p 0) H1) : Call1 Try.prog con 95 [u64 cam, u64 most] H K := by
  refine call_of (hc _ _ _ rfl) ?_
  rw [newTake_W]
  exact nw hs fun p H1 h1 => k p _ (h1.imp fun g a => ⟨_, _, _, a⟩)

theorem takeStep_ok (hc : Con con lives) (s : TakeS) {L R1 R2 R3 : List HP} {H : CH} {p q m n : Nat} {th : Int} {M : Mem} {K : KP} (hs : Sat L H) (hm : Pull L (MemP m M) R1) (hv : Pull R1 (ViewAt q m th n) R2) (hp : Pull R2 (TakeAt p s) R3)
    (hn : n < 1000000000) (ht : M.tr.length < 1000000000) (hat : s.at_ < 2) (k : ∀ H1, Sat (TakeAt p (s.step M th).1 :: MemP m (s.step M th).2 :: ViewAt q m th (n + 1) :: R3) H1 → K (.bool (eqN (s.step M th).1.at_ 2)) H1) :
    Call1 Try.prog con 239 [ptr p 0, ptr q 0] H K := by
  refine call_of (hc _ _ _ rfl) ?_
  rw [takeStep_W]
  have hs0 := hs.takes (.cons hm (.cons hv (.cons hp .nil)))
  simp only [List.cons_append, List.nil_append] at hs0
  obtain ⟨h1, h2, s1, s2, d, ⟨x, y, z, hin⟩, hR⟩ := hs0.opens (.there (.there .here))
  have hs1 := Sat.merge (L1 := [_]) s1 s2 d (SatL.one hin) hR
  simp only [List.cons_append, List.nil_append] at hs1
  obtain ⟨cam, most, at_, t⟩ := s
  simp only at hat
  rcases (by omega : at_ = 0 ∨ at_ = 1) with rfl | rfl
  · simp only [TakeS.step] at k
    repeat (first | refine run ?_ | refine Cd.t rfl ?_ | refine Cd.f rfl ?_ | refine Cd.t (by decide +kernel) ?_ | refine Cd.f (by decide +kernel) ?_ | refine Sc.mk rfl ?_ | refine ld (by assumption) rfl ?_ | refine nw (by assumption) fun _ _ _ => ?_ | refine stB (by assumption) rfl rfl fun _ _ => ?_)
    refine viewLoad_ok hc hs1 (by repeat (first | exact Pull.here | apply Pull.there)) (by repeat (first | exact Pull.here | apply Pull.there)) hn ht fun H1 h1 => ?_
    repeat (first | refine run ?_ | refine Cd.t rfl ?_ | refine Cd.f rfl ?_ | refine Cd.t (by decide +kernel) ?_ | refine Cd.f (by decide +kernel) ?_ | refine Sc.mk rfl ?_ | refine ld (by assumption) rfl ?_ | refine nw (by assumption) fun _ _ _ => ?_ | refine stB (by assumption) rfl rfl fun _ _ => ?_)
    by_cases h : M.peek cam < most
    · simp only [if_pos h] at k
      refine Cd.t (ltN_t h) ?_
      repeat (first | refine run ?_ | refine Cd.t rfl ?_ | refine Cd.f rfl ?_ | refine Cd.t (by decide +kernel) ?_ | refine Cd.f (by decide +kernel) ?_ | refine Sc.mk rfl ?_ | refine ld (by assumption) rfl ?_ | refine nw (by assumption) fun _ _ _ => ?_ | refine stB (by assumption) rfl rfl fun _ _ => ?_)
      exact k _ (Sat.close (L1 := [Own p _]) (Sat.ent (by assumption) (by repeat (first | exact Ent.refl _ | exact Ent.none | apply Ent.cons (by repeat (first | exact Pull.here | apply Pull.there)) | refine Ent.drop ?_))) fun g a => ⟨_, _, _, SatL.head a fun _ a s => Own.mono a s⟩)
    · simp only [if_neg h] at k
      refine Cd.f (ltN_f (Nat.le_of_not_lt h)) ?_
      repeat (first | refine run ?_ | refine Cd.t rfl ?_ | refine Cd.f rfl ?_ | refine Cd.t (by decide +kernel) ?_ | refine Cd.f (by decide +kernel) ?_ | refine Sc.mk rfl ?_ | refine ld (by assumption) rfl ?_ | refine nw (by assumption) fun _ _ _ => ?_ | refine stB (by assumption) rfl rfl fun _ _ => ?_)
      exact k _ (Sat.close (L1 := [Own p _]) (Sat.ent (by assumption) (by repeat (first | exact Ent.refl _ | exact Ent.none | apply Ent.cons (by repeat (first | exact Pull.here | apply Pull.there)) | refine Ent.drop ?_))) fun g a => ⟨_, _, _, SatL.head a fun _ a s => Own.mono a s⟩)
  · simp only [TakeS.step] at k
    repeat (first | refine run ?_ | refine Cd.t rfl ?_ | refine Cd.f rfl ?_ | refine Cd.t (by decide +kernel) ?_ | refine Cd.f (by decide +kernel) ?_ | refine Sc.mk rfl ?_ | refine ld (by assumption) rfl ?_ | refine nw (by assumption) fun _ _ _ => ?_ | refine stB (by assumption) rfl rfl fun _ _ => ?_)
    refine viewCas_ok hc hs1 (by repeat (first | exact Pull.here | apply Pull.there)) (by repeat (first | exact Pull.here | apply Pull.there)) hn ht fun H1 h1 => ?_
    repeat (first | refine run ?_ | refine Cd.t rfl ?_ | refine Cd.f rfl ?_ | refine Cd.t (by decide +kernel) ?_ | refine Cd.f (by decide +kernel) ?_ | refine Sc.mk rfl ?_ | refine ld (by assumption) rfl ?_ | refine nw (by assumption) fun _ _ _ => ?_ | refine stB (by assumption) rfl rfl fun _ _ => ?_)
    exact k _ (Sat.close (L1 := [Own p _]) (Sat.ent (by assumption) (by repeat (first | exact Ent.refl _ | exact Ent.none | apply Ent.cons (by repeat (first | exact Pull.here | apply Pull.there)) | refine Ent.drop ?_))) fun g a => ⟨_, _, _, SatL.head a fun _ a s => Own.mono a s⟩)

theorem newInit_ok (hc : Con con lives) {L : List HP} {H : CH} {cam ver : Nat} {K : KP} (hs : Sat L H) (k : ∀ p H1, Sat (Own p (iniC ⟨cam, ver, 0, 0⟩) :: L) H1 → K (ptr p 0) H1) : Call1 Try.prog con 236 [u64 cam, u64 ver] H K := by
  refine call_of (hc _ _ _ rfl) ?_
  rw [newInit_W]
  exact nw hs k

theorem initStep_ok (hc : Con con lives) (s : IniS) {L R1 R2 R3 : List HP} {H : CH} {p q m n : Nat} {th : Int} {M : Mem} {K : KP} (hs : Sat L H) (hm : Pull L (MemP m M) R1) (hv : Pull R1 (ViewAt q m th n) R2) (hp : Pull R2 (Own p (iniC s)) R3)
    (hn : n < 1000000000) (ht : M.tr.length < 1000000000) (hat : s.at_ < 3) (k : ∀ H1, Sat (Own p (iniC (s.step M th).1) :: MemP m (s.step M th).2 :: ViewAt q m th (n + 1) :: R3) H1 → K (.bool (eqZ (Int.ofNat (s.step M th).1.at_) (Int.ofNat 3))) H1) :
    Call1 Try.prog con 237 [ptr p 0, ptr q 0] H K := by
  refine call_of (hc _ _ _ rfl) ?_
  rw [initStep_W]
  have hs0 := hs.takes (.cons hm (.cons hv (.cons hp .nil)))
  simp only [List.cons_append, List.nil_append] at hs0
  obtain ⟨cam, ver, at_, c⟩ := s
  simp only at hat
  rcases (by omega : at_ = 0 ∨ at_ = 1 ∨ at_ = 2) with rfl | rfl | rfl
  · simp only [IniS.step, if_true] at k
    repeat (first | refine run ?_ | refine Cd.t rfl ?_ | refine Cd.f rfl ?_ | refine Cd.t (by decide +kernel) ?_ | refine Cd.f (by decide +kernel) ?_ | refine Sc.mk rfl ?_ | refine ld (by assumption) rfl ?_ | refine nw (by assumption) fun _ _ _ => ?_ | refine stB (by assumption) rfl rfl fun _ _ => ?_)
    refine viewLoad_ok hc (by assumption) (by repeat (first | exact Pull.here | apply Pull.there)) (by repeat (first | exact Pull.here | apply Pull.there)) hn ht fun H1 h1 => ?_
    repeat (first | refine run ?_ | refine Cd.t rfl ?_ | refine Cd.f rfl ?_ | refine Cd.t (by decide +kernel) ?_ | refine Cd.f (by decide +kernel) ?_ | refine Sc.mk rfl ?_ | refine ld (by assumption) rfl ?_ | refine nw (by assumption) fun _ _ _ => ?_ | refine stB (by assumption) rfl rfl fun _ _ => ?_)
    by_cases h : M.peek (addM ver 1) = 0
    · simp only [if_pos h] at k
      refine Cd.f (by rw [eqN_t h]; rfl) ?_
      repeat (first | refine run ?_ | refine Cd.t rfl ?_ | refine Cd.f rfl ?_ | refine Cd.t (by decide +kernel) ?_ | refine Cd.f (by decide +kernel) ?_ | refine Sc.mk rfl ?_ | refine ld (by assumption) rfl ?_ | refine nw (by assumption) fun _ _ _ => ?_ | refine stB (by assumption) rfl rfl fun _ _ => ?_)
      exact k _ (Sat.ent (by assumption) (by repeat (first | exact Ent.refl _ | exact Ent.none | apply Ent.cons (by repeat (first | exact Pull.here | apply Pull.there)) | refine Ent.drop ?_)))
    · simp only [if_neg h] at k
      refine Cd.t (by rw [eqN_f h]; rfl) ?_
      repeat (first | refine run ?_ | refine Cd.t rfl ?_ | refine Cd.f rfl ?_ | refine Cd.t (by decide +kernel) ?_ | refine Cd.f (by decide +kernel) ?_ | refine Sc.mk rfl ?_ | refine ld (by assumption) rfl ?_ | refine nw (by assumption) fun _ _ _ => ?_ | refine stB (by assumption) rfl rfl fun _ _ => ?_)
      exact k _ (Sat.ent (by assumption) (by repeat (first | exact Ent.refl _ | exact Ent.none | apply Ent.cons (by repeat (first | exact Pull.here | apply Pull.there)) | refine Ent.drop ?_)))
  · simp only [IniS.step] at k
    repeat (first | refine run ?_ | refine Cd.t rfl ?_ | refine Cd.f rfl ?_ | refine Cd.t (by decide +kernel) ?_ | refine Cd.f (by decide +kernel) ?_ | refine Sc.mk rfl ?_ | refine ld (by assumption) rfl ?_ | refine nw (by assumption) fun _ _ _ => ?_ | refine stB (by assumption) rfl rfl fun _ _ => ?_)
    refine viewLoad_ok hc (by assumption) (by repeat (first | exact Pull.here | apply Pull.there)) (by repeat (first | exact Pull.here | apply Pull.there)) hn ht fun H1 h1 => ?_
    repeat (first | refine run ?_ | refine Cd.t rfl ?_ | refine Cd.f rfl ?_ | refine Cd.t (by decide +kernel) ?_ | refine Cd.f (by decide +kernel) ?_ | refine Sc.mk rfl ?_ | refine ld (by assumption) rfl ?_ | refine nw (by assumption) fun _ _ _ => ?_ | refine stB (by assumption) rfl rfl fun _ _ => ?_)
    exact k _ (Sat.ent (by assumption) (by repeat (first | exact Ent.refl _ | exact Ent.none | apply Ent.cons (by repeat (first | exact Pull.here | apply Pull.there)) | refine Ent.drop ?_)))
  · simp only [IniS.step] at k
    repeat (first | refine run ?_ | refine Cd.t rfl ?_ | refine Cd.f rfl ?_ | refine Cd.t (by decide +kernel) ?_ | refine Cd.f (by decide +kernel) ?_ | refine Sc.mk rfl ?_ | refine ld (by assumption) rfl ?_ | refine nw (by assumption) fun _ _ _ => ?_ | refine stB (by assumption) rfl rfl fun _ _ => ?_)
    refine viewCas_ok hc (by assumption) (by repeat (first | exact Pull.here | apply Pull.there)) (by repeat (first | exact Pull.here | apply Pull.there)) hn ht fun H1 h1 => ?_
    repeat (first | refine run ?_ | refine Cd.t rfl ?_ | refine Cd.f rfl ?_ | refine Cd.t (by decide +kernel) ?_ | refine Cd.f (by decide +kernel) ?_ | refine Sc.mk rfl ?_ | refine ld (by assumption) rfl ?_ | refine nw (by assumption) fun _ _ _ => ?_ | refine stB (by assumption) rfl rfl fun _ _ => ?_)
    exact k _ (Sat.ent (by assumption) (by repeat (first | exact Ent.refl _ | exact Ent.none | apply Ent.cons (by repeat (first | exact Pull.here | apply Pull.there)) | refine Ent.drop ?_)))

theorem find0_ok (hc : Con con lives) {L R1 R2 R3 : List HP} {H : CH} {p q m n cam obj : Nat} {th : Int} {M : Mem} {nn hh pi : Value} {r : List Value} {K : KP} (hs : Sat L H) (hm : Pull L (MemP m M) R1) (hv : Pull R1 (ViewAt q m th n) R2) (hp : Pull R2 (Own p (u64 cam :: u64 obj :: .bool false :: nn :: hh :: pi :: r)) R3)
    (hn : n < 1000000000) (ht : M.tr.length < 1000000000) (k : ∀ q' H1, Sat (Own p (u64 cam :: u64 obj :: .bool true :: .bool (eqN (M.peek obj) 0) :: u64 (M.peek obj) :: ptr q' 0 :: r) :: Own q' (iniC ⟨cam, M.peek obj, 0, 0⟩) :: MemP m (M.load th obj) :: ViewAt q m th (n + 1) :: R3) H1 → K (.bool (eqN (M.peek obj) 0)) H1) :
    Call1 Try.prog con 234 [ptr p 0, ptr q 0] H K := by
  refine call_of (hc _ _ _ rfl) ?_
  rw [headFind_W]
  have hs0 := hs.takes (.cons hm (.cons hv (.cons hp .nil)))
  simp only [List.cons_append, List.nil_append] at hs0
  repeat (first | refine run ?_ | refine Cd.t rfl ?_ | refine Cd.f rfl ?_ | refine Cd.t (by decide +kernel) ?_ | refine Cd.f (by decide +kernel) ?_ | refine Sc.mk rfl ?_ | refine ld (by assumption) rfl ?_ | refine nw (by assumption) fun _ _ _ => ?_ | refine stB (by assumption) rfl rfl fun _ _ => ?_)
  refine viewLoad_ok hc (by assumption) (by repeat (first | exact Pull.here | apply Pull.there)) (by repeat (first | exact Pull.here | apply Pull.there)) hn ht fun H1 h1 => ?_
  repeat (first | refine run ?_ | refine Cd.t rfl ?_ | refine Cd.f rfl ?_ | refine Cd.t (by decide +kernel) ?_ | refine Cd.f (by decide +kernel) ?_ | refine Sc.mk rfl ?_ | refine ld (by assumption) rfl ?_ | refine nw (by assumption) fun _ _ _ => ?_ | refine stB (by assumption) rfl rfl fun _ _ => ?_)
  refine newInit_ok hc (by assumption) fun q' H2 h2 => ?_
  repeat (first | refine run ?_ | refine Cd.t rfl ?_ | refine Cd.f rfl ?_ | refine Cd.t (by decide +kernel) ?_ | refine Cd.f (by decide +kernel) ?_ | refine Sc.mk rfl ?_ | refine ld (by assumption) rfl ?_ | refine nw (by assumption) fun _ _ _ => ?_ | refine stB (by assumption) rfl rfl fun _ _ => ?_)
  exact k q' _ (Sat.ent (by assumption) (by repeat (first | exact Ent.refl _ | exact Ent.none | apply Ent.cons (by repeat (first | exact Pull.here | apply Pull.there)) | refine Ent.drop ?_)))

theorem find1_ok (hc : Con con lives) (s : IniS) {L R1 R2 R3 R4 : List HP} {H : CH} {p q m n q' : Nat} {c0 c1 c3 c4 : Value} {th : Int} {M : Mem} {r : List Value} {K : KP} (hs : Sat L H) (hm : Pull L (MemP m M) R1) (hv : Pull R1 (ViewAt q m th n) R2) (hp : Pull R2 (Own p (c0 :: c1 :: .bool true :: c3 :: c4 :: ptr q' 0 :: r)) R3) (hq : Pull R3 (Own q' (iniC s)) R4)
    (hn : n < 1000000000) (ht : M.tr.length < 1000000000) (hat : s.at_ < 3) (k : ∀ H1, Sat (Own p (c0 :: c1 :: .bool true :: c3 :: c4 :: ptr q' 0 :: r) :: Own q' (iniC (s.step M th).1) :: MemP m (s.step M th).2 :: ViewAt q m th (n + 1) :: R4) H1 → K (.bool (eqZ (Int.ofNat (s.step M th).1.at_) (Int.ofNat 3))) H1) :
    Call1 Try.prog con 234 [ptr p 0, ptr q 0] H K := by
  refine call_of (hc _ _ _ rfl) ?_
  rw [headFind_W]
  have hs0 := hs.takes (.cons hm (.cons hv (.cons hp (.cons hq .nil))))
  simp only [List.cons_append, List.nil_append] at hs0
  repeat (first | refine run ?_ | refine Cd.t rfl ?_ | refine Cd.f rfl ?_ | refine Cd.t (by decide +kernel) ?_ | refine Cd.f (by decide +kernel) ?_ | refine Sc.mk rfl ?_ | refine ld (by assumption) rfl ?_ | refine nw (by assumption) fun _ _ _ => ?_ | refine stB (by assumption) rfl rfl fun _ _ => ?_)
  refine initStep_ok hc s hs0 (by repeat (first | exact Pull.here | apply Pull.there)) (by repeat (first | exact Pull.here | apply Pull.there)) (by repeat (first | exact Pull.here | apply Pull.there)) hn ht hat fun H1 h1 => ?_
  exact k _ (Sat.ent (by assumption) (by repeat (first | exact Ent.refl _ | exact Ent.none | apply Ent.cons (by repeat (first | exact Pull.here | apply Pull.there)) | refine Ent.drop ?_)))
end Go.Proofs.Ytipbbnoepphdkaa

set_option linter.unusedVariables false
set_option linter.unusedSimpArgs false
namespace Go.Proofs.Ytipbbnoepphdkaa
open Go Go.CM
attribute [local irreducible] AsBool AsWant AsNat AsInt AsCnt AsPtr AsSlc AsLen AsStr AsAgg AsTup AsFn AsIfc Nth Sc NotNil IsNil Must Cd codeW funW Sat SatL wrapN subM mkRow ltZ leZ ltN leN
variable {con : CallT}

def CasS.heldP (s : CasS) (v : Nat) : Nat := if v = s.old then (if s.old = s.now then 7 else 2) else 7
theorem held_at (s : CasS) (v : Nat) : eqZ (Int.ofNat (s.heldP v)) (Int.ofNat 7) = eqN (s.held v).at_ 8 := by
  unfold CasS.heldP CasS.held
  split
  · split <;> rfl
  · rfl
theorem held_close {p : Nat} {s : CasS} {v : Nat} {bg nn pi nv sw ps er : Value} {g : PH} (a : SatL [Own p (casC s bg nn (u64 s.h) pi (iN (s.heldP v)) nv sw ps er)] g) : CasAt p (s.held v) g := by
  unfold CasS.heldP at a
  unfold CasS.held
  split at a
  · rename_i e
    rw [if_pos e]
    split at a
    · rename_i e2
      rw [if_pos e2]
      trivial
    · rename_i e2
      rw [if_neg e2]
      exact ⟨_, _, _, _, _, _, _, a⟩
  · rename_i e
    rw [if_neg e]
    trivial

theorem newCas_ok (hc : Con con lives) {L : List HP} {H : CH} {cam obj old now : Nat} {K : KP} (hs : Sat L H) (k : ∀ p H1, Sat (CasAt p ⟨cam, obj, old, now, 0, 0, 0, ⟨0, 0, 0, 0⟩⟩ :: L) H1 → K (ptr p 0) H1) : Call1 Try.prog con 94 [u64 cam, u64 obj, u64 old, u64 now] H K := by
  refine call_of (hc _ _ _ rfl) ?_
  rw [newCas_W]
  exact nw hs fun p H1 h1 => k p _ (Sat.close (L1 := [_]) h1 fun g a => ⟨_, _, _, _, _, _, _, a⟩)

theorem compare_ok (hc : Con con lives) (s : CasS) {L R : List HP} {H : CH} {p v : Nat} {bg nn hh pi at_ nv sw ps er : Value} {K : KP} (hs : Sat L H) (hp : Pull L (Own p (casC s bg nn hh pi at_ nv sw ps er)) R)
    (k : ∀ sw' H1, Sat (Own p (casC s bg nn hh pi (iN (s.heldP v)) nv sw' ps er) :: R) H1 → K unit H1) : Call1 Try.prog con 235 [ptr p 0, u64 v] H K := by
  refine call_of (hc _ _ _ rfl) ?_
  rw [casCompare_W]
  have hs0 := hs.pull hp
  unfold CasS.heldP at k
  repeat (first | refine run ?_ | refine Cd.t rfl ?_ | refine Cd.f rfl ?_ | refine Cd.t (by decide +kernel) ?_ | refine Cd.f (by decide +kernel) ?_ | refine Sc.mk rfl ?_ | refine ld (by assumption) rfl ?_ | refine nw (by assumption) fun _ _ _ => ?_ | refine stB (by assumption) rfl rfl fun _ _ => ?_)
  by_cases h : v = s.old
  · refine Cd.f (by rw [eqN_t h]; rfl) ?_
    simp only [if_pos h] at k
    repeat (first | refine run ?_ | refine Cd.t rfl ?_ | refine Cd.f rfl ?_ | refine Cd.t (by decide +kernel) ?_ | refine Cd.f (by decide +kernel) ?_ | refine Sc.mk rfl ?_ | refine ld (by assumption) rfl ?_ | refine nw (by assumption) fun _ _ _ => ?_ | refine stB (by assumption) rfl rfl fun _ _ => ?_)
    by_cases h2 : s.old = s.now
    · refine Cd.t (eqN_t h2) ?_
      simp only [if_pos h2] at k
      repeat (first | refine run ?_ | refine Cd.t rfl ?_ | refine Cd.f rfl ?_ | refine Cd.t (by decide +kernel) ?_ | refine Cd.f (by decide +kernel) ?_ | refine Sc.mk rfl ?_ | refine ld (by assumption) rfl ?_ | refine nw (by assumption) fun _ _ _ => ?_ | refine stB (by assumption) rfl rfl fun _ _ => ?_)
      exact k _ _ (by assumption)
    · refine Cd.f (eqN_f h2) ?_
      simp only [if_neg h2] at k
      repeat (first | refine run ?_ | refine Cd.t rfl ?_ | refine Cd.f rfl ?_ | refine Cd.t (by decide +kernel) ?_ | refine Cd.f (by decide +kernel) ?_ | refine Sc.mk rfl ?_ | refine ld (by assumption) rfl ?_ | refine nw (by assumption) fun _ _ _ => ?_ | refine stB (by assumption) rfl rfl fun _ _ => ?_)
      exact k _ _ (by assumption)
  · refine Cd.t (by rw [eqN_f h]; rfl) ?_
    simp only [if_neg h] at k
    repeat (first | refine run ?_ | refine Cd.t rfl ?_ | refine Cd.f rfl ?_ | refine Cd.t (by decide +kernel) ?_ | refine Cd.f (by decide +kernel) ?_ | refine Sc.mk rfl ?_ | refine ld (by assumption) rfl ?_ | refine nw (by assumption) fun _ _ _ => ?_ | refine stB (by assumption) rfl rfl fun _ _ => ?_)
    exact k _ _ (by assumption)

theorem casStep_ok (hc : Con con lives) (s : CasS) {L R1 R2 R3 : List HP} {H : CH} {p q m n : Nat} {th : Int} {M : Mem} {K : KP} (hs : Sat L H) (hm : Pull L (MemP m M) R1) (hv : Pull R1 (ViewAt q m th n) R2) (hp : Pull R2 (CasAt p s) R3)
    (hn : n < 1000000000) (ht : M.tr.length < 1000000000) (hat : s.at_ < 8) (k : ∀ H1, Sat (CasAt p (s.step M th).1 :: MemP m (s.step M th).2 :: ViewAt q m th (n + 1) :: R3) H1 → K (.bool (eqN (s.step M th).1.at_ 8)) H1) :
    Call1 Try.prog con 233 [ptr p 0, ptr q 0] H K := by
  refine call_of (hc _ _ _ rfl) ?_
  rw [casStep_W]
  have hs0 := hs.takes (.cons hm (.cons hv (.cons hp .nil)))
  simp only [List.cons_append, List.nil_append] at hs0
  obtain ⟨h1, h2, s1, s2, d, hin, hR⟩ := hs0.opens (.there (.there .here))
  obtain ⟨cam, obj, old, now, at_, h, n', ini⟩ := s
  simp only at hat
  rcases (by omega : at_ = 0 ∨ at_ = 1 ∨ at_ = 2 ∨ at_ = 3 ∨ at_ = 4 ∨ at_ = 5 ∨ at_ = 6 ∨ at_ = 7) with rfl | rfl | rfl | rfl | rfl | rfl | rfl | rfl
  · simp only [CasS.step] at k
    obtain ⟨nn, hh, pi, nv, sw, ps, er, hin⟩ := hin
    have hs1 := Sat.merge s1 s2 d hin hR
    simp only [List.cons_append, List.nil_append] at hs1
    repeat (first | refine run ?_ | refine Cd.t rfl ?_ | refine Cd.f rfl ?_ | refine Cd.t (by decide +kernel) ?_ | refine Cd.f (by decide +kernel) ?_ | refine Sc.mk rfl ?_ | refine ld (by assumption) rfl ?_ | refine nw (by assumption) fun _ _ _ => ?_ | refine stB (by assumption) rfl rfl fun _ _ => ?_)
    refine find0_ok hc hs1 (by repeat (first | exact Pull.here | apply Pull.there)) (by repeat (first | exact Pull.here | apply Pull.there)) (by repeat (first | exact Pull.here | apply Pull.there)) hn ht fun q' H1 h1 => ?_
    by_cases e : M.peek obj = 0
    · simp only [if_pos e] at k
      rw [eqN_t e] at h1 ⊢
      repeat (first | refine run ?_ | refine Cd.t rfl ?_ | refine Cd.f rfl ?_ | refine Cd.t (by decide +kernel) ?_ | refine Cd.f (by decide +kernel) ?_ | refine Sc.mk rfl ?_ | refine ld (by assumption) rfl ?_ | refine nw (by assumption) fun _ _ _ => ?_ | refine stB (by assumption) rfl rfl fun _ _ => ?_)
      refine compare_ok hc (⟨cam, obj, old, now, 1, M.peek obj, n', ⟨cam, M.peek obj, 0, 0⟩⟩ : CasS) (v := 0) (by assumption) (by repeat (first | exact Pull.here | apply Pull.there)) fun sw' H2 h2 => ?_
      repeat (first | refine run ?_ | refine Cd.t rfl ?_ | refine Cd.f rfl ?_ | refine Cd.t (by decide +kernel) ?_ | refine Cd.f (by decide +kernel) ?_ | refine Sc.mk rfl ?_ | refine ld (by assumption) rfl ?_ | refine nw (by assumption) fun _ _ _ => ?_ | refine stB (by assumption) rfl rfl fun _ _ => ?_)
      rw [held_at]
      exact k _ (Sat.close (L1 := [_]) (h2.ent (by repeat (first | exact Ent.refl _ | exact Ent.none | apply Ent.cons (by repeat (first | exact Pull.here | apply Pull.there)) | refine Ent.drop ?_))) fun g a => held_close a)
    · simp only [if_neg e] at k
      rw [eqN_f e] at h1 ⊢
      repeat (first | refine run ?_ | refine Cd.t rfl ?_ | refine Cd.f rfl ?_ | refine Cd.t (by decide +kernel) ?_ | refine Cd.f (by decide +kernel) ?_ | refine Sc.mk rfl ?_ | refine ld (by assumption) rfl ?_ | refine nw (by assumption) fun _ _ _ => ?_ | refine stB (by assumption) rfl rfl fun _ _ => ?_)
      exact k _ (Sat.close (L1 := [_, _]) (h1.ent (by repeat (first | exact Ent.refl _ | exact Ent.none | apply Ent.cons (by repeat (first | exact Pull.here | apply Pull.there)) | refine Ent.drop ?_))) fun g a => ⟨_, _, _, _, _, by show 0 < 3; omega, a⟩)
  · simp only [CasS.step] at k
    obtain ⟨q', nv, sw, ps, er, hlt, hin⟩ := hin
    have hs1 := Sat.merge s1 s2 d hin hR
    simp only [List.cons_append, List.nil_append] at hs1
    repeat (first | refine run ?_ | refine Cd.t rfl ?_ | refine Cd.f rfl ?_ | refine Cd.t (by decide +kernel) ?_ | refine Cd.f (by decide +kernel) ?_ | refine Sc.mk rfl ?_ | refine ld (by assumption) rfl ?_ | refine nw (by assumption) fun _ _ _ => ?_ | refine stB (by assumption) rfl rfl fun _ _ => ?_)
    refine find1_ok hc ini hs1 (by repeat (first | exact Pull.here | apply Pull.there)) (by repeat (first | exact Pull.here | apply Pull.there)) (by repeat (first | exact Pull.here | apply Pull.there)) (by repeat (first | exact Pull.here | apply Pull.there)) hn ht hlt fun H1 h1 => ?_
    by_cases e : (ini.step M th).1.at_ = 3
    · simp only [if_pos e] at k
      rw [eqZ_t e]
      repeat (first | refine run ?_ | refine Cd.t rfl ?_ | refine Cd.f rfl ?_ | refine Cd.t (by decide +kernel) ?_ | refine Cd.f (by decide +kernel) ?_ | refine Sc.mk rfl ?_ | refine ld (by assumption) rfl ?_ | refine nw (by assumption) fun _ _ _ => ?_ | refine stB (by assumption) rfl rfl fun _ _ => ?_)
      exact k _ (Sat.close (L1 := [_]) (Sat.ent (by assumption) (by repeat (first | exact Ent.refl _ | exact Ent.none | apply Ent.cons (by repeat (first | exact Pull.here | apply Pull.there)) | refine Ent.drop ?_))) fun g a => ⟨_, _, _, _, _, _, a⟩)
    · simp only [if_neg e] at k
      rw [eqZ_f e]
      repeat (first | refine run ?_ | refine Cd.t rfl ?_ | refine Cd.f rfl ?_ | refine Cd.t (by decide +kernel) ?_ | refine Cd.f (by decide +kernel) ?_ | refine Sc.mk rfl ?_ | refine ld (by assumption) rfl ?_ | refine nw (by assumption) fun _ _ _ => ?_ | refine stB (by assumption) rfl rfl fun _ _ => ?_)
      exact k _ (Sat.close (L1 := [_, _]) (Sat.ent (by assumption) (by repeat (first | exact Ent.refl _ | exact Ent.none | apply Ent.cons (by repeat (first | exact Pull.here | apply Pull.there)) | refine Ent.drop ?_))) fun g a => ⟨_, _, _, _, _, by have := ini_lt ini M th hlt e; exact this, a⟩)
  · simp only [CasS.step] at k
    obtain ⟨bg, pi, nv, sw, ps, er, hin⟩ := hin
    have hs1 := Sat.merge s1 s2 d hin hR
    simp only [List.cons_append, List.nil_append] at hs1
    repeat (first | refine run ?_ | refine Cd.t rfl ?_ | refine Cd.f rfl ?_ | refine Cd.t (by decide +kernel) ?_ | refine Cd.f (by decide +kernel) ?_ | refine Sc.mk rfl ?_ | refine ld (by assumption) rfl ?_ | refine nw (by assumption) fun _ _ _ => ?_ | refine stB (by assumption) rfl rfl fun _ _ => ?_)
    refine viewLoad_ok hc hs1 (by repeat (first | exact Pull.here | apply Pull.there)) (by repeat (first | exact Pull.here | apply Pull.there)) hn ht fun H1 h1 => ?_
    refine compare_ok hc (⟨cam, obj, old, now, 2, h, n', ini⟩ : CasS) (v := M.peek h) h1 (by repeat (first | exact Pull.here | apply Pull.there)) fun sw' H2 h2 => ?_
    repeat (first | refine run ?_ | refine Cd.t rfl ?_ | refine Cd.f rfl ?_ | refine Cd.t (by decide +kernel) ?_ | refine Cd.f (by decide +kernel) ?_ | refine Sc.mk rfl ?_ | refine ld (by assumption) rfl ?_ | refine nw (by assumption) fun _ _ _ => ?_ | refine stB (by assumption) rfl rfl fun _ _ => ?_)
    rw [held_at]
    exact k _ (Sat.close (L1 := [_]) (h2.ent (by repeat (first | exact Ent.refl _ | exact Ent.none | apply Ent.cons (by repeat (first | exact Pull.here | apply Pull.there)) | refine Ent.drop ?_))) fun g a => held_close a)
  · simp only [CasS.step] at k
    obtain ⟨bg, nn, pi, nv, sw, ps, er, hin⟩ := hin
    have hs1 := Sat.merge s1 s2 d hin hR
    simp only [List.cons_append, List.nil_append] at hs1
    repeat (first | refine run ?_ | refine Cd.t rfl ?_ | refine Cd.f rfl ?_ | refine Cd.t (by decide +kernel) ?_ | refine Cd.f (by decide +kernel) ?_ | refine Sc.mk rfl ?_ | refine ld (by assumption) rfl ?_ | refine nw (by assumption) fun _ _ _ => ?_ | refine stB (by assumption) rfl rfl fun _ _ => ?_)
    rename_i b0 H0 h0
    refine viewAlloc_ok (vals := [now, 0, h]) hc h0 (by repeat (first | exact Pull.here | apply Pull.there)) (by repeat (first | exact Pull.here | apply Pull.there)) (Has.own3 (l := [now, 0, h])) (by simp) hn ht fun H1 h1 => ?_
    repeat (first | refine run ?_ | refine Cd.t rfl ?_ | refine Cd.f rfl ?_ | refine Cd.t (by decide +kernel) ?_ | refine Cd.f (by decide +kernel) ?_ | refine Sc.mk rfl ?_ | refine ld (by assumption) rfl ?_ | refine nw (by assumption) fun _ _ _ => ?_ | refine stB (by assumption) rfl rfl fun _ _ => ?_)
    by_cases e : M.room [now, 0, h] = 0
    · simp only [if_pos e] at k
      refine Cd.t (eqN_t e) ?_
      repeat (first | refine run ?_ | refine Cd.t rfl ?_ | refine Cd.f rfl ?_ | refine Cd.t (by decide +kernel) ?_ | refine Cd.f (by decide +kernel) ?_ | refine Sc.mk rfl ?_ | refine ld (by assumption) rfl ?_ | refine nw (by assumption) fun _ _ _ => ?_ | refine stB (by assumption) rfl rfl fun _ _ => ?_)
      exact k _ (Sat.close (L1 := []) (Sat.ent (by assumption) (by repeat (first | exact Ent.refl _ | exact Ent.none | apply Ent.cons (by repeat (first | exact Pull.here | apply Pull.there)) | refine Ent.drop ?_))) fun g a => trivial)
    · simp only [if_neg e] at k
      refine Cd.f (eqN_f e) ?_
      repeat (first | refine run ?_ | refine Cd.t rfl ?_ | refine Cd.f rfl ?_ | refine Cd.t (by decide +kernel) ?_ | refine Cd.f (by decide +kernel) ?_ | refine Sc.mk rfl ?_ | refine ld (by assumption) rfl ?_ | refine nw (by assumption) fun _ _ _ => ?_ | refine stB (by assumption) rfl rfl fun _ _ => ?_)
      exact k _ (Sat.close (L1 := [_]) (Sat.ent (by assumption) (by repeat (first | exact Ent.refl _ | exact Ent.none | apply Ent.cons (by repeat (first | exact Pull.here | apply Pull.there)) | refine Ent.drop ?_))) fun g a => ⟨_, _, _, _, _, _, a⟩)
  · simp only [CasS.step] at k
    obtain ⟨bg, nn, pi, sw, ps, er, hin⟩ := hin
    have hs1 := Sat.merge s1 s2 d hin hR
    simp only [List.cons_append, List.nil_append] at hs1
    repeat (first | refine run ?_ | refine Cd.t rfl ?_ | refine Cd.f rfl ?_ | refine Cd.t (by decide +kernel) ?_ | refine Cd.f (by decide +kernel) ?_ | refine Sc.mk rfl ?_ | refine ld (by assumption) rfl ?_ | refine nw (by assumption) fun _ _ _ => ?_ | refine stB (by assumption) rfl rfl fun _ _ => ?_)
    refine viewCas_ok hc hs1 (by repeat (first | exact Pull.here | apply Pull.there)) (by repeat (first | exact Pull.here | apply Pull.there)) hn ht fun H1 h1 => ?_
    repeat (first | refine run ?_ | refine Cd.t rfl ?_ | refine Cd.f rfl ?_ | refine Cd.t (by decide +kernel) ?_ | refine Cd.f (by decide +kernel) ?_ | refine Sc.mk rfl ?_ | refine ld (by assumption) rfl ?_ | refine nw (by assumption) fun _ _ _ => ?_ | refine stB (by assumption) rfl rfl fun _ _ => ?_)
    refine newInit_ok hc (by assumption) fun q' H2 h2 => ?_
    repeat (first | refine run ?_ | refine Cd.t rfl ?_ | refine Cd.f rfl ?_ | refine Cd.t (by decide +kernel) ?_ | refine Cd.f (by decide +kernel) ?_ | refine Sc.mk rfl ?_ | refine ld (by assumption) rfl ?_ | refine nw (by assumption) fun _ _ _ => ?_ | refine stB (by assumption) rfl rfl fun _ _ => ?_)
    cases e : M.swaps obj h with
    | true =>
      simp only [e, if_true] at k
      refine Cd.f rfl ?_
      repeat (first | refine run ?_ | refine Cd.t rfl ?_ | refine Cd.f rfl ?_ | refine Cd.t (by decide +kernel) ?_ | refine Cd.f (by decide +kernel) ?_ | refine Sc.mk rfl ?_ | refine ld (by assumption) rfl ?_ | refine nw (by assumption) fun _ _ _ => ?_ | refine stB (by assumption) rfl rfl fun _ _ => ?_)
      exact k _ (Sat.close (L1 := [_, _]) (Sat.ent (by assumption) (by repeat (first | exact Ent.refl _ | exact Ent.none | apply Ent.cons (by repeat (first | exact Pull.here | apply Pull.there)) | refine Ent.drop ?_))) fun g a => ⟨_, _, _, _, _, _, _, _, by show 0 < 3; omega, a⟩)
    | false =>
      simp only [e] at k
      refine Cd.t rfl ?_
      repeat (first | refine run ?_ | refine Cd.t rfl ?_ | refine Cd.f rfl ?_ | refine Cd.t (by decide +kernel) ?_ | refine Cd.f (by decide +kernel) ?_ | refine Sc.mk rfl ?_ | refine ld (by assumption) rfl ?_ | refine nw (by assumption) fun _ _ _ => ?_ | refine stB (by assumption) rfl rfl fun _ _ => ?_)
      exact k _ (Sat.close (L1 := [_]) (Sat.ent (by assumption) (by repeat (first | exact Ent.refl _ | exact Ent.none | apply Ent.cons (by repeat (first | exact Pull.here | apply Pull.there)) | refine Ent.drop ?_))) fun g a => ⟨_, _, _, _, _, _, _, _, a⟩)
  · simp only [CasS.step] at k
    obtain ⟨bg, nn, hh, pi, nv, sw, q', er, hlt, hin⟩ := hin
    have hs1 := Sat.merge s1 s2 d hin hR
    simp only [List.cons_append, List.nil_append] at hs1
    repeat (first | refine run ?_ | refine Cd.t rfl ?_ | refine Cd.f rfl ?_ | refine Cd.t (by decide +kernel) ?_ | refine Cd.f (by decide +kernel) ?_ | refine Sc.mk rfl ?_ | refine ld (by assumption) rfl ?_ | refine nw (by assumption) fun _ _ _ => ?_ | refine stB (by assumption) rfl rfl fun _ _ => ?_)
    refine initStep_ok hc ini hs1 (by repeat (first | exact Pull.here | apply Pull.there)) (by repeat (first | exact Pull.here | apply Pull.there)) (by repeat (first | exact Pull.here | apply Pull.there)) hn ht hlt fun H1 h1 => ?_
    by_cases e : (ini.step M th).1.at_ = 3
    · simp only [if_pos e] at k
      rw [eqZ_t e]
      repeat (first | refine run ?_ | refine Cd.t rfl ?_ | refine Cd.f rfl ?_ | refine Cd.t (by decide +kernel) ?_ | refine Cd.f (by decide +kernel) ?_ | refine Sc.mk rfl ?_ | refine ld (by assumption) rfl ?_ | refine nw (by assumption) fun _ _ _ => ?_ | refine stB (by assumption) rfl rfl fun _ _ => ?_)
      exact k _ (Sat.close (L1 := []) (Sat.ent (by assumption) (by repeat (first | exact Ent.refl _ | exact Ent.none | apply Ent.cons (by repeat (first | exact Pull.here | apply Pull.there)) | refine Ent.drop ?_))) fun g a => trivial)
    · simp only [if_neg e] at k
      rw [eqZ_f e]
      repeat (first | refine run ?_ | refine Cd.t rfl ?_ | refine Cd.f rfl ?_ | refine Cd.t (by decide +kernel) ?_ | refine Cd.f (by decide +kernel) ?_ | refine Sc.mk rfl ?_ | refine ld (by assumption) rfl ?_ | refine nw (by assumption) fun _ _ _ => ?_ | refine stB (by assumption) rfl rfl fun _ _ => ?_)
      exact k _ (Sat.close (L1 := [Own p _, Own q' _]) (Sat.ent (by assumption) (by repeat (first | exact Ent.refl _ | exact Ent.none | apply Ent.cons (by repeat (first | exact Pull.here | apply Pull.there)) | refine Ent.drop ?_))) fun g a => ⟨_, _, _, _, _, _, _, _, by have := ini_lt ini M th hlt e; exact this, a⟩)
  · simp only [CasS.step] at k
    obtain ⟨bg, nn, hh, pi, nv, sw, ps, er, hin⟩ := hin
    have hs1 := Sat.merge s1 s2 d hin hR
    simp only [List.cons_append, List.nil_append] at hs1
    repeat (first | refine run ?_ | refine Cd.t rfl ?_ | refine Cd.f rfl ?_ | refine Cd.t (by decide +kernel) ?_ | refine Cd.f (by decide +kernel) ?_ | refine Sc.mk rfl ?_ | refine ld (by assumption) rfl ?_ | refine nw (by assumption) fun _ _ _ => ?_ | refine stB (by assumption) rfl rfl fun _ _ => ?_)
    refine viewLoad_ok hc hs1 (by repeat (first | exact Pull.here | apply Pull.there)) (by repeat (first | exact Pull.here | apply Pull.there)) hn ht fun H1 h1 => ?_
    refine newInit_ok hc (by assumption) fun q' H2 h2 => ?_
    repeat (first | refine run ?_ | refine Cd.t rfl ?_ | refine Cd.f rfl ?_ | refine Cd.t (by decide +kernel) ?_ | refine Cd.f (by decide +kernel) ?_ | refine Sc.mk rfl ?_ | refine ld (by assumption) rfl ?_ | refine nw (by assumption) fun _ _ _ => ?_ | refine stB (by assumption) rfl rfl fun _ _ => ?_)
    exact k _ (Sat.close (L1 := [Own p _, Own q' _]) (Sat.ent (by assumption) (by repeat (first | exact Ent.refl _ | exact Ent.none | apply Ent.cons (by repeat (first | exact Pull.here | apply Pull.there)) | refine Ent.drop ?_))) fun g a => ⟨_, _, _, _, _, _, _, _, by show 0 < 3; omega, a⟩)
  · simp only [CasS.step] at k
    obtain ⟨bg, nn, hh, pi, nv, sw, q', er, hlt, hin⟩ := hin
    have hs1 := Sat.merge s1 s2 d hin hR
    simp only [List.cons_append, List.nil_append] at hs1
    repeat (first | refine run ?_ | refine Cd.t rfl ?_ | refine Cd.f rfl ?_ | refine Cd.t (by decide +kernel) ?_ | refine Cd.f (by decide +kernel) ?_ | refine Sc.mk rfl ?_ | refine ld (by assumption) rfl ?_ | refine nw (by assumption) fun _ _ _ => ?_ | refine stB (by assumption) rfl rfl fun _ _ => ?_)
    refine initStep_ok hc ini hs1 (by repeat (first | exact Pull.here | apply Pull.there)) (by repeat (first | exact Pull.here | apply Pull.there)) (by repeat (first | exact Pull.here | apply Pull.there)) hn ht hlt fun H1 h1 => ?_
    by_cases e : (ini.step M th).1.at_ = 3
    · simp only [if_pos e] at k
      rw [eqZ_t e]
      repeat (first | refine run ?_ | refine Cd.t rfl ?_ | refine Cd.f rfl ?_ | refine Cd.t (by decide +kernel) ?_ | refine Cd.f (by decide +kernel) ?_ | refine Sc.mk rfl ?_ | refine ld (by assumption) rfl ?_ | refine nw (by assumption) fun _ _ _ => ?_ | refine stB (by assumption) rfl rfl fun _ _ => ?_)
      exact k _ (Sat.close (L1 := []) (Sat.ent (by assumption) (by repeat (first | exact Ent.refl _ | exact Ent.none | apply Ent.cons (by repeat (first | exact Pull.here | apply Pull.there)) | refine Ent.drop ?_))) fun g a => trivial)
    · simp only [if_neg e] at k
      rw [eqZ_f e]
      repeat (first | refine run ?_ | refine Cd.t rfl ?_ | refine Cd.f rfl ?_ | refine Cd.t (by decide +kernel) ?_ | refine Cd.f (by decide +kernel) ?_ | refine Sc.mk rfl ?_ | refine ld (by assumption) rfl ?_ | refine nw (by assumption) fun _ _ _ => ?_ | refine stB (by assumption) rfl rfl fun _ _ => ?_)
      exact k _ (Sat.close (L1 := [Own p _, Own q' _]) (Sat.ent (by assumption) (by repeat (first | exact Ent.refl _ | exact Ent.none | apply Ent.cons (by repeat (first | exact Pull.here | apply Pull.there)) | refine Ent.drop ?_))) fun g a => ⟨_, _, _, _, _, _, _, _, by have := ini_lt ini M th hlt e; exact this, a⟩)

theorem newAt_ok (hc : Con con lives) {L : List HP} {H : CH} {cam obj stamp : Nat} {K : KP} (hs : Sat L H) (k : ∀ p H1, Sat (PastAt p ⟨cam, obj, stamp, 0, 0, ⟨0, 0, 0, 0⟩⟩ :: L) H1 → K (ptr p 0) H1) : Call1 Try.prog con 96 [u64 cam, u64 obj, u64 stamp] H K := by
  refine call_of (hc _ _ _ rfl) ?_
  rw [newAt_W]
  exact nw hs fun p H1 h1 => k p _ (Sat.close (L1 := [_]) h1 fun g a => ⟨_, _, _, _, a⟩)

theorem atStep_ok (hc : Con con lives) (s : PastS) {L R1 R2 R3 : List HP} {H : CH} {p q m n : Nat} {th : Int} {M : Mem} {K : KP} (hs : Sat L H) (hm : Pull L (MemP m M) R1) (hv : Pull R1 (ViewAt q m th n) R2) (hp : Pull R2 (PastAt p s) R3)
    (hn : n < 1000000000) (ht : M.tr.length < 1000000000) (hat : s.at_ < 5) (k : ∀ H1, Sat (PastAt p (s.step M th).1 :: MemP m (s.step M th).2 :: ViewAt q m th (n + 1) :: R3) H1 → K (.bool (eqN (s.step M th).1.at_ 5)) H1) :
    Call1 Try.prog con 240 [ptr p 0, ptr q 0] H K := by
  refine call_of (hc _ _ _ rfl) ?_
  rw [atStep_W]
  have hs0 := hs.takes (.cons hm (.cons hv (.cons hp .nil)))
  simp only [List.cons_append, List.nil_append] at hs0
  obtain ⟨h1, h2, s1, s2, d, hin, hR⟩ := hs0.opens (.there (.there .here))
  obtain ⟨cam, obj, stamp, at_, h, ini⟩ := s
  simp only at hat
  rcases (by omega : at_ = 0 ∨ at_ = 1 ∨ at_ = 2 ∨ at_ = 3 ∨ at_ = 4) with rfl | rfl | rfl | rfl | rfl
  · simp only [PastS.step] at k
    obtain ⟨nn, hh, pi, vv, hin⟩ := hin
    have hs1 := Sat.merge s1 s2 d hin hR
    simp only [List.cons_append, List.nil_append] at hs1
    repeat (first | refine run ?_ | refine Cd.t rfl ?_ | refine Cd.f rfl ?_ | refine Cd.t (by decide +kernel) ?_ | refine Cd.f (by decide +kernel) ?_ | refine Sc.mk rfl ?_ | refine ld (by assumption) rfl ?_ | refine nw (by assumption) fun _ _ _ => ?_ | refine stB (by assumption) rfl rfl fun _ _ => ?_)
    refine find0_ok hc hs1 (by repeat (first | exact Pull.here | apply Pull.there)) (by repeat (first | exact Pull.here | apply Pull.there)) (by repeat (first | exact Pull.here | apply Pull.there)) hn ht fun q' H1 h1 => ?_
    by_cases e : M.peek obj = 0
    · simp only [if_pos e] at k
      rw [eqN_t e] at h1 ⊢
      repeat (first | refine run ?_ | refine Cd.t rfl ?_ | refine Cd.f rfl ?_ | refine Cd.t (by decide +kernel) ?_ | refine Cd.f (by decide +kernel) ?_ | refine Sc.mk rfl ?_ | refine ld (by assumption) rfl ?_ | refine nw (by assumption) fun _ _ _ => ?_ | refine stB (by assumption) rfl rfl fun _ _ => ?_)
      exact k _ (Sat.close (L1 := []) (Sat.ent (by assumption) (by repeat (first | exact Ent.refl _ | exact Ent.none | apply Ent.cons (by repeat (first | exact Pull.here | apply Pull.there)) | refine Ent.drop ?_))) fun g a => trivial)
    · simp only [if_neg e] at k
      rw [eqN_f e] at h1 ⊢
      repeat (first | refine run ?_ | refine Cd.t rfl ?_ | refine Cd.f rfl ?_ | refine Cd.t (by decide +kernel) ?_ | refine Cd.f (by decide +kernel) ?_ | refine Sc.mk rfl ?_ | refine ld (by assumption) rfl ?_ | refine nw (by assumption) fun _ _ _ => ?_ | refine stB (by assumption) rfl rfl fun _ _ => ?_)
      exact k _ (Sat.close (L1 := [Own p _, Own q' _]) (h1.ent (by repeat (first | exact Ent.refl _ | exact Ent.none | apply Ent.cons (by repeat (first | exact Pull.here | apply Pull.there)) | refine Ent.drop ?_))) fun g a => ⟨_, _, by show 0 < 3; omega, a⟩)
  · simp only [PastS.step] at k
    obtain ⟨q', vv, hlt, hin⟩ := hin
    have hs1 := Sat.merge s1 s2 d hin hR
    simp only [List.cons_append, List.nil_append] at hs1
    repeat (first | refine run ?_ | refine Cd.t rfl ?_ | refine Cd.f rfl ?_ | refine Cd.t (by decide +kernel) ?_ | refine Cd.f (by decide +kernel) ?_ | refine Sc.mk rfl ?_ | refine ld (by assumption) rfl ?_ | refine nw (by assumption) fun _ _ _ => ?_ | refine stB (by assumption) rfl rfl fun _ _ => ?_)
    refine find1_ok hc ini hs1 (by repeat (first | exact Pull.here | apply Pull.there)) (by repeat (first | exact Pull.here | apply Pull.there)) (by repeat (first | exact Pull.here | apply Pull.there)) (by repeat (first | exact Pull.here | apply Pull.there)) hn ht hlt fun H1 h1 => ?_
    by_cases e : (ini.step M th).1.at_ = 3
    · simp only [if_pos e] at k
      rw [eqZ_t e]
      repeat (first | refine run ?_ | refine Cd.t rfl ?_ | refine Cd.f rfl ?_ | refine Cd.t (by decide +kernel) ?_ | refine Cd.f (by decide +kernel) ?_ | refine Sc.mk rfl ?_ | refine ld (by assumption) rfl ?_ | refine nw (by assumption) fun _ _ _ => ?_ | refine stB (by assumption) rfl rfl fun _ _ => ?_)
      exact k _ (Sat.close (L1 := [Own p _]) (Sat.ent (by assumption) (by repeat (first | exact Ent.refl _ | exact Ent.none | apply Ent.cons (by repeat (first | exact Pull.here | apply Pull.there)) | refine Ent.drop ?_))) fun g a => ⟨_, _, _, _, a⟩)
    · simp only [if_neg e] at k
      rw [eqZ_f e]
      repeat (first | refine run ?_ | refine Cd.t rfl ?_ | refine Cd.f rfl ?_ | refine Cd.t (by decide +kernel) ?_ | refine Cd.f (by decide +kernel) ?_ | refine Sc.mk rfl ?_ | refine ld (by assumption) rfl ?_ | refine nw (by assumption) fun _ _ _ => ?_ | refine stB (by assumption) rfl rfl fun _ _ => ?_)
      exact k _ (Sat.close (L1 := [Own p _, Own q' _]) (Sat.ent (by assumption) (by repeat (first | exact Ent.refl _ | exact Ent.none | apply Ent.cons (by repeat (first | exact Pull.here | apply Pull.there)) | refine Ent.drop ?_))) fun g a => ⟨_, _, by have := ini_lt ini M th hlt e; exact this, a⟩)
  · simp only [PastS.step] at k
    obtain ⟨bg, nn, pi, vv, hin⟩ := hin
    have hs1 := Sat.merge s1 s2 d hin hR
    simp only [List.cons_append, List.nil_append] at hs1
    repeat (first | refine run ?_ | refine Cd.t rfl ?_ | refine Cd.f rfl ?_ | refine Cd.t (by decide +kernel) ?_ | refine Cd.f (by decide +kernel) ?_ | refine Sc.mk rfl ?_ | refine ld (by assumption) rfl ?_ | refine nw (by assumption) fun _ _ _ => ?_ | refine stB (by assumption) rfl rfl fun _ _ => ?_)
    refine viewLoad_ok hc (by assumption) (by repeat (first | exact Pull.here | apply Pull.there)) (by repeat (first | exact Pull.here | apply Pull.there)) hn ht fun H1 h1 => ?_
    repeat (first | refine run ?_ | refine Cd.t rfl ?_ | refine Cd.f rfl ?_ | refine Cd.t (by decide +kernel) ?_ | refine Cd.f (by decide +kernel) ?_ | refine Sc.mk rfl ?_ | refine ld (by assumption) rfl ?_ | refine nw (by assumption) fun _ _ _ => ?_ | refine stB (by assumption) rfl rfl fun _ _ => ?_)
    by_cases e : stamp < M.peek (addM h 1)
    · simp only [if_pos e] at k
      refine Cd.t (ltN_t e) ?_
      repeat (first | refine run ?_ | refine Cd.t rfl ?_ | refine Cd.f rfl ?_ | refine Cd.t (by decide +kernel) ?_ | refine Cd.f (by decide +kernel) ?_ | refine Sc.mk rfl ?_ | refine ld (by assumption) rfl ?_ | refine nw (by assumption) fun _ _ _ => ?_ | refine stB (by assumption) rfl rfl fun _ _ => ?_)
      exact k _ (Sat.close (L1 := [Own p _]) (Sat.ent (by assumption) (by repeat (first | exact Ent.refl _ | exact Ent.none | apply Ent.cons (by repeat (first | exact Pull.here | apply Pull.there)) | refine Ent.drop ?_))) fun g a => ⟨_, _, _, _, a⟩)
    · simp only [if_neg e] at k
      refine Cd.f (ltN_f (Nat.le_of_not_lt e)) ?_
      repeat (first | refine run ?_ | refine Cd.t rfl ?_ | refine Cd.f rfl ?_ | refine Cd.t (by decide +kernel) ?_ | refine Cd.f (by decide +kernel) ?_ | refine Sc.mk rfl ?_ | refine ld (by assumption) rfl ?_ | refine nw (by assumption) fun _ _ _ => ?_ | refine stB (by assumption) rfl rfl fun _ _ => ?_)
      exact k _ (Sat.close (L1 := [Own p _]) (Sat.ent (by assumption) (by repeat (first | exact Ent.refl _ | exact Ent.none | apply Ent.cons (by repeat (first | exact Pull.here | apply Pull.there)) | refine Ent.drop ?_))) fun g a => ⟨_, _, _, _, a⟩)
  · simp only [PastS.step] at k
    obtain ⟨bg, nn, pi, vv, hin⟩ := hin
    have hs1 := Sat.merge s1 s2 d hin hR
    simp only [List.cons_append, List.nil_append] at hs1
    repeat (first | refine run ?_ | refine Cd.t rfl ?_ | refine Cd.f rfl ?_ | refine Cd.t (by decide +kernel) ?_ | refine Cd.f (by decide +kernel) ?_ | refine Sc.mk rfl ?_ | refine ld (by assumption) rfl ?_ | refine nw (by assumption) fun _ _ _ => ?_ | refine stB (by assumption) rfl rfl fun _ _ => ?_)
    refine viewLoad_ok hc (by assumption) (by repeat (first | exact Pull.here | apply Pull.there)) (by repeat (first | exact Pull.here | apply Pull.there)) hn ht fun H1 h1 => ?_
    repeat (first | refine run ?_ | refine Cd.t rfl ?_ | refine Cd.f rfl ?_ | refine Cd.t (by decide +kernel) ?_ | refine Cd.f (by decide +kernel) ?_ | refine Sc.mk rfl ?_ | refine ld (by assumption) rfl ?_ | refine nw (by assumption) fun _ _ _ => ?_ | refine stB (by assumption) rfl rfl fun _ _ => ?_)
    by_cases e : M.peek (addM h 2) = 0
    · simp only [if_pos e] at k
      refine Cd.t (eqN_t e) ?_
      repeat (first | refine run ?_ | refine Cd.t rfl ?_ | refine Cd.f rfl ?_ | refine Cd.t (by decide +kernel) ?_ | refine Cd.f (by decide +kernel) ?_ | refine Sc.mk rfl ?_ | refine ld (by assumption) rfl ?_ | refine nw (by assumption) fun _ _ _ => ?_ | refine stB (by assumption) rfl rfl fun _ _ => ?_)
      exact k _ (Sat.close (L1 := []) (Sat.ent (by assumption) (by repeat (first | exact Ent.refl _ | exact Ent.none | apply Ent.cons (by repeat (first | exact Pull.here | apply Pull.there)) | refine Ent.drop ?_))) fun g a => trivial)
    · simp only [if_neg e] at k
      refine Cd.f (eqN_f e) ?_
      repeat (first | refine run ?_ | refine Cd.t rfl ?_ | refine Cd.f rfl ?_ | refine Cd.t (by decide +kernel) ?_ | refine Cd.f (by decide +kernel) ?_ | refine Sc.mk rfl ?_ | refine ld (by assumption) rfl ?_ | refine nw (by assumption) fun _ _ _ => ?_ | refine stB (by assumption) rfl rfl fun _ _ => ?_)
      exact k _ (Sat.close (L1 := [Own p _]) (Sat.ent (by assumption) (by repeat (first | exact Ent.refl _ | exact Ent.none | apply Ent.cons (by repeat (first | exact Pull.here | apply Pull.there)) | refine Ent.drop ?_))) fun g a => ⟨_, _, _, _, a⟩)
  · simp only [PastS.step] at k
    obtain ⟨bg, nn, pi, vv, hin⟩ := hin
    have hs1 := Sat.merge s1 s2 d hin hR
    simp only [List.cons_append, List.nil_append] at hs1
    repeat (first | refine run ?_ | refine Cd.t rfl ?_ | refine Cd.f rfl ?_ | refine Cd.t (by decide +kernel) ?_ | refine Cd.f (by decide +kernel) ?_ | refine Sc.mk rfl ?_ | refine ld (by assumption) rfl ?_ | refine nw (by assumption) fun _ _ _ => ?_ | refine stB (by assumption) rfl rfl fun _ _ => ?_)
    refine viewLoad_ok hc hs1 (by repeat (first | exact Pull.here | apply Pull.there)) (by repeat (first | exact Pull.here | apply Pull.there)) hn ht fun H1 h1 => ?_
    repeat (first | refine run ?_ | refine Cd.t rfl ?_ | refine Cd.f rfl ?_ | refine Cd.t (by decide +kernel) ?_ | refine Cd.f (by decide +kernel) ?_ | refine Sc.mk rfl ?_ | refine ld (by assumption) rfl ?_ | refine nw (by assumption) fun _ _ _ => ?_ | refine stB (by assumption) rfl rfl fun _ _ => ?_)
    exact k _ (Sat.close (L1 := []) (Sat.ent (by assumption) (by repeat (first | exact Ent.refl _ | exact Ent.none | apply Ent.cons (by repeat (first | exact Pull.here | apply Pull.there)) | refine Ent.drop ?_))) fun g a => trivial)
end Go.Proofs.Ytipbbnoepphdkaa

set_option linter.unusedVariables false
set_option linter.unusedSimpArgs false
namespace Go.Proofs.Ytipbbnoepphdkaa
open Go Go.CM
attribute [local irreducible] AsBool AsWant AsNat AsInt AsCnt AsPtr AsSlc AsLen AsStr AsAgg AsTup AsFn AsIfc Nth Sc NotNil IsNil Must Cd codeW funW Sat SatL wrapN subM mkRow ltZ leZ ltN leN
variable {con : CallT}

/-! ### threads that take steps -/
theorem el_int : elemOk Try.prog 70 3 1 8 = true := by kernel_rfl
theorem el_ev : elemOk Try.prog 167 242 4 32 = true := by kernel_rfl
theorem el_thr : elemOk Try.prog 165 172 3 40 = true := by kernel_rfl
theorem el_pr : elemOk Try.prog 73 76 1 16 = true := by kernel_rfl
theorem sl_int : ∃ e, Try.prog.underlying 70 = some (.slice e) := ⟨3, by kernel_rfl⟩
theorem sl_ev : ∃ e, Try.prog.underlying 167 = some (.slice e) := ⟨242, by kernel_rfl⟩
theorem sl_thr : ∃ e, Try.prog.underlying 165 = some (.slice e) := ⟨172, by kernel_rfl⟩
theorem sl_pr : ∃ e, Try.prog.underlying 73 = some (.slice e) := ⟨76, by kernel_rfl⟩

def runC (m : Nat) (tv : Value) (vws : List Value) (steps : Nat) (ev av : Value) : List Value := ptr m 0 :: tv :: (vws ++ [iN steps, ev, av])
theorem runC_len {m : Nat} {tv : Value} {vws : List Value} {s : Nat} {ev av : Value} (h : vws.length = 64) : (runC m tv vws s ev av).length = 69 := by simp [runC, h]
theorem run66 {m : Nat} {tv : Value} {vws : List Value} {s : Nat} {ev av : Value} (h : vws.length = 64) : (runC m tv vws s ev av)[66]? = some (iN s) := by
  show (vws ++ [iN s, ev, av])[64]? = _
  rw [List.getElem?_append_right (by omega), h]; rfl
theorem run67 {m : Nat} {tv : Value} {vws : List Value} {s : Nat} {ev av : Value} (h : vws.length = 64) : (runC m tv vws s ev av)[67]? = some ev := by
  show (vws ++ [iN s, ev, av])[65]? = _
  rw [List.getElem?_append_right (by omega), h]; rfl
theorem run68 {m : Nat} {tv : Value} {vws : List Value} {s : Nat} {ev av : Value} (h : vws.length = 64) : (runC m tv vws s ev av)[68]? = some av := by
  show (vws ++ [iN s, ev, av])[66]? = _
  rw [List.getElem?_append_right (by omega), h]; rfl
theorem runV {m n : Nat} {tv : Value} {vws : List Value} {s : Nat} {ev av : Value} (h : n < vws.length) : (runC m tv vws s ev av)[Nat.add 2 (Nat.mul n 1)]? = vws[n]? := by
  rw [show Nat.add 2 (Nat.mul n 1) = n + 1 + 1 from by show 2 + n * 1 = _; omega]
  show (vws ++ [iN s, ev, av])[n]? = _
  rw [List.getElem?_append_left h]
theorem set66 {m : Nat} {tv : Value} {vws : List Value} {s s' : Nat} {ev av : Value} (h : vws.length = 64) : (runC m tv vws s ev av).set 66 (iN s') = runC m tv vws s' ev av := by
  show ptr m 0 :: tv :: (vws ++ [iN s, ev, av]).set 64 (iN s') = _
  rw [List.set_append_right _ _ (by omega), h]; rfl
theorem set67 {m : Nat} {tv : Value} {vws : List Value} {s : Nat} {ev ev' av : Value} (h : vws.length = 64) : (runC m tv vws s ev av).set 67 ev' = runC m tv vws s ev' av := by
  show ptr m 0 :: tv :: (vws ++ [iN s, ev, av]).set 65 ev' = _
  rw [List.set_append_right _ _ (by omega), h]; rfl
theorem set68 {m : Nat} {tv : Value} {vws : List Value} {s : Nat} {ev av av' : Value} (h : vws.length = 64) : (runC m tv vws s ev av).set 68 av' = runC m tv vws s ev av' := by
  show ptr m 0 :: tv :: (vws ++ [iN s, ev, av]).set 66 av' = _
  rw [List.set_append_right _ _ (by omega), h]; rfl
theorem setV {m n : Nat} {tv : Value} {vws : List Value} {s : Nat} {ev av v : Value} (h : n < vws.length) : (runC m tv vws s ev av).set (Nat.add 2 (Nat.mul n 1)) v = runC m tv (vws.set n v) s ev av := by
  rw [show Nat.add 2 (Nat.mul n 1) = n + 1 + 1 from by show 2 + n * 1 = _; omega]
  show ptr m 0 :: tv :: (vws ++ [iN s, ev, av]).set n v = _
  rw [List.set_append_left _ _ h]; rfl

def thrRows (pv : List Value) (ths : List (Nat × Bool)) : List (List Value) := List.zipWith (fun p t => [p, iN t.1, .bool t.2]) pv ths
def procsL (pv : List Value) (prs : List (List Value)) : List HP := List.zipWith (fun p l => Vec p 76 1 (l.map fun x => [x])) pv prs
/-- A Runner: threads of procs, how far each is, the views, steps so far; of the accesses so far T at most are noted. -/
def RunAt (r m : Nat) (tv : Value) (pv : List Value) (prs : List (List Value)) (ths : List (Nat × Bool)) (vws : List Value) (steps T : Nat) : HP := fun h => ∃ (ev av : Value) (evs ats : List (List Value)),
  (evs.length ≤ 2 * steps ∧ ats.length ≤ T ∧ vws.length = 64 ∧ pv.length = ths.length ∧ prs.length = ths.length) ∧
  SatL [Own r (runC m tv vws steps ev av), Vec tv 172 3 (thrRows pv ths), Vec ev 242 4 evs, Vec av 3 1 ats, SatL (procsL pv prs)] h

theorem thr_get {pv : List Value} {ths : List (Nat × Bool)} {i : Nat} {p : Value} {t : Nat × Bool} (h1 : pv[i]? = some p) (h2 : ths[i]? = some t) : (thrRows pv ths)[i]? = some [p, iN t.1, .bool t.2] := by
  unfold thrRows; rw [List.getElem?_zipWith, h1, h2]
theorem procs_get {pv : List Value} {prs : List (List Value)} {i : Nat} {p : Value} {l : List Value} (h1 : pv[i]? = some p) (h2 : prs[i]? = some l) : (procsL pv prs)[i]? = some (Vec p 76 1 (l.map fun x => [x])) := by
  unfold procsL; rw [List.getElem?_zipWith, h1, h2]
theorem thr_set {pv : List Value} {ths : List (Nat × Bool)} {i : Nat} {p : Value} {t : Nat × Bool} (h1 : pv[i]? = some p) : (thrRows pv ths).set i [p, iN t.1, .bool t.2] = thrRows pv (ths.set i t) := by
  unfold thrRows
  apply List.ext_getElem?
  intro j
  rw [List.getElem?_set, List.getElem?_zipWith, List.getElem?_zipWith, List.getElem?_set, List.length_zipWith]
  by_cases hj : i = j
  · subst hj
    rw [h1]
    have := (List.getElem?_eq_some_iff.1 h1).1
    simp only [if_true]
    by_cases hl : i < ths.length
    · rw [if_pos hl, if_pos (by omega)]
    · rw [if_neg hl, if_neg (by omega)]
  · simp only [hj, if_false]

theorem stepNote_ok (hc : Con con lives) {L R1 R2 : List HP} {H : CH} {r m steps : Nat} {step : Int} {tv ev av : Value} {vws : List Value} {ats : List (List Value)} {ahead now : Nat} {K : KP} (hs : Sat L H) (hp : Pull L (Own r (runC m tv vws steps ev av)) R1) (hq : Pull R1 (Vec av 3 1 ats) R2)
    (hv : vws.length = 64) (h1 : ats.length ≤ ahead) (h2 : ahead ≤ now) (h3 : now ≤ 1000000000) (k : ∀ av' ats' H1, ats'.length ≤ now → Sat (Own r (runC m tv vws steps ev av') :: Vec av' 3 1 ats' :: R2) H1 → K unit H1) :
    Call1 Try.prog con 130 [ptr r 0, i64 step, iN ahead, iN now] H K := by
  refine call_of (hc _ _ _ rfl) ?_
  rw [stepNote_W]
  have hs0 := hs.takes (.cons hp (.cons hq .nil))
  simp only [List.cons_append, List.nil_append] at hs0
  refine LoopC.indP (n := 100) (id := 0) (fun σ H => σ 0 = ptr r 0 ∧ σ 1 = i64 step ∧ σ 3 = iN now ∧ ∃ av ats, ats.length ≤ now ∧ Sat (Own r (runC m tv vws steps ev av) :: Vec av 3 1 ats :: R2) H) (by kernel_rfl)
    (fun (i : Nat) σ H => σ 0 = ptr r 0 ∧ σ 1 = i64 step ∧ σ 2 = iN ahead ∧ σ 3 = iN now ∧ i ≤ ahead ∧ ∃ av ats, ats.length = i ∧ Sat (Own r (runC m tv vws steps ev av) :: Vec av 3 1 ats :: R2) H) (fun i => ahead - i) (fun i σ H hI => ?_) (fun σ H hP => ?_) ats.length _ _
    ⟨rfl, rfl, rfl, rfl, h1, av, ats, rfl, hs0⟩
  · obtain ⟨e0, e1, e2, e3, hi, av, ats, hats, hs1⟩ := hI
    rw [stepNoteA_W]
    simp only [e0, e1, e2, e3]
    refine NotNil.ptr (AsPtr.mk (ld hs1 (run68 hv) ?_))
    obtain ⟨pa, ea⟩ := (hs1.has (Has.skip Has.vec)).shape
    subst ea
    repeat (first | refine run ?_ | refine Cd.t rfl ?_ | refine Cd.f rfl ?_ | refine Cd.t (by decide +kernel) ?_ | refine Cd.f (by decide +kernel) ?_ | refine Sc.mk rfl ?_ | refine ld (by assumption) rfl ?_ | refine nw (by assumption) fun _ _ _ => ?_ | refine stB (by assumption) rfl rfl fun _ _ => ?_)
    by_cases hlt : i < ahead
    · refine Cd.t (by rw [hats]; exact ltZ_t hlt) ?_
      refine NotNil.ptr (AsPtr.mk (ld hs1 (run68 hv) ?_))
      refine nw hs1 fun b H1 h1 => ?_
      refine app_vec (new := [[.int .i64 (Int.negSucc 0)]]) h1 (by repeat (first | exact Pull.here | apply Pull.there)) el_int (by omega) sl_int (Src.cell (n := 1) (by rfl)) rfl (by simp) (by simp; omega) rfl fun v H2 h2 => ?_
      obtain ⟨pv, ev'⟩ := (h2.has Has.vec).shape
      subst ev'
      refine NotNil.ptr (AsPtr.mk (Sc.mk rfl (st h2 (by rw [runC_len hv]; show 68 < 69; omega) rfl fun H3 h3 => ?_)))
      rw [show Nat.add 0 68 = 68 from rfl, set68 hv] at h3
      show ∃ y, _ ∧ _
      exact ⟨i + 1, by omega, e0, e1, e2, e3, hlt, _, ats ++ [[.int .i64 (Int.negSucc 0)]], by simp [hats], h3.ent (by repeat (first | exact Ent.refl _ | exact Ent.none | apply Ent.cons (by repeat (first | exact Pull.here | apply Pull.there)) | refine Ent.drop ?_))⟩
    · refine Cd.f (by rw [hats]; exact ltZ_f (by omega)) ?_
      show _ = _ ∧ _
      exact ⟨rfl, e0, e1, e3, _, ats, by omega, hs1⟩
  · obtain ⟨e0, e1, e3, av, ats, hats, hs1⟩ := hP
    show Cd _ _ _
    refine Cd.t (eqN_self 0) ?_
    refine LoopC.indP (n := 100) (id := 2) (fun σ H => ∃ av ats, ats.length ≤ now ∧ Sat (Own r (runC m tv vws steps ev av) :: Vec av 3 1 ats :: R2) H) (by kernel_rfl)
      (fun (i : Nat) σ H => σ 0 = ptr r 0 ∧ σ 1 = i64 step ∧ σ 3 = iN now ∧ i ≤ now ∧ ∃ av ats, ats.length = i ∧ Sat (Own r (runC m tv vws steps ev av) :: Vec av 3 1 ats :: R2) H) (fun i => now - i) (fun i σ H hI => ?_) (fun σ H hP => ?_) ats.length _ _
      ⟨e0, e1, e3, hats, av, ats, rfl, hs1⟩
    · obtain ⟨e0, e1, e3, hi, av, ats, hats, hs1⟩ := hI
      rw [stepNoteB_W]
      simp only [e0, e1, e3]
      refine NotNil.ptr (AsPtr.mk (ld hs1 (run68 hv) ?_))
      obtain ⟨pa, ea⟩ := (hs1.has (Has.skip Has.vec)).shape
      subst ea
      repeat (first | refine run ?_ | refine Cd.t rfl ?_ | refine Cd.f rfl ?_ | refine Cd.t (by decide +kernel) ?_ | refine Cd.f (by decide +kernel) ?_ | refine Sc.mk rfl ?_ | refine ld (by assumption) rfl ?_ | refine nw (by assumption) fun _ _ _ => ?_ | refine stB (by assumption) rfl rfl fun _ _ => ?_)
      by_cases hlt : i < now
      · refine Cd.t (by rw [hats]; exact ltZ_t hlt) ?_
        refine NotNil.ptr (AsPtr.mk (ld hs1 (run68 hv) ?_))
        refine Sc.mk rfl (nw hs1 fun b H1 h1 => ?_)
        refine app_vec (new := [[i64 step]]) h1 (by repeat (first | exact Pull.here | apply Pull.there)) el_int (by omega) sl_int (Src.cell (n := 1) (by rfl)) rfl (by simp) (by simp; omega) rfl fun v H2 h2 => ?_
        obtain ⟨pv, ev'⟩ := (h2.has Has.vec).shape
        subst ev'
        refine NotNil.ptr (AsPtr.mk (Sc.mk rfl (st h2 (by rw [runC_len hv]; show 68 < 69; omega) rfl fun H3 h3 => ?_)))
        rw [show Nat.add 0 68 = 68 from rfl, set68 hv] at h3
        show ∃ y, _ ∧ _
        exact ⟨i + 1, by omega, e0, e1, e3, hlt, _, ats ++ [[i64 step]], by simp [hats], h3.ent (by repeat (first | exact Ent.refl _ | exact Ent.none | apply Ent.cons (by repeat (first | exact Pull.here | apply Pull.there)) | refine Ent.drop ?_))⟩
      · refine Cd.f (by rw [hats]; exact ltZ_f (by omega)) ?_
        show _ = _ ∧ _
        exact ⟨rfl, _, ats, by omega, hs1⟩
    · obtain ⟨av, ats, hats, hs1⟩ := hP
      show Cd _ _ _
      refine Cd.t (eqN_self 2) ?_
      exact k _ _ _ hats hs1
end Go.Proofs.Ytipbbnoepphdkaa

set_option linter.unusedVariables false
set_option linter.unusedSimpArgs false
namespace Go.Proofs.Ytipbbnoepphdkaa
open Go Go.CM
attribute [local irreducible] AsBool AsWant AsNat AsInt AsCnt AsPtr AsSlc AsLen AsStr AsAgg AsTup AsFn AsIfc Nth Sc NotNil IsNil Must Cd codeW funW Sat SatL wrapN subM mkRow ltZ leZ ltN leN
variable {con : CallT}

def idleB (prs : List (List Value)) (ths : List (Nat × Bool)) (t : Int) : Bool :=
  match t with
  | .ofNat i => (match ths[i]?, prs[i]? with | some t, some l => decide (l.length ≤ t.1) | _, _ => true)
  | .negSucc _ => true

theorem rows_len (pv : List Value) (ths : List (Nat × Bool)) (h : pv.length = ths.length) : (thrRows pv ths).length = ths.length := by unfold thrRows; rw [List.length_zipWith, h, Nat.min_self]

theorem stepIdle_ok (hc : Con con lives) {L : List HP} {H : CH} {r m steps : Nat} {t : Int} {tv ev av : Value} {pv vws : List Value} {prs : List (List Value)} {ths : List (Nat × Bool)} {K : KP} (hs : Sat L H) [HasCell L r (runC m tv vws steps ev av)] (hV : Has L (Vec tv 172 3 (thrRows pv ths))) (hA : Has L (SatL (procsL pv prs)))
    (h1 : pv.length = ths.length) (h2 : prs.length = ths.length) (k : K (.bool (idleB prs ths t)) H) : Call1 Try.prog con 128 [ptr r 0, i64 t] H K := by
  refine call_of (hc _ _ _ rfl) ?_
  rw [stepIdle_W]
  cases t with
  | negSucc n => exact Cd.t ltZ_neg k
  | ofNat i =>
    refine Cd.f (ltZ_f (Nat.zero_le _)) ?_
    have hl := rows_len pv ths h1
    refine ld hs rfl ?_
    obtain ⟨pt, et⟩ := (hs.has hV).shape
    rw [hl] at et
    rw [et]
    refine AsLen.mk ?_
    by_cases hlt : i < ths.length
    · refine Cd.f (leZ_f hlt) ?_
      obtain ⟨⟨a, o⟩, e1⟩ : ∃ x, ths[i]? = some x := ⟨_, List.getElem?_eq_getElem hlt⟩
      obtain ⟨p, e2⟩ : ∃ x, pv[i]? = some x := ⟨_, List.getElem?_eq_getElem (by omega)⟩
      obtain ⟨l, e3⟩ : ∃ x, prs[i]? = some x := ⟨_, List.getElem?_eq_getElem (by omega)⟩
      obtain ⟨b, eb, _⟩ := (hs.has hV).slot (thr_get e2 e1)
      rw [hl, et] at eb
      injection eb with eb _ _
      subst eb
      obtain ⟨pp, ep⟩ := (hs.has (hA.all (procs_get e2 e3) fun a s => a.mono s)).shape
      simp only [List.length_map] at ep
      rw [show idleB prs ths (.ofNat i) = decide (l.length ≤ a) by simp only [idleB, e1, e3]] at k
      refine ld hs (by rw [et]; rfl) ?_
      repeat (first | refine run ?_ | refine Cd.t rfl ?_ | refine Cd.f rfl ?_ | refine Cd.t (by decide +kernel) ?_ | refine Cd.f (by decide +kernel) ?_ | refine Sc.mk rfl ?_ | refine ld (by assumption) rfl ?_ | refine nw (by assumption) fun _ _ _ => ?_ | refine stB (by assumption) rfl rfl fun _ _ => ?_)
      refine Must.mk (ltN_t hlt) ?_
      refine ldVec hs hV et (thr_get e2 e1) (j := 1) (by show 0 + i * 3 + 1 = _; omega) (by omega) rfl ?_
      refine ld hs (by rw [et]; rfl) ?_
      repeat (first | refine run ?_ | refine Cd.t rfl ?_ | refine Cd.f rfl ?_ | refine Cd.t (by decide +kernel) ?_ | refine Cd.f (by decide +kernel) ?_ | refine Sc.mk rfl ?_ | refine ld (by assumption) rfl ?_ | refine nw (by assumption) fun _ _ _ => ?_ | refine stB (by assumption) rfl rfl fun _ _ => ?_)
      refine Must.mk (ltN_t hlt) ?_
      refine ldVec hs hV et (thr_get e2 e1) (j := 0) (by show 0 + i * 3 + 0 = _; omega) (by omega) rfl ?_
      rw [ep]
      repeat (first | refine run ?_ | refine Cd.t rfl ?_ | refine Cd.f rfl ?_ | refine Cd.t (by decide +kernel) ?_ | refine Cd.f (by decide +kernel) ?_ | refine Sc.mk rfl ?_ | refine ld (by assumption) rfl ?_ | refine nw (by assumption) fun _ _ _ => ?_ | refine stB (by assumption) rfl rfl fun _ _ => ?_)
      have e : leZ (Int.ofNat l.length) (Int.ofNat a) = decide (l.length ≤ a) := by
        by_cases h : l.length ≤ a
        · rw [leZ_t h, decide_eq_true h]
        · rw [leZ_f (by omega), decide_eq_false h]
      rw [e]
      exact k
    · refine Cd.t (leZ_t (by omega)) ?_
      rw [show idleB prs ths (.ofNat i) = true by simp only [idleB, List.getElem?_eq_none (Nat.le_of_not_lt hlt)]] at k
      exact k

theorem set_get_self {α : Type} {l : List α} {i : Nat} {x : α} (h : l[i]? = some x) : l.set i x = l := by
  obtain ⟨hi, rfl⟩ := List.getElem?_eq_some_iff.1 h
  exact List.set_getElem_self hi

theorem stepPick_idle (hc : Con con lives) {L R : List HP} {H : CH} {r m steps T : Nat} {t : Int} {tv : Value} {pv vws : List Value} {prs : List (List Value)} {ths : List (Nat × Bool)} {K : KP} (hs : Sat L H) (hp : Pull L (RunAt r m tv pv prs ths vws steps T) R)
    (hi : idleB prs ths t = true) (hst : steps < 300000000) (k : ∀ H1, Sat (RunAt r m tv pv prs ths vws (steps + 1) T :: R) H1 → K (.bool false) H1) : Call1 Try.prog con 100 [ptr r 0, i64 t] H K := by
  refine call_of (hc _ _ _ rfl) ?_
  rw [stepPick_W]
  obtain ⟨h1, h2, s1, s2, d, ⟨ev, av, evs, ats, ⟨b1, b2, b3, b4, b5⟩, hin⟩, hR⟩ := hs.opens hp
  have hs1 := Sat.merge s1 s2 d hin hR
  simp only [List.cons_append, List.nil_append] at hs1
  refine ld hs1 (run66 b3) (ld hs1 (run66 b3) (AsInt.mk ?_))
  rw [addInt]
  refine inR_nat (by omega) ?_
  refine st hs1 (by rw [runC_len b3]; omega) rfl fun H4 h4 => ?_
  rw [set66 b3] at h4
  refine stepIdle_ok hc h4 (Has.skip Has.vec) (Has.skip (Has.skip (Has.skip (Has.skip Has.sat)))) b4 b5 ?_
  rw [hi]
  refine AsBool.mk (Cd.t rfl (k _ ?_))
  exact Sat.close (L1 := [_, _, _, _, _]) (h4.ent (by repeat (first | exact Ent.refl _ | exact Ent.none | apply Ent.cons (by repeat (first | exact Pull.here | apply Pull.there)) | refine Ent.drop ?_))) fun g a => ⟨ev, av, evs, ats, ⟨by omega, b2, b3, b4, b5⟩, a⟩

/-- A thread takes a step. -/
theorem stepPick_ok (hc : Con con lives) {L R0 R R' : List HP} {H : CH} {r m steps T i a q : Nat} {o b : Bool} {tv v : Value} {pv vws l : List Value} {prs : List (List Value)} {ths : List (Nat × Bool)} {M M' : Mem} {K : KP} (hs : Sat L H) (hp : Pull L (RunAt r m tv pv prs ths vws steps T) R0) (hm : Pull R0 (MemP m M) R)
    (e1 : ths[i]? = some (a, o)) (e3 : prs[i]? = some l) (e4 : l[a]? = some v) (e5 : vws[i]? = some (ptr q 0)) (hifc : ∃ t x, v = .iface t x) (hT : T ≤ M.tr.length) (hM : M.tr.length ≤ M'.tr.length) (hM' : M'.tr.length ≤ 1000000000) (hst : steps < 300000000) (ha : a < 1000000000)
    (hmeth : ∀ Q : Prop, Q → MethOk Try.prog "Step" [v] Q)
    (hstep : ∀ (F : HP) (H1 : CH) (K' : KP), Sat (F :: MemP m M :: R) H1 → (∀ H2, Sat (F :: MemP m M' :: R') H2 → K' (.bool b) H2) → Mth Try.prog con v "Step" [ptr q 0] H1 K')
    (k : ∀ H1, Sat (RunAt r m tv pv prs (ths.set i (if b then (a + 1, false) else (a, true))) vws (steps + 1) M'.tr.length :: MemP m M' :: R') H1 → K (.bool true) H1) : Call1 Try.prog con 100 [ptr r 0, i64 (Int.ofNat i)] H K := by
  refine call_of (hc _ _ _ rfl) ?_
  rw [stepPick_W]
  have hs0 := hs.takes (.cons hp (.cons hm .nil))
  simp only [List.cons_append, List.nil_append] at hs0
  obtain ⟨h1, h2, s1, s2, d, ⟨ev, av, evs, ats, ⟨b1, b2, b3, b4, b5⟩, hin⟩, hR⟩ := hs0.opens Pull.here
  have hs1 := Sat.merge s1 s2 d hin hR
  simp only [List.cons_append, List.nil_append] at hs1
  have hi : i < ths.length := (List.getElem?_eq_some_iff.1 e1).1
  have hal : a < l.length := (List.getElem?_eq_some_iff.1 e4).1
  have hi64 : i < 64 := by have := (List.getElem?_eq_some_iff.1 e5).1; omega
  have hl := rows_len pv ths b4
  have hl2 : ∀ x, (thrRows pv (ths.set i x)).length = ths.length := fun x => by rw [rows_len pv _ (by rw [List.length_set]; exact b4), List.length_set]
  have e1' : ∀ x, (ths.set i x)[i]? = some x := fun x => by rw [List.getElem?_set_self hi]
  obtain ⟨p, e2⟩ : ∃ x, pv[i]? = some x := ⟨_, List.getElem?_eq_getElem (by omega)⟩
  obtain ⟨tb, et, _⟩ := (hs1.has (Has.skip Has.vec)).slot (thr_get e2 e1)
  rw [hl] at et
  subst et
  obtain ⟨pb, ep, _⟩ := (hs1.has ((Has.skip (Has.skip (Has.skip (Has.skip Has.sat)))).all (procs_get e2 e3) fun a s => a.mono s)).slot (show (l.map fun x => [x])[a]? = some [v] by rw [List.getElem?_map, e4]; rfl)
  rw [List.length_map] at ep
  subst ep
  have hid : idleB prs ths (.ofNat i) = false := by simp only [idleB, e1, e3]; exact decide_eq_false (by omega)
  have hSt : ∀ x : Nat × Bool, (thrRows pv ths).set i [slc pb 0 l.length l.length, iN x.1, .bool x.2] = thrRows pv (ths.set i x) := fun x => thr_set e2
  have hSt2 : ∀ x y : Nat × Bool, (thrRows pv (ths.set i y)).set i [slc pb 0 l.length l.length, iN x.1, .bool x.2] = thrRows pv (ths.set i x) := fun x y => by rw [thr_set e2, List.set_set]
  refine ld hs1 (run66 b3) (ld hs1 (run66 b3) (AsInt.mk ?_))
  rw [addInt]
  refine inR_nat (by omega) ?_
  refine st hs1 (by rw [runC_len b3]; omega) rfl fun H4 h4 => ?_
  rw [set66 b3] at h4
  refine stepIdle_ok hc h4 (Has.skip Has.vec) (Has.skip (Has.skip (Has.skip (Has.skip Has.sat)))) b4 b5 ?_
  rw [hid]
  refine AsBool.mk (Cd.f rfl (ld h4 rfl (AsSlc.mk (AsCnt.mk (Must.mk (ltN_t hi) ?_)))))
  refine ldVec h4 (Has.skip Has.vec) rfl (thr_get e2 e1) (j := 2) (by show 0 + i * 3 + 2 = _; omega) (by omega) rfl (AsBool.mk ?_)
  cases o with
  | false =>
    refine Cd.t rfl ?_
    refine stVec h4 (by repeat (first | exact Pull.here | apply Pull.there)) (thr_get e2 e1) (j := 2) (by show 0 + i * 3 + 2 = _; omega) (by omega) rfl fun H5 h5 => ?_
    have h5 := hSt (a, true) ▸ h5
    refine ld h5 (run67 b3) ?_
    refine ldVec h5 Has.vec rfl (thr_get e2 (e1' _)) (j := 1) (by show 0 + i * 3 + 1 = _; omega) (by omega) rfl (Sc.mk rfl (Sc.mk rfl ?_))
    refine nw h5 fun eb H6 h6 => ?_
    refine app_vec (new := [[iN steps, i64 (Int.ofNat i), iN a, .bool false]]) h6 (by repeat (first | exact Pull.here | apply Pull.there)) el_ev (by omega) sl_ev (Src.cell (n := 4) (by rfl)) rfl (by simp) (by simp; omega) rfl fun ev' H7 h7 => ?_
    obtain ⟨pe, ee⟩ := (h7.has Has.vec).shape
    refine Sc.mk (by rw [ee]; rfl) (st h7 (by rw [runC_len b3]; omega) (by rw [ee]; rfl) fun H8 h8 => ?_)
    rw [set67 b3] at h8
    obtain ⟨pe0, ee0⟩ := (h5.has (Has.skip (Has.skip Has.vec))).shape
    refine ld h5 (run67 b3) ?_
    rw [ee0]
    refine Same.slc ?_
    refine ld h6 (by rw [run67 b3, ee0]) ?_
    refine Same.slc ?_
    have hA : Sat (Own r (runC m (slc tb 0 ths.length ths.length) vws (steps + 1) ev' av) :: Vec (slc tb 0 ths.length ths.length) 172 3 (thrRows pv (ths.set i (a, true))) :: Vec ev' 242 4 (evs ++ [[iN steps, i64 (Int.ofNat i), iN a, .bool false]]) :: Vec av 3 1 ats :: SatL (procsL pv prs) :: MemP m M :: R) H8 := h8.ent (by repeat (first | exact Ent.refl _ | exact Ent.none | apply Ent.cons (by repeat (first | exact Pull.here | apply Pull.there)) | refine Ent.drop ?_))
    generalize hEv : (ev') = evX at hA
    generalize hEs : (evs ++ [[iN steps, i64 (Int.ofNat i), iN a, .bool false]]) = evsX at hA
    have hE : evsX.length ≤ 2 * steps + 1 := by (rw [← hEs]; first | omega | (simp only [List.length_append, List.length_cons, List.length_nil]; omega))
    clear hEv hEs
    refine ld hA rfl ?_
    refine memMade_ok hc hA (by repeat (first | exact Pull.here | apply Pull.there)) ?_
    refine ldVec hA (Has.skip Has.vec) rfl (thr_get e2 (e1' _)) (j := 0) (by show 0 + i * 3 + 0 = _; omega) (by omega) rfl ?_
    refine ldVec hA (Has.skip Has.vec) rfl (thr_get e2 (e1' _)) (j := 1) (by show 0 + i * 3 + 1 = _; omega) (by omega) rfl ?_
    refine AsSlc.mk (AsCnt.mk (Must.mk (ltN_t hal) ?_))
    refine ldVec hA ((Has.skip (Has.skip (Has.skip (Has.skip Has.sat)))).all (procs_get e2 e3) fun a s => a.mono s) rfl (row := [v]) (by rw [List.getElem?_map, e4]; rfl) (j := 0) (by show 0 + a * 1 = _; omega) (by omega) rfl ?_
    obtain ⟨tt, xx, rfl⟩ := hifc
    refine IsNil.ifc (Cd.f rfl (AsCnt.mk (Must.mk (ltN_t hi64) ?_)))
    refine ld hA (by rw [runV (by omega)]; exact e5) ?_
    refine hmeth _ ?_
    refine hstep _ _ _ (Sat.close (L1 := [_, _, _, _, _]) hA fun g a => a) fun H9 h9 => ?_
    obtain ⟨f1, f2, u1, u2, d2, hin2, hR2⟩ := h9.opens Pull.here
    have hB := Sat.merge u1 u2 d2 hin2 hR2
    simp only [List.cons_append, List.nil_append] at hB
    clear hin2 hR2 u1 u2 d2
    refine AsBool.mk ?_
    cases b with
    | true =>
      refine Cd.t rfl ?_
      obtain ⟨pe1, ee1⟩ := (hB.has (Has.skip (Has.skip Has.vec))).shape
      refine ld hB (run67 b3) ?_
      refine ldVec hB (Has.skip Has.vec) rfl (thr_get e2 (e1' _)) (j := 1) (by show 0 + i * 3 + 1 = _; omega) (by omega) rfl (Sc.mk rfl (Sc.mk rfl ?_))
      refine nw hB fun eb2 H10 h10 => ?_
      refine app_vec (new := [[iN steps, i64 (Int.ofNat i), iN a, .bool true]]) h10 (by repeat (first | exact Pull.here | apply Pull.there)) el_ev (by omega) sl_ev (Src.cell (n := 4) (by rfl)) rfl (by simp) (by simp; omega) rfl fun ev'' H11 h11 => ?_
      obtain ⟨pe2, ee2⟩ := (h11.has Has.vec).shape
      refine Sc.mk (by rw [ee2]; rfl) (st h11 (by rw [runC_len b3]; omega) (by rw [ee2]; rfl) fun H12 h12 => ?_)
      rw [set67 b3] at h12
      refine ld hB (run67 b3) ?_
      rw [ee1]
      refine Same.slc ?_
      refine ld h10 (by rw [run67 b3, ee1]) ?_
      refine Same.slc ?_
      refine stVec h12 (by repeat (first | exact Pull.here | apply Pull.there)) (thr_get e2 (e1' _)) (j := 2) (by show 0 + i * 3 + 2 = _; omega) (by omega) rfl fun H13 h13 => ?_
      have h13 := hSt2 (a, false) (a, true) ▸ h13
      refine ldVec h13 Has.vec rfl (thr_get e2 (e1' _)) (j := 1) (by show 0 + i * 3 + 1 = _; omega) (by omega) rfl (AsInt.mk ?_)
      rw [addInt]
      refine inR_nat (by omega) ?_
      refine stVec h13 Pull.here (thr_get e2 (e1' _)) (j := 1) (by show 0 + i * 3 + 1 = _; omega) (by omega) rfl fun H14 h14 => ?_
      have h14 := hSt2 (a + 1, false) (a, false) ▸ h14
      refine ld h14 rfl ?_
      refine memMade_ok hc h14 (by repeat (first | exact Pull.here | apply Pull.there)) ?_
      refine stepNote_ok hc h14 (by repeat (first | exact Pull.here | apply Pull.there)) (by repeat (first | exact Pull.here | apply Pull.there)) b3 (by omega) hM hM' fun av' ats' H15 hlen h15 => ?_
      refine k _ ?_
      exact Sat.close (L1 := [_, _, _, _, _]) (h15.ent (by repeat (first | exact Ent.refl _ | exact Ent.none | apply Ent.cons (by repeat (first | exact Pull.here | apply Pull.there)) | refine Ent.drop ?_))) fun g a => ⟨_, av', _, ats', ⟨by simp; omega, hlen, b3, by rw [List.length_set]; exact b4, by rw [List.length_set]; exact b5⟩, a⟩
    | false =>
      refine Cd.f rfl ?_
      refine ld hB rfl ?_
      refine memMade_ok hc hB (by repeat (first | exact Pull.here | apply Pull.there)) ?_
      refine stepNote_ok hc hB (by repeat (first | exact Pull.here | apply Pull.there)) (by repeat (first | exact Pull.here | apply Pull.there)) b3 (by omega) hM hM' fun av' ats' H15 hlen h15 => ?_
      refine k _ ?_
      exact Sat.close (L1 := [_, _, _, _, _]) (h15.ent (by repeat (first | exact Ent.refl _ | exact Ent.none | apply Ent.cons (by repeat (first | exact Pull.here | apply Pull.there)) | refine Ent.drop ?_))) fun g a => ⟨_, av', _, ats', ⟨by omega, hlen, b3, by rw [List.length_set]; exact b4, by rw [List.length_set]; exact b5⟩, a⟩
  | true =>
    refine Cd.f rfl ?_
    have hA : Sat (Own r (runC m (slc tb 0 ths.length ths.length) vws (steps + 1) ev av) :: Vec (slc tb 0 ths.length ths.length) 172 3 (thrRows pv (ths.set i (a, true))) :: Vec ev 242 4 evs :: Vec av 3 1 ats :: SatL (procsL pv prs) :: MemP m M :: R) H4 := by
      rw [set_get_self e1]; exact h4
    generalize hEv : (ev) = evX at hA
    generalize hEs : (evs) = evsX at hA
    have hE : evsX.length ≤ 2 * steps + 1 := by (rw [← hEs]; first | omega | (simp only [List.length_append, List.length_cons, List.length_nil]; omega))
    clear hEv hEs
    refine ld hA rfl ?_
    refine memMade_ok hc hA (by repeat (first | exact Pull.here | apply Pull.there)) ?_
    refine ldVec hA (Has.skip Has.vec) rfl (thr_get e2 (e1' _)) (j := 0) (by show 0 + i * 3 + 0 = _; omega) (by omega) rfl ?_
    refine ldVec hA (Has.skip Has.vec) rfl (thr_get e2 (e1' _)) (j := 1) (by show 0 + i * 3 + 1 = _; omega) (by omega) rfl ?_
    refine AsSlc.mk (AsCnt.mk (Must.mk (ltN_t hal) ?_))
    refine ldVec hA ((Has.skip (Has.skip (Has.skip (Has.skip Has.sat)))).all (procs_get e2 e3) fun a s => a.mono s) rfl (row := [v]) (by rw [List.getElem?_map, e4]; rfl) (j := 0) (by show 0 + a * 1 = _; omega) (by omega) rfl ?_
    obtain ⟨tt, xx, rfl⟩ := hifc
    refine IsNil.ifc (Cd.f rfl (AsCnt.mk (Must.mk (ltN_t hi64) ?_)))
    refine ld hA (by rw [runV (by omega)]; exact e5) ?_
    refine hmeth _ ?_
    refine hstep _ _ _ (Sat.close (L1 := [_, _, _, _, _]) hA fun g a => a) fun H9 h9 => ?_
    obtain ⟨f1, f2, u1, u2, d2, hin2, hR2⟩ := h9.opens Pull.here
    have hB := Sat.merge u1 u2 d2 hin2 hR2
    simp only [List.cons_append, List.nil_append] at hB
    clear hin2 hR2 u1 u2 d2
    refine AsBool.mk ?_
    cases b with
    | true =>
      refine Cd.t rfl ?_
      obtain ⟨pe1, ee1⟩ := (hB.has (Has.skip (Has.skip Has.vec))).shape
      refine ld hB (run67 b3) ?_
      refine ldVec hB (Has.skip Has.vec) rfl (thr_get e2 (e1' _)) (j := 1) (by show 0 + i * 3 + 1 = _; omega) (by omega) rfl (Sc.mk rfl (Sc.mk rfl ?_))
      refine nw hB fun eb2 H10 h10 => ?_
      refine app_vec (new := [[iN steps, i64 (Int.ofNat i), iN a, .bool true]]) h10 (by repeat (first | exact Pull.here | apply Pull.there)) el_ev (by omega) sl_ev (Src.cell (n := 4) (by rfl)) rfl (by simp) (by simp; omega) rfl fun ev'' H11 h11 => ?_
      obtain ⟨pe2, ee2⟩ := (h11.has Has.vec).shape
      refine Sc.mk (by rw [ee2]; rfl) (st h11 (by rw [runC_len b3]; omega) (by rw [ee2]; rfl) fun H12 h12 => ?_)
      rw [set67 b3] at h12
      refine ld hB (run67 b3) ?_
      rw [ee1]
      refine Same.slc ?_
      refine ld h10 (by rw [run67 b3, ee1]) ?_
      refine Same.slc ?_
      refine stVec h12 (by repeat (first | exact Pull.here | apply Pull.there)) (thr_get e2 (e1' _)) (j := 2) (by show 0 + i * 3 + 2 = _; omega) (by omega) rfl fun H13 h13 => ?_
      have h13 := hSt2 (a, false) (a, true) ▸ h13
      refine ldVec h13 Has.vec rfl (thr_get e2 (e1' _)) (j := 1) (by show 0 + i * 3 + 1 = _; omega) (by omega) rfl (AsInt.mk ?_)
      rw [addInt]
      refine inR_nat (by omega) ?_
      refine stVec h13 Pull.here (thr_get e2 (e1' _)) (j := 1) (by show 0 + i * 3 + 1 = _; omega) (by omega) rfl fun H14 h14 => ?_
      have h14 := hSt2 (a + 1, false) (a, false) ▸ h14
      refine ld h14 rfl ?_
      refine memMade_ok hc h14 (by repeat (first | exact Pull.here | apply Pull.there)) ?_
      refine stepNote_ok hc h14 (by repeat (first | exact Pull.here | apply Pull.there)) (by repeat (first | exact Pull.here | apply Pull.there)) b3 (by omega) hM hM' fun av' ats' H15 hlen h15 => ?_
      refine k _ ?_
      exact Sat.close (L1 := [_, _, _, _, _]) (h15.ent (by repeat (first | exact Ent.refl _ | exact Ent.none | apply Ent.cons (by repeat (first | exact Pull.here | apply Pull.there)) | refine Ent.drop ?_))) fun g a => ⟨_, av', _, ats', ⟨by simp; omega, hlen, b3, by rw [List.length_set]; exact b4, by rw [List.length_set]; exact b5⟩, a⟩
    | false =>
      refine Cd.f rfl ?_
      refine ld hB rfl ?_
      refine memMade_ok hc hB (by repeat (first | exact Pull.here | apply Pull.there)) ?_
      refine stepNote_ok hc hB (by repeat (first | exact Pull.here | apply Pull.there)) (by repeat (first | exact Pull.here | apply Pull.there)) b3 (by omega) hM hM' fun av' ats' H15 hlen h15 => ?_
      refine k _ ?_
      exact Sat.close (L1 := [_, _, _, _, _]) (h15.ent (by repeat (first | exact Ent.refl _ | exact Ent.none | apply Ent.cons (by repeat (first | exact Pull.here | apply Pull.there)) | refine Ent.drop ?_))) fun g a => ⟨_, av', _, ats', ⟨by omega, hlen, b3, by rw [List.length_set]; exact b4, by rw [List.length_set]; exact b5⟩, a⟩
end Go.Proofs.Ytipbbnoepphdkaa

set_option linter.unusedVariables false
set_option linter.unusedSimpArgs false
namespace Go.Proofs.Ytipbbnoepphdkaa
open Go Go.CM
attribute [local irreducible] AsBool AsWant AsNat AsInt AsCnt AsPtr AsSlc AsLen AsStr AsAgg AsTup AsFn AsIfc Nth Sc NotNil IsNil Must Cd codeW funW Sat SatL wrapN subM mkRow ltZ leZ ltN leN
variable {con : CallT}

def longB (prs : List (List Value)) : Bool := prs.any fun l => decide (4096 < l.length)

theorem containsP_ok (hc : Con con lives) {L : List HP} {H : CH} {v : Value} {lvs : List Value} {prs : List (List Value)} {K : KP} (hs : Sat L H) (hq : Has L (Vec v 73 1 (lvs.map fun x => [x]))) (hA : Has L (SatL (procsL lvs prs))) (hlen : lvs.length = prs.length) (hl : lvs.length ≤ 1000000000)
    (k : K (.bool (longB prs)) H) : Call1 Try.prog con 97 [v, .func (.func 98) ⟨[]⟩ ⟨[]⟩] H K := by
  refine call_of (hc _ _ _ rfl) ?_
  rw [containsP_W]
  refine call_of (hc _ _ _ rfl) ?_
  rw [indexP_W]
  obtain ⟨pv, ev⟩ := (hs.has hq).shape
  rw [List.length_map] at ev
  subst ev
  repeat (first | refine run ?_ | refine Cd.t rfl ?_ | refine Cd.f rfl ?_ | refine Cd.t (by decide +kernel) ?_ | refine Cd.f (by decide +kernel) ?_ | refine Sc.mk rfl ?_ | refine ld (by assumption) rfl ?_ | refine nw (by assumption) fun _ _ _ => ?_ | refine stB (by assumption) rfl rfl fun _ _ => ?_)
  refine LoopC.ind (n := 100) (by kernel_rfl) (fun (i : Nat) σ H1 => σ 0 = .slice pv lvs.length lvs.length ∧ σ 1 = .func (.func 98) ⟨[]⟩ ⟨[]⟩ ∧ σ 7 = iN lvs.length ∧ σ 8 = iN i ∧ i ≤ lvs.length ∧ (prs.take i).any (fun l => decide (4096 < l.length)) = false ∧ H1 = H) (fun i => lvs.length - i) (fun i σ H1 hI => ?_) 0 _ _ ⟨rfl, rfl, rfl, rfl, Nat.zero_le _, rfl, rfl⟩
  obtain ⟨e0, e1, e7, e8, hi, hno, rfl⟩ := hI
  rw [indexPL_W]
  simp only [e0, e1, e7, e8]
  repeat (first | refine run ?_ | refine Cd.t rfl ?_ | refine Cd.f rfl ?_ | refine Cd.t (by decide +kernel) ?_ | refine Cd.f (by decide +kernel) ?_ | refine Sc.mk rfl ?_ | refine ld (by assumption) rfl ?_ | refine nw (by assumption) fun _ _ _ => ?_ | refine stB (by assumption) rfl rfl fun _ _ => ?_)
  rcases Nat.lt_or_ge i lvs.length with hlt | hge
  · refine Cd.t (ltZ_t (by omega)) ?_
    obtain ⟨x, hx⟩ : ∃ x, lvs[i]? = some x := ⟨_, List.getElem?_eq_getElem hlt⟩
    obtain ⟨l, hl'⟩ : ∃ x, prs[i]? = some x := ⟨_, List.getElem?_eq_getElem (by omega)⟩
    have hr : (lvs.map fun x => [x])[i]? = some [x] := by rw [List.getElem?_map, hx]; rfl
    obtain ⟨b, eb, _⟩ := (hs.has hq).slot hr
    rw [List.length_map] at eb
    injection eb with eb _ _
    subst eb
    obtain ⟨px, ex⟩ := (hs.has (hA.all (procs_get hx hl') fun a s => a.mono s)).shape
    rw [List.length_map] at ex
    subst ex
    repeat (first | refine run ?_ | refine Cd.t rfl ?_ | refine Cd.f rfl ?_ | refine Cd.t (by decide +kernel) ?_ | refine Cd.f (by decide +kernel) ?_ | refine Sc.mk rfl ?_ | refine ld (by assumption) rfl ?_ | refine nw (by assumption) fun _ _ _ => ?_ | refine stB (by assumption) rfl rfl fun _ _ => ?_)
    refine Must.mk (ltN_t hlt) ?_
    refine ldVec hs hq rfl hr (j := 0) (by show 0 + i * 1 = _; omega) (by omega) rfl ?_
    repeat (first | refine run ?_ | refine Cd.t rfl ?_ | refine Cd.f rfl ?_ | refine Cd.t (by decide +kernel) ?_ | refine Cd.f (by decide +kernel) ?_ | refine Sc.mk rfl ?_ | refine ld (by assumption) rfl ?_ | refine nw (by assumption) fun _ _ _ => ?_ | refine stB (by assumption) rfl rfl fun _ _ => ?_)
    refine Must.mk (by kernel_rfl) ?_
    refine call_of (hc _ _ _ rfl) ?_
    show funW Try.prog con 98 [.slice px l.length l.length] _ _
    rw [stepNewC_W]
    repeat (first | refine run ?_ | refine Cd.t rfl ?_ | refine Cd.f rfl ?_ | refine Cd.t (by decide +kernel) ?_ | refine Cd.f (by decide +kernel) ?_ | refine Sc.mk rfl ?_ | refine ld (by assumption) rfl ?_ | refine nw (by assumption) fun _ _ _ => ?_ | refine stB (by assumption) rfl rfl fun _ _ => ?_)
    refine Cd.of (fun hy => ?_) (fun hn => ?_)
    · show AsInt _ _ _
      refine AsInt.mk ?_
      have : longB prs = true := by exact List.any_eq_true.2 ⟨l, List.mem_of_getElem? hl', decide_eq_true (ltZ_e hy)⟩
      rw [this] at k
      show K (.bool (leZ (Int.ofNat 0) (Int.ofNat i))) _
      rw [leZ_t (Nat.zero_le i)]
      exact k
    · repeat (first | refine run ?_ | refine Cd.t rfl ?_ | refine Cd.f rfl ?_ | refine Cd.t (by decide +kernel) ?_ | refine Cd.f (by decide +kernel) ?_ | refine Sc.mk rfl ?_ | refine ld (by assumption) rfl ?_ | refine nw (by assumption) fun _ _ _ => ?_ | refine stB (by assumption) rfl rfl fun _ _ => ?_)
      refine inR_nat (n := i + 1) (by omega) ?_
      show ∃ y, _ ∧ _
      refine ⟨i + 1, by omega, e0, e1, e7, rfl, hlt, ?_, rfl⟩
      rw [List.take_add_one, hl', List.any_append, hno]
      simp
      have := ltZ_n hn
      omega
  · refine Cd.f (ltZ_f (by omega)) ?_
    show Cd _ _ _
    refine Cd.t (eqN_self 0) ?_
    refine AsInt.mk ?_
    rw [List.take_of_length_le (by omega)] at hno
    have : longB prs = false := hno
    rw [this] at k
    rw [show leZ (Int.ofNat 0) (Int.negSucc 0) = false by decide +kernel]
    exact k

theorem cloneP_ok (hc : Con con lives) {L : List HP} {H : CH} {v : Value} {e : Nat} {l : List (List Value)} {K : KP} (hs : Sat L H) (hq : Has L (Vec v e 1 l)) (hl : l.length ≤ 1000000000) (hcell : l.flatten.all isCell = true) (k : ∀ v' H1, Sat (Vec v' 76 1 l :: L) H1 → K v' H1) : Call1 Try.prog con 99 [v] H K := by
  refine call_of (hc _ _ _ rfl) ?_
  rw [cloneP_W]
  rcases (hs.has hq) with ⟨h8, ⟨rfl, rfl⟩ | ⟨b, h1, rfl, h3⟩⟩
  · repeat (first | refine run ?_ | refine Cd.t rfl ?_ | refine Cd.f rfl ?_ | refine Cd.t (by decide +kernel) ?_ | refine Cd.f (by decide +kernel) ?_ | refine Sc.mk rfl ?_ | refine ld (by assumption) rfl ?_ | refine nw (by assumption) fun _ _ _ => ?_ | refine stB (by assumption) rfl rfl fun _ _ => ?_)
    exact k _ _ (hs.nilV)
  · refine IsNil.slc (Cd.f rfl ?_)
    refine nwR hs fun p H1 h1 => ?_
    have hpos : 0 < l.length := by cases l with | nil => contradiction | cons _ _ => simp
    exact app_clone (new := l) h1 el_pr (by omega) sl_pr (hq.vecSrc rfl) rfl h8 hl hpos k

/-- Views, each with how many accesses it has made. -/
def viewsL (m : Nat) : Nat → List (Nat × Nat) → List HP
  | _, [] => []
  | i, (q, n) :: r => ViewAt q m (Int.ofNat i) n :: viewsL m (i + 1) r
theorem viewsL_get {m : Nat} : ∀ {i0 j : Nat} {qs : List (Nat × Nat)} {q n : Nat}, qs[j]? = some (q, n) → (viewsL m i0 qs)[j]? = some (ViewAt q m (Int.ofNat (i0 + j)) n)
  | i0, j, [], q, n, h => by simp at h
  | i0, 0, x :: r, q, n, h => by simp at h; subst h; rfl
  | i0, j + 1, x :: r, q, n, h => by
    show (viewsL m (i0 + 1) r)[j]? = _
    rw [viewsL_get (by simpa using h), show i0 + 1 + j = i0 + (j + 1) by omega]
theorem viewsL_set {m : Nat} : ∀ {i0 j : Nat} {qs : List (Nat × Nat)} {q n : Nat}, (viewsL m i0 qs).set j (ViewAt q m (Int.ofNat (i0 + j)) n) = viewsL m i0 (qs.set j (q, n))
  | i0, j, [], q, n => rfl
  | i0, 0, x :: r, q, n => rfl
  | i0, j + 1, x :: r, q, n => by
    show ViewAt _ _ _ _ :: (viewsL m (i0 + 1) r).set j _ = ViewAt _ _ _ _ :: viewsL m (i0 + 1) (r.set j (q, n))
    rw [show i0 + (j + 1) = i0 + 1 + j by omega, viewsL_set]
theorem viewsL_len {m : Nat} : ∀ {i0 : Nat} {qs : List (Nat × Nat)}, (viewsL m i0 qs).length = qs.length
  | i0, [] => rfl
  | i0, x :: r => by show (viewsL m (i0 + 1) r).length + 1 = r.length + 1; rw [viewsL_len]
theorem viewsL_app {m : Nat} : ∀ {i0 : Nat} {qs : List (Nat × Nat)} {q n : Nat}, viewsL m i0 (qs ++ [(q, n)]) = viewsL m i0 qs ++ [ViewAt q m (Int.ofNat (i0 + qs.length)) n]
  | i0, [], q, n => rfl
  | i0, x :: r, q, n => by
    show _ :: viewsL m (i0 + 1) (r ++ [(q, n)]) = _ :: (viewsL m (i0 + 1) r ++ _)
    rw [viewsL_app, show i0 + 1 + r.length = i0 + (r.length + 1) by omega]; rfl

def vwsOf (qs : List Nat) : List Value := qs.map (fun q => ptr q 0) ++ List.replicate (64 - qs.length) (.pointer none)
theorem vwsOf_len {qs : List Nat} (h : qs.length ≤ 64) : (vwsOf qs).length = 64 := by simp [vwsOf]; omega
theorem vwsOf_snoc {qs : List Nat} {q : Nat} (h : qs.length < 64) : (vwsOf qs).set qs.length (ptr q 0) = vwsOf (qs ++ [q]) := by
  unfold vwsOf
  rw [List.set_append_right _ _ (by simp), List.length_map, Nat.sub_self, List.map_append, List.length_append]
  obtain ⟨k, hk⟩ : ∃ k, 64 - qs.length = k + 1 := ⟨63 - qs.length, by omega⟩
  rw [hk, show 64 - (qs.length + [q].length) = k by simp; omega, List.replicate_succ, List.set_cons_zero]
  simp
theorem vwsOf_get {qs : List Nat} {i q : Nat} (h : qs[i]? = some q) : (vwsOf qs)[i]? = some (ptr q 0) := by
  unfold vwsOf
  have := (List.getElem?_eq_some_iff.1 h).1
  rw [List.getElem?_append_left (by simpa using this), List.getElem?_map, h]; rfl
theorem procsL_snoc {pv : List Value} {prs : List (List Value)} {p : Value} {l : List Value} (h : pv.length = prs.length) : procsL (pv ++ [p]) (prs ++ [l]) = procsL pv prs ++ [Vec p 76 1 (l.map fun x => [x])] := by
  unfold procsL; rw [List.zipWith_append h]; rfl
theorem thrRows_snoc {pv : List Value} {ths : List (Nat × Bool)} {p : Value} {t : Nat × Bool} (h : pv.length = ths.length) : thrRows (pv ++ [p]) (ths ++ [t]) = thrRows pv ths ++ [[p, iN t.1, .bool t.2]] := by
  unfold thrRows; rw [List.zipWith_append h]; rfl
theorem flat1v (l : List Value) : (l.map fun x => [x]).flatten = l := by
  induction l with
  | nil => rfl
  | cons a l ih => rw [List.map_cons, List.flatten_cons, ih]; rfl

theorem stepNew_ok (hc : Con con lives) {L : List HP} {H : CH} {m : Nat} {v : Value} {lvs : List Value} {prs : List (List Value)} {K : KP} (hs : Sat L H) (hq : Has L (Vec v 73 1 (lvs.map fun x => [x]))) (hA : Has L (SatL (procsL lvs prs))) (hlen : lvs.length = prs.length) (hl : lvs.length ≤ 1000000000)
    (hcell : ∀ l ∈ prs, l.all isCell = true)
    (kbad : 64 < prs.length ∨ longB prs = true → K (.tuple ⟨[.pointer none, iN 6]⟩) H)
    (k : prs.length ≤ 64 → longB prs = false → ∀ r tv pv qs H1, qs.length = prs.length → Sat (RunAt r m tv pv prs (List.replicate prs.length (0, false)) (vwsOf qs) 0 0 :: SatL (viewsL m 0 (qs.map fun q => (q, 0))) :: L) H1 → K (.tuple ⟨[ptr r 0, iN 0]⟩) H1) :
    Call1 Try.prog con 36 [ptr m 0, v] H K := by
  refine call_of (hc _ _ _ rfl) ?_
  rw [stepNew_W]
  obtain ⟨pv0, ev⟩ := (hs.has hq).shape
  rw [List.length_map] at ev
  subst ev
  repeat (first | refine run ?_ | refine Cd.t rfl ?_ | refine Cd.f rfl ?_ | refine Cd.t (by decide +kernel) ?_ | refine Cd.f (by decide +kernel) ?_ | refine Sc.mk rfl ?_ | refine ld (by assumption) rfl ?_ | refine nw (by assumption) fun _ _ _ => ?_ | refine stB (by assumption) rfl rfl fun _ _ => ?_)
  refine Cd.of (fun h => ?_) (fun h => ?_)
  · exact kbad (.inl (by have := ltZ_e h; omega))
  have h64 : prs.length ≤ 64 := by have := ltZ_n h; omega
  refine containsP_ok hc hs hq hA hlen hl ?_
  repeat (first | refine run ?_ | refine Cd.t rfl ?_ | refine Cd.f rfl ?_ | refine Cd.t (by decide +kernel) ?_ | refine Cd.f (by decide +kernel) ?_ | refine Sc.mk rfl ?_ | refine ld (by assumption) rfl ?_ | refine nw (by assumption) fun _ _ _ => ?_ | refine stB (by assumption) rfl rfl fun _ _ => ?_)
  cases hlong : longB prs with
  | true => exact Cd.t rfl (kbad (.inr hlong))
  | false =>
    refine Cd.f rfl ?_
    refine nw hs fun r H1 h1 => ?_
    repeat (first | refine run ?_ | refine Cd.t rfl ?_ | refine Cd.f rfl ?_ | refine Cd.t (by decide +kernel) ?_ | refine Cd.f (by decide +kernel) ?_ | refine Sc.mk rfl ?_ | refine ld (by assumption) rfl ?_ | refine nw (by assumption) fun _ _ _ => ?_ | refine stB (by assumption) rfl rfl fun _ _ => ?_)
    refine LoopC.indP (n := 100) (id := 0) (fun σ H => ∃ tv pv qs, σ 6 = ptr r 0 ∧ pv.length = prs.length ∧ qs.length = prs.length ∧ Sat (Own r (runC m tv (vwsOf qs) 0 snil snil) :: Vec tv 172 3 (thrRows pv (List.replicate prs.length (0, false))) :: SatL (procsL pv prs) :: SatL (viewsL m 0 (qs.map fun q => (q, 0))) :: L) H) (by kernel_rfl)
      (fun (i : Nat) σ H => σ 0 = ptr m 0 ∧ σ 6 = ptr r 0 ∧ σ 21 = .slice pv0 lvs.length lvs.length ∧ σ 22 = iN lvs.length ∧ σ 23 = iN i ∧ i ≤ prs.length ∧ ∃ tv pv qs, pv.length = i ∧ qs.length = i ∧
        Sat (Own r (runC m tv (vwsOf qs) 0 snil snil) :: Vec tv 172 3 (thrRows pv (List.replicate i (0, false))) :: SatL (procsL pv (prs.take i)) :: SatL (viewsL m 0 (qs.map fun q => (q, 0))) :: L) H) (fun i => prs.length - i) (fun i σ H hI => ?_) (fun σ H hP => ?_) 0 _ _
      ⟨rfl, rfl, rfl, rfl, rfl, Nat.zero_le _, snil, [], [], rfl, rfl, ?_⟩
    · obtain ⟨e0, e6, e21, e22, e23, hi, tv, pv, qs, hpv, hqs, hs1⟩ := hI
      rw [stepNewL_W]
      simp only [e0, e6, e21, e22, e23]
      repeat (first | refine run ?_ | refine Cd.t rfl ?_ | refine Cd.f rfl ?_ | refine Cd.t (by decide +kernel) ?_ | refine Cd.f (by decide +kernel) ?_ | refine Sc.mk rfl ?_ | refine ld (by assumption) rfl ?_ | refine nw (by assumption) fun _ _ _ => ?_ | refine stB (by assumption) rfl rfl fun _ _ => ?_)
      by_cases hlt : i < prs.length
      · refine Cd.t (ltZ_t (by omega)) ?_
        have hqL : Has (Own r (runC m tv (vwsOf qs) 0 snil snil) :: Vec tv 172 3 (thrRows pv (List.replicate i (0, false))) :: SatL (procsL pv (prs.take i)) :: SatL (viewsL m 0 (qs.map fun q => (q, 0))) :: L) (Vec (.slice pv0 lvs.length lvs.length) 73 1 (lvs.map fun x => [x])) := Has.skip (Has.skip (Has.skip (Has.skip hq)))
        obtain ⟨x, hx⟩ : ∃ x, lvs[i]? = some x := ⟨_, List.getElem?_eq_getElem (by omega)⟩
        obtain ⟨l, hl'⟩ : ∃ x, prs[i]? = some x := ⟨_, List.getElem?_eq_getElem hlt⟩
        have hr : (lvs.map fun x => [x])[i]? = some [x] := by rw [List.getElem?_map, hx]; rfl
        obtain ⟨b, eb, _⟩ := (hs1.has hqL).slot hr
        rw [List.length_map] at eb
        injection eb with eb _ _
        subst eb
        have hv64 : (vwsOf qs).length = 64 := vwsOf_len (by omega)
        repeat (first | refine run ?_ | refine Cd.t rfl ?_ | refine Cd.f rfl ?_ | refine Cd.t (by decide +kernel) ?_ | refine Cd.f (by decide +kernel) ?_ | refine Sc.mk rfl ?_ | refine ld (by assumption) rfl ?_ | refine nw (by assumption) fun _ _ _ => ?_ | refine stB (by assumption) rfl rfl fun _ _ => ?_)
        refine Must.mk (ltN_t (by omega)) ?_
        refine ldVec hs1 hqL rfl hr (j := 0) (by show 0 + i * 1 = _; omega) (by omega) rfl ?_
        refine NotNil.ptr (AsPtr.mk (ld hs1 rfl ?_))
        have hll : l.length ≤ 4096 := by
          have h1 : ¬ (4096 < l.length) := fun h => by
            have : longB prs = true := List.any_eq_true.2 ⟨l, List.mem_of_getElem? hl', decide_eq_true h⟩
            rw [hlong] at this; cases this
          omega
        refine cloneP_ok hc hs1 (Has.skip (Has.skip (Has.skip (Has.skip (hA.all (procs_get hx hl') fun a s => a.mono s))))) (by simp; omega) (by rw [flat1v]; exact hcell l (List.mem_of_getElem? hl')) fun v' H2 h2 => ?_
        obtain ⟨pv', ev'⟩ := (h2.has Has.vec).shape
        rw [List.length_map] at ev'
        refine Sc.mk (by rw [ev']; rfl) ?_
        refine nw h2 fun pb H3 h3 => ?_
        have hth : (thrRows pv (List.replicate i (0, false))).length = i := by rw [rows_len _ _ (by simp [hpv]), List.length_replicate]
        refine app_vec (new := [[v', iN 0, .bool false]]) h3 (by repeat (first | exact Pull.here | apply Pull.there)) el_thr (by omega) sl_thr (Src.cell (n := 3) (by rfl)) rfl (by simp) (by rw [hth]; omega) (by rw [ev']; rfl) fun tv' H4 h4 => ?_
        obtain ⟨pt, et⟩ := (h4.has Has.vec).shape
        refine NotNil.ptr (AsPtr.mk (Sc.mk (by rw [et]; rfl) (stB h4 rfl (by rw [et]; rfl) fun H5 h5 => ?_)))
        obtain ⟨pt0, et0⟩ := (hs1.has (Has.skip Has.vec)).shape
        refine ld hs1 rfl ?_
        rw [et0]
        refine Same.slc ?_
        refine ld h2 (by rw [et0]; rfl) ?_
        refine Same.slc ?_
        refine ld h3 (by rw [et0]; rfl) ?_
        refine Same.slc ?_
        refine memView_ok hc h5 fun q H6 h6 => ?_
        refine NotNil.ptr (AsPtr.mk (AsCnt.mk (Must.mk (ltN_t (by omega)) ?_)))
        have h6 : Sat (ViewAt q m (Int.ofNat i) 0 :: Vec tv' 172 3 (thrRows pv (List.replicate i (0, false)) ++ [[v', iN 0, .bool false]]) :: Own r (runC m tv' (vwsOf qs) 0 snil snil) :: Vec v' 76 1 (l.map fun x => [x]) :: SatL (procsL pv (prs.take i)) :: SatL (viewsL m 0 (qs.map fun q => (q, 0))) :: L) H6 := h6.ent (by repeat (first | exact Ent.refl _ | exact Ent.none | apply Ent.cons (by repeat (first | exact Pull.here | apply Pull.there)) | refine Ent.drop ?_))
        refine Sc.mk rfl (st h6 (by rw [runC_len hv64]; show 2 + i * 1 < 69; omega) rfl fun H7 h7 => ?_)
        rw [show (Nat.add (Nat.add 0 2) (Nat.mul i 1)) = Nat.add 2 (Nat.mul i 1) from rfl, setV (by omega), show (vwsOf qs).set i (ptr q 0) = vwsOf (qs ++ [q]) by rw [← hqs]; exact vwsOf_snoc (by omega)] at h7
        repeat (first | refine run ?_ | refine Cd.t rfl ?_ | refine Cd.f rfl ?_ | refine Cd.t (by decide +kernel) ?_ | refine Cd.f (by decide +kernel) ?_ | refine Sc.mk rfl ?_ | refine ld (by assumption) rfl ?_ | refine nw (by assumption) fun _ _ _ => ?_ | refine stB (by assumption) rfl rfl fun _ _ => ?_)
        rw [addInt]
        refine inR_nat (n := i + 1) (by omega) ?_
        show ∃ y, _ ∧ _
        refine ⟨i + 1, by omega, e0, e6, e21, e22, rfl, hlt, tv', pv ++ [v'], qs ++ [q], by simp [hpv], by simp [hqs], ?_⟩
        have hv' : thrRows pv (List.replicate i (0, false)) ++ [[v', iN 0, .bool false]] = thrRows (pv ++ [v']) (List.replicate (i + 1) (0, false)) := by
          rw [List.replicate_succ', thrRows_snoc (by simp [hpv])]
        have hp' : procsL pv (prs.take i) ++ [Vec v' 76 1 (l.map fun x => [x])] = procsL (pv ++ [v']) (prs.take (i + 1)) := by
          rw [List.take_add_one, hl']
          show _ = procsL (pv ++ [v']) (prs.take i ++ [l])
          rw [procsL_snoc (by simp [hpv]; omega)]
        have hw' : viewsL m 0 (qs.map fun q => (q, 0)) ++ [ViewAt q m (Int.ofNat i) 0] = viewsL m 0 ((qs ++ [q]).map fun q => (q, 0)) := by
          rw [List.map_append, List.map_singleton, viewsL_app, List.length_map, Nat.zero_add, hqs]
        rw [hv'] at h7
        have h8 : Sat (ViewAt q m (Int.ofNat i) 0 :: SatL (viewsL m 0 (qs.map fun q => (q, 0))) :: Vec v' 76 1 (l.map fun x => [x]) :: SatL (procsL pv (prs.take i)) :: Vec tv' 172 3 (thrRows (pv ++ [v']) (List.replicate (i + 1) (0, false))) :: Own r (runC m tv' (vwsOf (qs ++ [q])) 0 snil snil) :: L) H7 := h7.ent (by repeat (first | exact Ent.refl _ | exact Ent.none | apply Ent.cons (by repeat (first | exact Pull.here | apply Pull.there)) | refine Ent.drop ?_))
        have h9 := h8.snoc
        rw [hw'] at h9
        have h10 : Sat (Vec v' 76 1 (l.map fun x => [x]) :: SatL (procsL pv (prs.take i)) :: SatL (viewsL m 0 ((qs ++ [q]).map fun q => (q, 0))) :: Vec tv' 172 3 (thrRows (pv ++ [v']) (List.replicate (i + 1) (0, false))) :: Own r (runC m tv' (vwsOf (qs ++ [q])) 0 snil snil) :: L) H7 := h9.ent (by repeat (first | exact Ent.refl _ | exact Ent.none | apply Ent.cons (by repeat (first | exact Pull.here | apply Pull.there)) | refine Ent.drop ?_))
        have h11 := h10.snoc
        rw [hp'] at h11
        exact h11.ent (by repeat (first | exact Ent.refl _ | exact Ent.none | apply Ent.cons (by repeat (first | exact Pull.here | apply Pull.there)) | refine Ent.drop ?_))
      · refine Cd.f (ltZ_f (by omega)) ?_
        show _ = _ ∧ _
        have : i = prs.length := by omega
        subst this
        rw [List.take_of_length_le (Nat.le_refl _)] at hs1
        exact ⟨rfl, tv, pv, qs, e6, hpv, hqs, hs1⟩
    · obtain ⟨tv, pv, qs, e6, hpv, hqs, hs1⟩ := hP
      show Cd _ _ _
      refine Cd.t (eqN_self 0) ?_
      rw [e6]
      refine k h64 hlong r tv pv qs _ hqs ?_
      have h2 : Sat (Vec snil 3 1 [] :: Vec snil 242 4 [] :: Own r (runC m tv (vwsOf qs) 0 snil snil) :: Vec tv 172 3 (thrRows pv (List.replicate prs.length (0, false))) :: SatL (procsL pv prs) :: SatL (viewsL m 0 (qs.map fun q => (q, 0))) :: L) H := hs1.nilV.nilV
      exact Sat.close (L1 := [Own r (runC m tv (vwsOf qs) 0 snil snil), Vec tv 172 3 (thrRows pv (List.replicate prs.length (0, false))), Vec snil 242 4 [], Vec snil 3 1 [], SatL (procsL pv prs)]) (h2.ent (by repeat (first | exact Ent.refl _ | exact Ent.none | apply Ent.cons (by repeat (first | exact Pull.here | apply Pull.there)) | refine Ent.drop ?_))) fun g a => ⟨snil, snil, [], [], ⟨Nat.zero_le _, Nat.zero_le _, vwsOf_len (by omega), by simp [hpv], by simp⟩, a⟩
    · exact (Sat.none (Sat.none (Sat.nilV (by assumption)))).ent (by repeat (first | exact Ent.refl _ | exact Ent.none | apply Ent.cons (by repeat (first | exact Pull.here | apply Pull.there)) | refine Ent.drop ?_))
end Go.Proofs.Ytipbbnoepphdkaa

set_option linter.unusedVariables false
set_option linter.unusedSimpArgs false
namespace Go.Proofs.Ytipbbnoepphdkaa
open Go Go.CM
attribute [local irreducible] AsBool AsWant AsNat AsInt AsCnt AsPtr AsSlc AsLen AsStr AsAgg AsTup AsFn AsIfc Nth Sc NotNil IsNil Must Cd codeW funW Sat SatL wrapN subM mkRow ltZ leZ ltN leN
variable {con : CallT}

/-! ### any of the procs -/
inductive PrS where
  | cas (s : CasS)
  | take (s : TakeS)
  | cut (s : CutS)
  | past (s : PastS)
def PrS.step (s : PrS) (M : Mem) (th : Int) : PrS × Mem :=
  match s with
  | .cas s => (.cas (s.step M th).1, (s.step M th).2)
  | .take s => (.take (s.step M th).1, (s.step M th).2)
  | .cut s => (.cut (s.step M th).1, (s.step M th).2)
  | .past s => (.past (s.step M th).1, (s.step M th).2)
def PrS.over (s : PrS) : Bool :=
  match s with
  | .cas s => eqN s.at_ 8
  | .take s => eqN s.at_ 2
  | .cut s => eqZ (Int.ofNat s.at_) (Int.ofNat 7)
  | .past s => eqN s.at_ 5
/-- Under way, and as it may be. -/
def PrS.Ok (s : PrS) : Prop :=
  match s with
  | .cas s => s.at_ < 8 ∧ (s.at_ = 1 ∨ s.at_ = 5 ∨ s.at_ = 7 → s.ini.at_ < 3)
  | .take s => s.at_ < 2
  | .cut s => s.at_ < 7 ∧ s.st.length ≤ 1000000000
  | .past s => s.at_ < 5 ∧ (s.at_ = 1 → s.ini.at_ < 3)
/-- A proc of the program's, behind an interface. -/
def PrcAt (v : Value) (s : PrS) : HP := fun h =>
  match s with
  | .cas s => ∃ p, v = .iface 157 (ptr p 0) ∧ CasAt p s h
  | .take s => ∃ p, v = .iface 159 (ptr p 0) ∧ TakeAt p s h
  | .cut s => ∃ p v', v = .iface 32 (ptr p 0) ∧ SatL [Own p (cutC s v'), Nums v' s.st] h
  | .past s => ∃ p, v = .iface 161 (ptr p 0) ∧ PastAt p s h
def IfcOk (v : Value) : Prop := ∃ t p, v = .iface t (ptr p 0) ∧ (t = 157 ∨ t = 159 ∨ t = 32 ∨ t = 161)
theorem PrcAt.ifc {v : Value} {s : PrS} {h : PH} (a : PrcAt v s h) : IfcOk v := by
  cases s with
  | cas s => obtain ⟨p, rfl, _⟩ := a; exact ⟨_, p, rfl, .inl rfl⟩
  | take s => obtain ⟨p, rfl, _⟩ := a; exact ⟨_, p, rfl, .inr (.inl rfl)⟩
  | cut s => obtain ⟨p, v', rfl, _⟩ := a; exact ⟨_, p, rfl, .inr (.inr (.inl rfl))⟩
  | past s => obtain ⟨p, rfl, _⟩ := a; exact ⟨_, p, rfl, .inr (.inr (.inr rfl))⟩
theorem CasAt.mono {p : Nat} {s : CasS} {g h : PH} (a : CasAt p s g) (t : Subh g h) : CasAt p s h := by
  obtain ⟨cam, obj, old, now, at_, x, n, ini⟩ := s
  match at_ with
  | 0 => obtain ⟨x0, x1, x2, x3, x4, x5, x6, a⟩ := a; exact ⟨x0, x1, x2, x3, x4, x5, x6, a.mono t⟩
  | 1 => obtain ⟨x0, x1, x2, x3, x4, x5, a⟩ := a; exact ⟨x0, x1, x2, x3, x4, x5, a.mono t⟩
  | 2 => obtain ⟨x0, x1, x2, x3, x4, x5, a⟩ := a; exact ⟨x0, x1, x2, x3, x4, x5, a.mono t⟩
  | 3 => obtain ⟨x0, x1, x2, x3, x4, x5, x6, a⟩ := a; exact ⟨x0, x1, x2, x3, x4, x5, x6, a.mono t⟩
  | 4 => obtain ⟨x0, x1, x2, x3, x4, x5, a⟩ := a; exact ⟨x0, x1, x2, x3, x4, x5, a.mono t⟩
  | 5 => obtain ⟨x0, x1, x2, x3, x4, x5, x6, x7, x8, a⟩ := a; exact ⟨x0, x1, x2, x3, x4, x5, x6, x7, x8, a.mono t⟩
  | 6 => obtain ⟨x0, x1, x2, x3, x4, x5, x6, x7, a⟩ := a; exact ⟨x0, x1, x2, x3, x4, x5, x6, x7, a.mono t⟩
  | 7 => obtain ⟨x0, x1, x2, x3, x4, x5, x6, x7, x8, a⟩ := a; exact ⟨x0, x1, x2, x3, x4, x5, x6, x7, x8, a.mono t⟩
  | k + 8 => trivial
theorem PastAt.mono {p : Nat} {s : PastS} {g h : PH} (a : PastAt p s g) (t : Subh g h) : PastAt p s h := by
  obtain ⟨cam, obj, stamp, at_, x, ini⟩ := s
  match at_ with
  | 0 => obtain ⟨x0, x1, x2, x3, a⟩ := a; exact ⟨x0, x1, x2, x3, a.mono t⟩
  | 1 => obtain ⟨x0, x1, x2, a⟩ := a; exact ⟨x0, x1, x2, a.mono t⟩
  | 2 => obtain ⟨x0, x1, x2, x3, a⟩ := a; exact ⟨x0, x1, x2, x3, a.mono t⟩
  | 3 => obtain ⟨x0, x1, x2, x3, a⟩ := a; exact ⟨x0, x1, x2, x3, a.mono t⟩
  | 4 => obtain ⟨x0, x1, x2, x3, a⟩ := a; exact ⟨x0, x1, x2, x3, a.mono t⟩
  | k + 5 => trivial
theorem prc_mono {v : Value} {s : PrS} {g h : PH} (a : PrcAt v s g) (t : Subh g h) : PrcAt v s h := by
  cases s with
  | cas s => obtain ⟨p, rfl, a⟩ := a; exact ⟨p, rfl, a.mono t⟩
  | take s => obtain ⟨p, rfl, x, y, z, a⟩ := a; exact ⟨p, rfl, x, y, z, a.mono t⟩
  | cut s => obtain ⟨p, v', rfl, a⟩ := a; exact ⟨p, v', rfl, a.mono t⟩
  | past s => obtain ⟨p, rfl, a⟩ := a; exact ⟨p, rfl, a.mono t⟩
theorem IfcOk.meth {v : Value} (h : IfcOk v) (Q : Prop) (q : Q) : MethOk Try.prog "Step" [v] Q := by
  obtain ⟨t, p, rfl, rfl | rfl | rfl | rfl⟩ := h
  · exact MethOk.mk' (q := (233, ptr p 0)) (by kernel_rfl) q
  · exact MethOk.mk' (q := (239, ptr p 0)) (by kernel_rfl) q
  · exact MethOk.mk' (q := (14, ptr p 0)) (by kernel_rfl) q
  · exact MethOk.mk' (q := (240, ptr p 0)) (by kernel_rfl) q
theorem IfcOk.cell {v : Value} (h : IfcOk v) : isCell v = true := by
  obtain ⟨t, p, rfl, _⟩ := h; rfl

theorem prcStep_ok (hc : Con con lives) (s : PrS) {L R1 R2 R3 : List HP} {H : CH} {v : Value} {q m n : Nat} {th : Int} {M : Mem} {K : KP} (hs : Sat L H) (hm : Pull L (MemP m M) R1) (hv : Pull R1 (ViewAt q m th n) R2) (hp : Pull R2 (PrcAt v s) R3)
    (hn : n < 1000000000) (ht : M.tr.length < 1000000000) (hok : s.Ok) (k : ∀ H1, Sat (PrcAt v (s.step M th).1 :: MemP m (s.step M th).2 :: ViewAt q m th (n + 1) :: R3) H1 → K (.bool (s.step M th).1.over) H1) :
    Mth Try.prog con v "Step" [ptr q 0] H K := by
  have hs0 := hs.takes (.cons hm (.cons hv (.cons hp .nil)))
  simp only [List.cons_append, List.nil_append] at hs0
  cases s with
  | cas s =>
    obtain ⟨h1, h2, s1, s2, d, ⟨p, rfl, hin⟩, hR⟩ := hs0.opens (.there (.there .here))
    have hs1 := Sat.merge (L1 := [CasAt p s]) s1 s2 d (SatL.one hin) hR
    simp only [List.cons_append, List.nil_append] at hs1
    refine Mth.of (f := 233) (rc := ptr p 0) (by kernel_rfl) (by kernel_rfl) ?_
    refine casStep_ok hc s hs1 (by repeat (first | exact Pull.here | apply Pull.there)) (by repeat (first | exact Pull.here | apply Pull.there)) (by repeat (first | exact Pull.here | apply Pull.there)) hn ht hok.1 fun H1 h1 => k _ ?_
    exact h1.imp fun g a => ⟨p, rfl, a⟩
  | take s =>
    obtain ⟨h1, h2, s1, s2, d, ⟨p, rfl, hin⟩, hR⟩ := hs0.opens (.there (.there .here))
    have hs1 := Sat.merge (L1 := [TakeAt p s]) s1 s2 d (SatL.one hin) hR
    simp only [List.cons_append, List.nil_append] at hs1
    refine Mth.of (f := 239) (rc := ptr p 0) (by kernel_rfl) (by kernel_rfl) ?_
    refine takeStep_ok hc s hs1 (by repeat (first | exact Pull.here | apply Pull.there)) (by repeat (first | exact Pull.here | apply Pull.there)) (by repeat (first | exact Pull.here | apply Pull.there)) hn ht hok fun H1 h1 => k _ ?_
    exact h1.imp fun g a => ⟨p, rfl, a⟩
  | cut s =>
    obtain ⟨h1, h2, s1, s2, d, ⟨p, v', rfl, hin⟩, hR⟩ := hs0.opens (.there (.there .here))
    have hs1 := Sat.merge s1 s2 d hin hR
    simp only [List.cons_append, List.nil_append] at hs1
    refine Mth.of (f := 14) (rc := ptr p 0) (by kernel_rfl) (by kernel_rfl) ?_
    refine cutStep_ok hc s hs1 (by repeat (first | exact Pull.here | apply Pull.there)) (by repeat (first | exact Pull.here | apply Pull.there)) (by repeat (first | exact Pull.here | apply Pull.there)) Has.nums hok.2 hn ht hok.1 fun H1 h1 => k _ ?_
    exact Sat.close (L1 := [Own p (cutC (s.step M th).1 v'), Nums v' s.st]) (h1.ent (by repeat (first | exact Ent.refl _ | exact Ent.none | apply Ent.cons (by repeat (first | exact Pull.here | apply Pull.there)) | refine Ent.drop ?_))) fun g a => ⟨p, v', rfl, by rw [step_st]; exact a⟩
  | past s =>
    obtain ⟨h1, h2, s1, s2, d, ⟨p, rfl, hin⟩, hR⟩ := hs0.opens (.there (.there .here))
    have hs1 := Sat.merge (L1 := [PastAt p s]) s1 s2 d (SatL.one hin) hR
    simp only [List.cons_append, List.nil_append] at hs1
    refine Mth.of (f := 240) (rc := ptr p 0) (by kernel_rfl) (by kernel_rfl) ?_
    refine atStep_ok hc s hs1 (by repeat (first | exact Pull.here | apply Pull.there)) (by repeat (first | exact Pull.here | apply Pull.there)) (by repeat (first | exact Pull.here | apply Pull.there)) hn ht hok.1 fun H1 h1 => k _ ?_
    exact h1.imp fun g a => ⟨p, rfl, a⟩

/-! ### calls -/
structure CallS where
  kind : Int
  obj : Nat
  a : Nat
  b : Nat
  fl : Nat
  st : List Nat
def CallS.o (c : CallS) : Nat := addM 2 (Nat.mod c.obj 2)
def CallS.fresh (c : CallS) : PrS :=
  if c.kind = Int.ofNat 0 then .cas ⟨1, c.o, c.a, c.b, 0, 0, 0, ⟨0, 0, 0, 0⟩⟩
  else if c.kind = Int.ofNat 1 then .take ⟨1, 1073741824, 0, 0⟩
  else if c.kind = Int.ofNat 2 then .cut ⟨c.o, c.fl, c.st, 0, 0, 0, 0, 0, 0, 0, 0, 0⟩
  else .past ⟨1, c.o, c.a, 0, 0, ⟨0, 0, 0, 0⟩⟩
theorem CallS.freshOk (c : CallS) (h : c.st.length ≤ 1000000000) : c.fresh.Ok := by
  unfold CallS.fresh
  split
  · exact ⟨by show 0 < 8; omega, fun h => by rcases h with h | h | h <;> cases h⟩
  · split
    · show 0 < 2; omega
    · split
      · exact ⟨by show 0 < 7; omega, h⟩
      · exact ⟨by show 0 < 5; omega, fun h => nomatch h⟩

theorem law15Begin_ok (hc : Con con lives) (c : CallS) {L : List HP} {H : CH} {xv : Value} {K : KP} (hs : Sat L H) (hq : Has L (Nums xv c.st)) (hl : c.st.length ≤ 1000000000) (k : ∀ v H1, Sat (PrcAt v c.fresh :: L) H1 → K v H1) :
    Call1 Try.prog con 35 [.agg ⟨[i64 c.kind, u64 c.obj, u64 c.a, u64 c.b, u64 c.fl, xv]⟩] H K := by
  refine call_of (hc _ _ _ rfl) ?_
  rw [law15Begin_W]
  refine nw hs fun p1 H1 h1 => ?_
  unfold CallS.fresh at k
  obtain ⟨px, cx, rfl⟩ := (hs.has hq).len
  repeat (first | refine run ?_ | refine Cd.t rfl ?_ | refine Cd.f rfl ?_ | refine Cd.t (by decide +kernel) ?_ | refine Cd.f (by decide +kernel) ?_ | refine Sc.mk rfl ?_ | refine ld (by assumption) rfl ?_ | refine nw (by assumption) fun _ _ _ => ?_ | refine stB (by assumption) rfl rfl fun _ _ => ?_)
  by_cases e : c.kind = Int.ofNat 0
  · refine Cd.t (decide_eq_true e) ?_
    rw [if_pos e] at k
    repeat (first | refine run ?_ | refine Cd.t rfl ?_ | refine Cd.f rfl ?_ | refine Cd.t (by decide +kernel) ?_ | refine Cd.f (by decide +kernel) ?_ | refine Sc.mk rfl ?_ | refine ld (by assumption) rfl ?_ | refine nw (by assumption) fun _ _ _ => ?_ | refine stB (by assumption) rfl rfl fun _ _ => ?_)
    exact newCas_ok hc h1 fun p H2 h2 => k _ _ ((h2.imp (B := PrcAt (.iface 157 (ptr p 0)) (.cas ⟨1, c.o, c.a, c.b, 0, 0, 0, ⟨0, 0, 0, 0⟩⟩)) fun g a => ⟨p, rfl, a⟩).ent (by repeat (first | exact Ent.refl _ | exact Ent.none | apply Ent.cons (by repeat (first | exact Pull.here | apply Pull.there)) | refine Ent.drop ?_)))
  · refine Cd.f (decide_eq_false e) ?_
    rw [if_neg e] at k
    repeat (first | refine run ?_ | refine Cd.t rfl ?_ | refine Cd.f rfl ?_ | refine Cd.t (by decide +kernel) ?_ | refine Cd.f (by decide +kernel) ?_ | refine Sc.mk rfl ?_ | refine ld (by assumption) rfl ?_ | refine nw (by assumption) fun _ _ _ => ?_ | refine stB (by assumption) rfl rfl fun _ _ => ?_)
    by_cases e : c.kind = Int.ofNat 1
    · refine Cd.t (decide_eq_true e) ?_
      rw [if_pos e] at k
      exact newTake_ok hc h1 fun p H2 h2 => k _ _ ((h2.imp (B := PrcAt (.iface 159 (ptr p 0)) (.take ⟨1, 1073741824, 0, 0⟩)) fun g a => ⟨p, rfl, a⟩).ent (by repeat (first | exact Ent.refl _ | exact Ent.none | apply Ent.cons (by repeat (first | exact Pull.here | apply Pull.there)) | refine Ent.drop ?_)))
    · refine Cd.f (decide_eq_false e) ?_
      rw [if_neg e] at k
      repeat (first | refine run ?_ | refine Cd.t rfl ?_ | refine Cd.f rfl ?_ | refine Cd.t (by decide +kernel) ?_ | refine Cd.f (by decide +kernel) ?_ | refine Sc.mk rfl ?_ | refine ld (by assumption) rfl ?_ | refine nw (by assumption) fun _ _ _ => ?_ | refine stB (by assumption) rfl rfl fun _ _ => ?_)
      by_cases e : c.kind = Int.ofNat 2
      · refine Cd.t (decide_eq_true e) ?_
        rw [if_pos e] at k
        repeat (first | refine run ?_ | refine Cd.t rfl ?_ | refine Cd.f rfl ?_ | refine Cd.t (by decide +kernel) ?_ | refine Cd.f (by decide +kernel) ?_ | refine Sc.mk rfl ?_ | refine ld (by assumption) rfl ?_ | refine nw (by assumption) fun _ _ _ => ?_ | refine stB (by assumption) rfl rfl fun _ _ => ?_)
        refine newCut_ok (st := c.st) hc h1 (Has.skip hq) hl fun p v' H2 h2 => ?_
        exact k _ _ (Sat.close (L1 := [Own p _, Nums v' c.st]) (h2.ent (by repeat (first | exact Ent.refl _ | exact Ent.none | apply Ent.cons (by repeat (first | exact Pull.here | apply Pull.there)) | refine Ent.drop ?_))) fun g a => ⟨p, v', rfl, a⟩)
      · refine Cd.f (decide_eq_false e) ?_
        rw [if_neg e] at k
        repeat (first | refine run ?_ | refine Cd.t rfl ?_ | refine Cd.f rfl ?_ | refine Cd.t (by decide +kernel) ?_ | refine Cd.f (by decide +kernel) ?_ | refine Sc.mk rfl ?_ | refine ld (by assumption) rfl ?_ | refine nw (by assumption) fun _ _ _ => ?_ | refine stB (by assumption) rfl rfl fun _ _ => ?_)
        exact newAt_ok hc h1 fun p H2 h2 => k _ _ ((h2.imp (B := PrcAt (.iface 161 (ptr p 0)) (.past ⟨1, c.o, c.a, 0, 0, ⟨0, 0, 0, 0⟩⟩)) fun g a => ⟨p, rfl, a⟩).ent (by repeat (first | exact Ent.refl _ | exact Ent.none | apply Ent.cons (by repeat (first | exact Pull.here | apply Pull.there)) | refine Ent.drop ?_)))
end Go.Proofs.Ytipbbnoepphdkaa

set_option linter.unusedVariables false
set_option linter.unusedSimpArgs false
namespace Go.Proofs.Ytipbbnoepphdkaa
open Go Go.CM
attribute [local irreducible] AsBool AsWant AsNat AsInt AsCnt AsPtr AsSlc AsLen AsStr AsAgg AsTup AsFn AsIfc Nth Sc NotNil IsNil Must Cd codeW funW Sat SatL wrapN subM mkRow ltZ leZ ltN leN
variable {con : CallT}

/-! ### what threads do, step by step -/
structure G where
  M : Mem
  ths : List (Nat × Bool)
  st : List (List PrS)
def G.pick (g : G) (t : Int) : G :=
  match t with
  | .negSucc _ => g
  | .ofNat i =>
    match g.ths[i]?, g.st[i]? with
    | some (a, _), some ss =>
      match ss[a]? with
      | some s => { M := (s.step g.M (Int.ofNat i)).2, ths := g.ths.set i (if (s.step g.M (Int.ofNat i)).1.over then (a + 1, false) else (a, true)), st := g.st.set i (ss.set a (s.step g.M (Int.ofNat i)).1) }
      | none => g
    | _, _ => g

theorem ini_tr (s : IniS) (M : Mem) (th : Int) : (s.step M th).2.tr.length = M.tr.length + 1 := by
  unfold IniS.step
  split
  · simp [Mem.load, Mem.note]
  · split
    · simp [Mem.load, Mem.note]
    · simp only [Mem.cas, Mem.note]
      split <;> simp [Mem.put]
theorem cas_tr (M : Mem) (th : Int) (a x y : Nat) : (M.cas th a x y).tr.length = M.tr.length + 1 := by
  simp only [Mem.cas, Mem.note]
  split <;> simp [Mem.put]
theorem alloc_tr (M : Mem) (th : Int) (l : List Nat) : (M.alloc th l).tr.length = M.tr.length + 1 := by
  simp only [Mem.alloc, Mem.note]
  split <;> simp
theorem load_tr (M : Mem) (th : Int) (a : Nat) : (M.load th a).tr.length = M.tr.length + 1 := by simp [Mem.load, Mem.note]
theorem store_tr (M : Mem) (th : Int) (a x : Nat) : (M.store th a x).tr.length = M.tr.length + 1 := by simp [Mem.store, Mem.note, Mem.put]
theorem step_tr (s : PrS) (M : Mem) (th : Int) : (s.step M th).2.tr.length = M.tr.length + 1 := by
  cases s with
  | cas s =>
    show (s.step M th).2.tr.length = _
    unfold CasS.step
    split <;> simp only [ini_tr, load_tr, cas_tr, alloc_tr]
  | take s =>
    show (s.step M th).2.tr.length = _
    unfold TakeS.step
    split <;> simp only [load_tr, cas_tr]
  | cut s =>
    show (s.step M th).2.tr.length = _
    unfold CutS.step CutS.go
    simp only
    repeat' split
    all_goals simp only [load_tr, store_tr]
  | past s =>
    show (s.step M th).2.tr.length = _
    unfold PastS.step
    split <;> simp only [ini_tr, load_tr]

/-- Short numbers in what was allotted. -/
def CalmV (M : Mem) : Prop := ∀ a ∈ M.tr, a.vals.length ≤ 1000000000
theorem CalmV.note {M : Mem} {c : Acs} (h : CalmV M) (hc : c.vals.length ≤ 1000000000) : CalmV (M.note c) := fun a ha => by
  simp only [Mem.note, List.mem_append, List.mem_singleton] at ha
  rcases ha with ha | rfl
  · exact h a ha
  · exact hc
theorem CalmV.load {M : Mem} {th : Int} {a : Nat} (h : CalmV M) : CalmV (M.load th a) := h.note (by simp [accLd])
theorem CalmV.store {M : Mem} {th : Int} {a x : Nat} (h : CalmV M) : CalmV (M.store th a x) := CalmV.note (M := M.put a x) h (by simp [accSt])
theorem CalmV.cas {M : Mem} {th : Int} {a x y : Nat} (h : CalmV M) : CalmV (M.cas th a x y) := by
  unfold Mem.cas
  split
  · exact CalmV.note (M := M.put a y) h (by simp [accCas])
  · exact CalmV.note h (by simp [accCas])
theorem CalmV.alloc {M : Mem} {th : Int} {l : List Nat} (h : CalmV M) (hl : l.length ≤ 1000000000) : CalmV (M.alloc th l) := by
  unfold Mem.alloc
  split
  · exact CalmV.note (M := { M with cells := _, free := _ }) h hl
  · exact CalmV.note h hl
theorem CalmV.ini {M : Mem} {th : Int} {s : IniS} (h : CalmV M) : CalmV (s.step M th).2 := by
  unfold IniS.step
  split
  · exact h.load
  · split
    · exact h.load
    · exact h.cas
theorem CalmV.step {M : Mem} {th : Int} {s : PrS} (h : CalmV M) : CalmV (s.step M th).2 := by
  cases s with
  | cas s =>
    show CalmV (s.step M th).2
    unfold CasS.step
    split <;> first | exact h.load | exact h.ini | exact h.cas | exact h.alloc (by simp)
  | take s =>
    show CalmV (s.step M th).2
    unfold TakeS.step
    split <;> first | exact h.load | exact h.cas
  | cut s =>
    show CalmV (s.step M th).2
    unfold CutS.step CutS.go
    simp only
    repeat' split
    all_goals first | exact h.load | exact h.store
  | past s =>
    show CalmV (s.step M th).2
    unfold PastS.step
    split <;> first | exact h.load | exact h.ini

theorem held_ok (s : CasS) (v : Nat) (h : eqN (s.held v).at_ 8 = false) : (s.held v).at_ = 3 := by
  unfold CasS.held at h ⊢
  split at h
  · rename_i e
    rw [if_pos e]
    split at h
    · cases h
    · rename_i e2; rw [if_neg e2]
  · cases h
theorem step_ok (s : PrS) (M : Mem) (th : Int) (h : s.Ok) (ho : (s.step M th).1.over = false) : (s.step M th).1.Ok := by
  cases s with
  | take s =>
    obtain ⟨cam, most, at_, t⟩ := s
    have h : at_ < 2 := h
    show (TakeS.step _ M th).1.at_ < 2
    have ho : eqN (TakeS.step ⟨cam, most, at_, t⟩ M th).1.at_ 2 = false := ho
    rcases (by omega : at_ = 0 ∨ at_ = 1) with rfl | rfl
    · simp only [TakeS.step] at ho ⊢
      split at ho
      · rename_i e; rw [if_pos e]; omega
      · cases ho
    · cases ho
  | cut s =>
    obtain ⟨h1, h2⟩ := h
    refine ⟨?_, by show (s.step M th).1.st.length ≤ _; rw [step_st]; exact h2⟩
    have h3 := step_le s M th
    have ho : eqZ (Int.ofNat (s.step M th).1.at_) (Int.ofNat 7) = false := ho
    have h4 : (s.step M th).1.at_ ≠ 7 := fun e => by rw [eqZ_t e] at ho; cases ho
    show (s.step M th).1.at_ < 7
    omega
  | past s =>
    obtain ⟨cam, obj, stamp, at_, x, ini⟩ := s
    obtain ⟨h1, h2⟩ := h
    simp only at h1 h2
    have ho : eqN (PastS.step ⟨cam, obj, stamp, at_, x, ini⟩ M th).1.at_ 5 = false := ho
    show (PastS.step _ M th).1.at_ < 5 ∧ ((PastS.step _ M th).1.at_ = 1 → (PastS.step _ M th).1.ini.at_ < 3)
    rcases (by omega : at_ = 0 ∨ at_ = 1 ∨ at_ = 2 ∨ at_ = 3 ∨ at_ = 4) with rfl | rfl | rfl | rfl | rfl
    · simp only [PastS.step] at ho ⊢
      split at ho
      · cases ho
      · rename_i e; rw [if_neg e]; exact ⟨by omega, fun _ => by omega⟩
    · simp only [PastS.step] at ho ⊢
      by_cases e : (ini.step M th).1.at_ = 3
      · rw [if_pos e]; exact ⟨by omega, fun h => by omega⟩
      · rw [if_neg e]; exact ⟨by omega, fun _ => ini_lt ini M th (h2 rfl) e⟩
    · simp only [PastS.step] at ho ⊢
      split <;> exact ⟨by omega, fun h => by omega⟩
    · simp only [PastS.step] at ho ⊢
      split at ho
      · cases ho
      · rename_i e; rw [if_neg e]; exact ⟨by omega, fun h => by omega⟩
    · cases ho
  | cas s =>
    obtain ⟨cam, obj, old, now, at_, x, n, ini⟩ := s
    obtain ⟨h1, h2⟩ := h
    simp only at h1 h2
    have ho : eqN (CasS.step ⟨cam, obj, old, now, at_, x, n, ini⟩ M th).1.at_ 8 = false := ho
    show (CasS.step _ M th).1.at_ < 8 ∧ ((CasS.step _ M th).1.at_ = 1 ∨ (CasS.step _ M th).1.at_ = 5 ∨ (CasS.step _ M th).1.at_ = 7 → (CasS.step _ M th).1.ini.at_ < 3)
    rcases (by omega : at_ = 0 ∨ at_ = 1 ∨ at_ = 2 ∨ at_ = 3 ∨ at_ = 4 ∨ at_ = 5 ∨ at_ = 6 ∨ at_ = 7) with rfl | rfl | rfl | rfl | rfl | rfl | rfl | rfl
    · simp only [CasS.step] at ho ⊢
      by_cases e : M.peek obj = 0
      · rw [if_pos e] at ho ⊢
        have := held_ok _ _ ho
        exact ⟨by omega, fun h => by omega⟩
      · rw [if_neg e]; exact ⟨by show 1 < 8; omega, fun _ => by show 0 < 3; omega⟩
    · simp only [CasS.step] at ho ⊢
      by_cases e : (ini.step M th).1.at_ = 3
      · rw [if_pos e]; exact ⟨by omega, fun h => by omega⟩
      · rw [if_neg e]; exact ⟨by omega, fun _ => ini_lt ini M th (h2 (.inl rfl)) e⟩
    · simp only [CasS.step] at ho ⊢
      have := held_ok _ _ ho
      exact ⟨by omega, fun h => by omega⟩
    · simp only [CasS.step] at ho ⊢
      split at ho
      · cases ho
      · rename_i e; rw [if_neg e]; exact ⟨by omega, fun h => by omega⟩
    · simp only [CasS.step] at ho ⊢
      cases e : M.swaps obj x with
      | true => simp only [if_true]; exact ⟨by omega, fun _ => by omega⟩
      | false => simp only [Bool.false_eq_true, if_false]; exact ⟨by omega, fun h => by omega⟩
    · simp only [CasS.step] at ho ⊢
      by_cases e : (ini.step M th).1.at_ = 3
      · rw [if_pos e] at ho; cases ho
      · rw [if_neg e]; exact ⟨by omega, fun _ => ini_lt ini M th (h2 (.inr (.inl rfl))) e⟩
    · simp only [CasS.step] at ho ⊢
      exact ⟨by omega, fun _ => by omega⟩
    · simp only [CasS.step] at ho ⊢
      by_cases e : (ini.step M th).1.at_ = 3
      · rw [if_pos e] at ho; cases ho
      · rw [if_neg e]; exact ⟨by omega, fun _ => ini_lt ini M th (h2 (.inr (.inr rfl))) e⟩
end Go.Proofs.Ytipbbnoepphdkaa

set_option linter.unusedVariables false
set_option linter.unusedSimpArgs false
namespace Go.Proofs.Ytipbbnoepphdkaa
open Go Go.CM
attribute [local irreducible] AsBool AsWant AsNat AsInt AsCnt AsPtr AsSlc AsLen AsStr AsAgg AsTup AsFn AsIfc Nth Sc NotNil IsNil Must Cd codeW funW Sat SatL wrapN subM mkRow ltZ leZ ltN leN
variable {con : CallT}

/-- How far all are: what has begun is as it may be, what has not is fresh. -/
def Good (calls : List (List CallS)) (g : G) : Prop :=
  g.ths.length = calls.length ∧ g.st.length = calls.length ∧ ∀ (i : Nat) (cs : List CallS) (a : Nat) (o : Bool) (ss : List PrS), calls[i]? = some cs → g.ths[i]? = some (a, o) → g.st[i]? = some ss →
    ss.length = cs.length ∧ ∀ (k : Nat) (c : CallS), cs[k]? = some c → (a < k ∨ k = a ∧ o = false → ss[k]? = some c.fresh) ∧ (k = a → ∃ s, ss[k]? = some s ∧ s.Ok)
def Short (calls : List (List CallS)) : Prop := ∀ cs ∈ calls, cs.length ≤ 4096 ∧ ∀ c ∈ cs, c.st.length ≤ 1000000000
def g0 (M : Mem) (calls : List (List CallS)) : G := { M := M, ths := List.replicate calls.length (0, false), st := calls.map fun cs => cs.map CallS.fresh }

theorem good0 (M : Mem) {calls : List (List CallS)} (hs : Short calls) : Good calls (g0 M calls) := by
  refine ⟨by simp [g0], by simp [g0], fun i cs a o ss h1 h2 h3 => ?_⟩
  simp only [g0, List.getElem?_replicate] at h2
  split at h2
  · cases h2
    simp only [g0, List.getElem?_map, h1, Option.map_some, Option.some.injEq] at h3
    subst h3
    refine ⟨by simp, fun k c hk => ⟨fun _ => by rw [List.getElem?_map, hk]; rfl, fun _ => ⟨c.fresh, by rw [List.getElem?_map, hk]; rfl, c.freshOk ?_⟩⟩⟩
    exact (hs cs (List.mem_of_getElem? h1)).2 c (List.mem_of_getElem? hk)
  · cases h2

theorem good_pick {calls : List (List CallS)} {g : G} (hs : Short calls) (h : Good calls g) (t : Int) : Good calls (g.pick t) := by
  unfold G.pick
  split
  · exact h
  · rename_i i
    split
    · rename_i a o' ss e1 e2
      split
      · rename_i s e3
        obtain ⟨l1, l2, l3⟩ := h
        refine ⟨by simp [l1], by simp [l2], fun j cs a' o'' ss' h1 h2 h3 => ?_⟩
        simp only at h2 h3
        by_cases hj : i = j
        · subst hj
          have hi1 : i < g.ths.length := (List.getElem?_eq_some_iff.1 e1).1
          have hi2 : i < g.st.length := (List.getElem?_eq_some_iff.1 e2).1
          rw [List.getElem?_set_self hi1] at h2
          rw [List.getElem?_set_self hi2] at h3
          cases h3
          obtain ⟨g1, g2⟩ := l3 i cs a o' ss h1 e1 e2
          have hal : a < ss.length := (List.getElem?_eq_some_iff.1 e3).1
          refine ⟨by rw [List.length_set]; exact g1, fun k c hk => ?_⟩
          obtain ⟨f1, f2⟩ := g2 k c hk
          obtain ⟨s0, hs0, hok⟩ : ∃ s, ss[a]? = some s ∧ s.Ok := (g2 a (cs[a]'(by omega)) (List.getElem?_eq_getElem (by omega))).2 rfl
          rw [e3] at hs0
          cases hs0
          cases hov : (s.step g.M (Int.ofNat i)).1.over with
          | true =>
            rw [hov] at h2
            simp only [if_true, Option.some.injEq, Prod.mk.injEq] at h2
            obtain ⟨rfl, rfl⟩ := h2
            refine ⟨fun hh => ?_, fun hh => ?_⟩
            · rw [List.getElem?_set_ne (by omega)]
              exact f1 (by omega)
            · rw [List.getElem?_set_ne (by omega)]
              exact ⟨c.fresh, f1 (by omega), c.freshOk ((hs cs (List.mem_of_getElem? h1)).2 c (List.mem_of_getElem? hk))⟩
          | false =>
            rw [hov] at h2
            simp only [Bool.false_eq_true, if_false, Option.some.injEq, Prod.mk.injEq] at h2
            obtain ⟨rfl, rfl⟩ := h2
            refine ⟨fun hh => ?_, fun hh => ?_⟩
            · rcases hh with hh | ⟨_, hh⟩
              · rw [List.getElem?_set_ne (by omega)]
                exact f1 (.inl hh)
              · cases hh
            · subst hh
              rw [List.getElem?_set_self hal]
              exact ⟨_, rfl, step_ok s _ _ hok hov⟩
        · rw [List.getElem?_set_ne hj] at h2 h3
          exact l3 j cs a' o'' ss' h1 h2 h3
      · exact h
    · exact h

theorem pick_tr (g : G) (t : Int) : g.M.tr.length ≤ (g.pick t).M.tr.length ∧ (g.pick t).M.tr.length ≤ g.M.tr.length + 1 := by
  unfold G.pick
  split
  · exact ⟨Nat.le_refl _, Nat.le_succ _⟩
  · split
    · split
      · simp only [step_tr]; omega
      · exact ⟨Nat.le_refl _, Nat.le_succ _⟩
    · exact ⟨Nat.le_refl _, Nat.le_succ _⟩
theorem pick_calm {g : G} (h : CalmV g.M) (t : Int) : CalmV (g.pick t).M := by
  unfold G.pick
  split
  · exact h
  · split
    · split
      · exact h.step
      · exact h
    · exact h

def objsL (prs : List (List Value)) (st : List (List PrS)) : List HP := List.zipWith (fun l ss => SatL (List.zipWith PrcAt l ss)) prs st
theorem objs_get {prs : List (List Value)} {st : List (List PrS)} {i : Nat} {l : List Value} {ss : List PrS} (h1 : prs[i]? = some l) (h2 : st[i]? = some ss) : (objsL prs st)[i]? = some (SatL (List.zipWith PrcAt l ss)) := by
  unfold objsL; rw [List.getElem?_zipWith, h1, h2]
theorem zip_set {α β γ : Type} (f : α → β → γ) {l : List α} {m : List β} {i : Nat} {x : α} {y : β} (h : l[i]? = some x) : (List.zipWith f l m).set i (f x y) = List.zipWith f l (m.set i y) := by
  apply List.ext_getElem?
  intro j
  rw [List.getElem?_set, List.getElem?_zipWith, List.getElem?_zipWith, List.getElem?_set, List.length_zipWith]
  by_cases hj : i = j
  · subst hj
    rw [h]
    have := (List.getElem?_eq_some_iff.1 h).1
    simp only [if_true]
    by_cases hl : i < m.length
    · rw [if_pos hl, if_pos (by omega)]
    · rw [if_neg hl, if_neg (by omega)]
  · simp only [hj, if_false]

/-- The Runner takes the step that is picked. -/
theorem run_pick (hc : Con con lives) {calls : List (List CallS)} (hsh : Short calls) {g : G} (hg : Good calls g) {L R : List HP} {H : CH} {r m n T : Nat} {t : Int} {tv : Value} {pv : List Value} {prs : List (List Value)} {q0 : List Nat} {qs : List (Nat × Nat)} {K : KP}
    (hs : Sat (RunAt r m tv pv prs g.ths (vwsOf q0) n T :: MemP m g.M :: SatL (viewsL m 0 qs) :: SatL (objsL prs g.st) :: R) H)
    (hq : qs.map Prod.fst = q0) (hql : q0.length = calls.length) (hpl : prs.map List.length = calls.map List.length) (hn : n < 100000000) (hqn : ∀ x ∈ qs, x.2 ≤ n) (hT : T ≤ g.M.tr.length) (htr : g.M.tr.length ≤ n + 10)
    (k : ∀ b H1 T' qs', qs'.map Prod.fst = q0 → (∀ x ∈ qs', x.2 ≤ n + 1) → T' ≤ (g.pick t).M.tr.length → Sat (RunAt r m tv pv prs (g.pick t).ths (vwsOf q0) (n + 1) T' :: MemP m (g.pick t).M :: SatL (viewsL m 0 qs') :: SatL (objsL prs (g.pick t).st) :: R) H1 → K (.bool b) H1) :
    Call1 Try.prog con 100 [ptr r 0, i64 t] H K := by
  obtain ⟨l1, l2, l3⟩ := hg
  have hpr : prs.length = calls.length := by have := congrArg List.length hpl; simpa using this
  have same : ∀ {b : Bool}, idleB prs g.ths t = true → g.pick t = g → Call1 Try.prog con 100 [ptr r 0, i64 t] H K := fun {b} hid hp => by
    rw [hp] at k
    exact stepPick_idle hc hs (by repeat (first | exact Pull.here | apply Pull.there)) hid (by omega) fun H1 h1 => k _ _ T qs hq (fun x hx => Nat.le_succ_of_le (hqn x hx)) hT (h1.ent (by repeat (first | exact Ent.refl _ | exact Ent.none | apply Ent.cons (by repeat (first | exact Pull.here | apply Pull.there)) | refine Ent.drop ?_)))
  cases t with
  | negSucc z => exact same (b := true) rfl rfl
  | ofNat i =>
    by_cases hi : i < calls.length
    · obtain ⟨cs, ec⟩ : ∃ x, calls[i]? = some x := ⟨_, List.getElem?_eq_getElem hi⟩
      obtain ⟨⟨a, o⟩, e1⟩ : ∃ x, g.ths[i]? = some x := ⟨_, List.getElem?_eq_getElem (by omega)⟩
      obtain ⟨ss, e2⟩ : ∃ x, g.st[i]? = some x := ⟨_, List.getElem?_eq_getElem (by omega)⟩
      obtain ⟨l, e3⟩ : ∃ x, prs[i]? = some x := ⟨_, List.getElem?_eq_getElem (by omega)⟩
      obtain ⟨⟨q, nq⟩, e5⟩ : ∃ x, qs[i]? = some x := ⟨_, List.getElem?_eq_getElem (by rw [← List.length_map (f := Prod.fst), hq]; omega)⟩
      have ell : l.length = cs.length := by
        have h1 : (prs.map List.length)[i]? = (calls.map List.length)[i]? := by rw [hpl]
        rw [List.getElem?_map, List.getElem?_map, e3, ec] at h1
        simpa using h1
      obtain ⟨f1, f2⟩ := l3 i cs a o ss ec e1 e2
      have eq0 : q0[i]? = some q := by rw [← hq, List.getElem?_map, e5]; rfl
      by_cases ha : a < cs.length
      · obtain ⟨s, es, hok⟩ := (f2 a cs[a] (List.getElem?_eq_getElem ha)).2 rfl
        obtain ⟨v, ev⟩ : ∃ x, l[a]? = some x := ⟨_, List.getElem?_eq_getElem (by omega)⟩
        have hp : g.pick (.ofNat i) = { M := (s.step g.M (Int.ofNat i)).2, ths := g.ths.set i (if (s.step g.M (Int.ofNat i)).1.over then (a + 1, false) else (a, true)), st := g.st.set i (ss.set a (s.step g.M (Int.ofNat i)).1) } := by
          simp only [G.pick, e1, e2, es]
        rw [hp] at k
        have hov : (objsL prs g.st)[i]? = some (SatL (List.zipWith PrcAt l ss)) := objs_get e3 e2
        have hzv : (List.zipWith PrcAt l ss)[a]? = some (PrcAt v s) := by rw [List.getElem?_zipWith, ev, es]
        have hifc : IfcOk v := (hs.has (Has.all (Has.all (l := objsL prs g.st) (Has.skip (Has.skip (Has.skip Has.sat))) hov fun a t => SatL.mono t a) hzv fun {g h} a t => prc_mono a t)).ifc
        refine stepPick_ok (R' := SatL (viewsL m 0 (qs.set i (q, nq + 1))) :: SatL (objsL prs (g.st.set i (ss.set a (s.step g.M (Int.ofNat i)).1))) :: R) (b := (s.step g.M (Int.ofNat i)).1.over) (M' := (s.step g.M (Int.ofNat i)).2) hc hs (by repeat (first | exact Pull.here | apply Pull.there)) (by repeat (first | exact Pull.here | apply Pull.there)) e1 e3 ev (vwsOf_get eq0) (by obtain ⟨t, p, rfl, _⟩ := hifc; exact ⟨_, _, rfl⟩) hT (by rw [step_tr]; omega) (by rw [step_tr]; omega) (by omega) (by have := (hsh cs (List.mem_of_getElem? ec)).1; omega) (fun Q q => hifc.meth Q q) ?_ (fun H1 h1 => ?_)
        · intro F H1 K' hF k'
          have h1 : Sat (SatL (viewsL m 0 qs) :: F :: MemP m g.M :: SatL (objsL prs g.st) :: R) H1 := hF.ent (by repeat (first | exact Ent.refl _ | exact Ent.none | apply Ent.cons (by repeat (first | exact Pull.here | apply Pull.there)) | refine Ent.drop ?_))
          have h2 := h1.pull (pull_all Pull.here (viewsL_get (m := m) (i0 := 0) e5))
          rw [Nat.zero_add] at h2
          have h3 : Sat (SatL (objsL prs g.st) :: ViewAt q m (Int.ofNat i) nq :: SatL ((viewsL m 0 qs).set i Emp) :: F :: MemP m g.M :: R) H1 := h2.ent (by repeat (first | exact Ent.refl _ | exact Ent.none | apply Ent.cons (by repeat (first | exact Pull.here | apply Pull.there)) | refine Ent.drop ?_))
          have h4 := h3.pull (pull_all Pull.here hov)
          have h5 := h4.pull (pull_all Pull.here hzv)
          refine prcStep_ok hc s h5 (by repeat (first | exact Pull.here | apply Pull.there)) (by repeat (first | exact Pull.here | apply Pull.there)) (by repeat (first | exact Pull.here | apply Pull.there)) (by have := hqn _ (List.mem_of_getElem? e5); simp only at this; omega) (by omega) hok fun H6 h6 => k' _ ?_
          have h7 : Sat (PrcAt v (s.step g.M (Int.ofNat i)).1 :: SatL ((List.zipWith PrcAt l ss).set a Emp) :: SatL ((objsL prs g.st).set i Emp) :: ViewAt q m (Int.ofNat i) (nq + 1) :: SatL ((viewsL m 0 qs).set i Emp) :: F :: MemP m (s.step g.M (Int.ofNat i)).2 :: R) H6 := h6.ent (by repeat (first | exact Ent.refl _ | exact Ent.none | apply Ent.cons (by repeat (first | exact Pull.here | apply Pull.there)) | refine Ent.drop ?_))
          have h8 := h7.putAll ((List.getElem?_eq_some_iff.1 hzv).1)
          rw [zip_set PrcAt ev] at h8
          have h9 := h8.putAll ((List.getElem?_eq_some_iff.1 hov).1)
          have e9 : (objsL prs g.st).set i (SatL (List.zipWith PrcAt l (ss.set a (s.step g.M (Int.ofNat i)).1))) = objsL prs (g.st.set i (ss.set a (s.step g.M (Int.ofNat i)).1)) := zip_set (fun l ss => SatL (List.zipWith PrcAt l ss)) e3
          rw [e9] at h9
          have h10 : Sat (ViewAt q m (Int.ofNat i) (nq + 1) :: SatL ((viewsL m 0 qs).set i Emp) :: F :: MemP m (s.step g.M (Int.ofNat i)).2 :: SatL (objsL prs (g.st.set i (ss.set a (s.step g.M (Int.ofNat i)).1))) :: R) H6 := h9.ent (by repeat (first | exact Ent.refl _ | exact Ent.none | apply Ent.cons (by repeat (first | exact Pull.here | apply Pull.there)) | refine Ent.drop ?_))
          have h11 := h10.putAll (by rw [viewsL_len]; exact (List.getElem?_eq_some_iff.1 e5).1)
          have e11 := viewsL_set (m := m) (i0 := 0) (j := i) (qs := qs) (q := q) (n := nq + 1)
          rw [Nat.zero_add] at e11
          rw [e11] at h11
          exact h11.ent (by repeat (first | exact Ent.refl _ | exact Ent.none | apply Ent.cons (by repeat (first | exact Pull.here | apply Pull.there)) | refine Ent.drop ?_))
        · refine k _ _ _ (qs.set i (q, nq + 1)) ?_ ?_ (Nat.le_refl _) h1
          · rw [List.map_set, hq]
            exact set_get_self eq0
          · intro x hx
            rcases List.mem_or_eq_of_mem_set hx with h | rfl
            · exact Nat.le_succ_of_le (hqn x h)
            · have := hqn _ (List.mem_of_getElem? e5)
              simp only at this ⊢
              omega
      · refine same (b := true) ?_ ?_
        · simp only [idleB, e1, e3]; exact decide_eq_true (by omega)
        · simp only [G.pick, e1, e2, List.getElem?_eq_none (show ss.length ≤ a by omega)]
    · refine same (b := true) ?_ ?_
      · simp only [idleB, List.getElem?_eq_none (show g.ths.length ≤ i by omega)]
      · simp only [G.pick, List.getElem?_eq_none (show g.ths.length ≤ i by omega)]
end Go.Proofs.Ytipbbnoepphdkaa
