/- What the functions do to the memories and procs that they are given: their contracts. The conditions stand in each. -/
import Derived.Test.YtipbbnoepphdkaaDec
import Derived.Test.YtipbbnoepphdkaaCmF
set_option linter.unusedVariables false
set_option linter.unusedSimpArgs false

namespace Go.Proofs.Ytipbbnoepphdkaa
open Go Go.CM
abbrev lives : List Nat := [11, 39, 53, 65]
abbrev tPl : Nat := 146
abbrev tA : Nat := 87
abbrev tU : Nat := 22
abbrev MemP (m : Nat) (M : Mem) : HP := MemAt tPl tA tU m M
abbrev RefP (m : Nat) (M : Mem) : HP := RefAt tA tU m M
attribute [local irreducible] AsBool AsWant AsNat AsInt AsCnt AsPtr AsSlc AsLen AsStr AsAgg AsTup AsFn AsIfc Nth Sc NotNil IsNil Must Cd codeW funW Sat SatL wrapN subM mkRow ltZ leZ ltN leN
variable {con : CallT}

theorem el_acc : elemOk Try.prog 55 87 8 80 = true := by kernel_rfl
theorem el_u64 : elemOk Try.prog 23 22 1 8 = true := by kernel_rfl
theorem sl_acc : ∃ e, Try.prog.underlying 55 = some (.slice e) := ⟨87, by kernel_rfl⟩
theorem sl_u64 : ∃ e, Try.prog.underlying 23 = some (.slice e) := ⟨22, by kernel_rfl⟩
theorem off1 (a : Nat) : Nat.add 0 (Nat.mul a 1) = a := by show 0 + a * 1 = a; omega
theorem map_get (l : List Nat) {a : Nat} (h : a < l.length) : (l.map u64)[a]? = some (u64 (l.getD a 0)) := by
  rw [List.getElem?_map, List.getElem?_eq_getElem h, List.getD_eq_getElem?_getD, List.getElem?_eq_getElem h]; rfl

theorem plainSize_ok (hc : Con con lives) {L : List HP} {H : CH} {b x c n : Nat} {o : Nat} {f : Value} {K : KP} (hs : Sat L H) [HasCell L b [slc x o n c, f]] (k : K (iN n) H) : Call1 Try.prog con 230 [ptr b 0] H K := by
  refine call_of (hc _ _ _ rfl) ?_
  rw [plainSize_W]
  repeat (first
    | (refine AsInt.mk ?_) | (refine AsNat.mk ?_) | (refine AsBool.mk ?_) | (refine AsPtr.mk ?_) | (refine AsSlc.mk ?_) | (refine AsLen.mk ?_) | (refine AsCnt.mk ?_) | (refine AsAgg.mk ?_) | (refine AsTup.mk ?_) | (refine AsFn.mk ?_)
    | (refine NotNil.ptr ?_) | (refine NotNil.ifc ?_) | (refine NotNil.fnc ?_) | (refine IsNil.ptr ?_) | (refine IsNil.ptr0 ?_) | (refine IsNil.slc ?_) | (refine IsNil.slc0 ?_) | (refine IsNil.ifc ?_) | (refine IsNil.ifc0 ?_)
    | (refine Sc.mk rfl ?_) | (refine Same.slc ?_) | (refine Same.ptr ?_) | (refine Same.int ?_) | (refine Same.bool ?_) | (refine Cd.t rfl ?_) | (refine Cd.f rfl ?_) | (refine Cd.t (by decide +kernel) ?_) | (refine Cd.f (by decide +kernel) ?_) | (refine AsWant.mk ?_) | (refine AsStr.mk ?_)
    | (refine ld (by assumption) rfl ?_)
    | (refine nw (by assumption) fun _ _ _ => ?_)
    | (refine stB (by assumption) rfl rfl fun _ _ => ?_))
  exact k

theorem plainLoad_ok (hc : Con con lives) {L : List HP} {H : CH} {b x c n a : Nat} {f v : Value} {cs : List Value} {K : KP} (hs : Sat L H) [HasCell L b [slc x 0 n c, f]] [HasCell L x cs] (ha : a < n) (hv : cs[a]? = some v) (k : K v H) : Call1 Try.prog con 228 [ptr b 0, u64 a] H K := by
  refine call_of (hc _ _ _ rfl) ?_
  rw [plainLoad_W]
  repeat (first
    | (refine AsInt.mk ?_) | (refine AsNat.mk ?_) | (refine AsBool.mk ?_) | (refine AsPtr.mk ?_) | (refine AsSlc.mk ?_) | (refine AsLen.mk ?_) | (refine AsCnt.mk ?_) | (refine AsAgg.mk ?_) | (refine AsTup.mk ?_) | (refine AsFn.mk ?_)
    | (refine NotNil.ptr ?_) | (refine NotNil.ifc ?_) | (refine NotNil.fnc ?_) | (refine IsNil.ptr ?_) | (refine IsNil.ptr0 ?_) | (refine IsNil.slc ?_) | (refine IsNil.slc0 ?_) | (refine IsNil.ifc ?_) | (refine IsNil.ifc0 ?_)
    | (refine Sc.mk rfl ?_) | (refine Same.slc ?_) | (refine Same.ptr ?_) | (refine Same.int ?_) | (refine Same.bool ?_) | (refine Cd.t rfl ?_) | (refine Cd.f rfl ?_) | (refine Cd.t (by decide +kernel) ?_) | (refine Cd.f (by decide +kernel) ?_) | (refine AsWant.mk ?_) | (refine AsStr.mk ?_)
    | (refine ld (by assumption) rfl ?_)
    | (refine nw (by assumption) fun _ _ _ => ?_)
    | (refine stB (by assumption) rfl rfl fun _ _ => ?_))
  refine Must.mk (ltN_t ha) (ld hs (by rw [off1]; exact hv) k)

theorem plainStore_ok (hc : Con con lives) {L : List HP} {H : CH} {b x c n a y : Nat} {f : Value} {cs : List Value} {F : List Value → List HP} {K : KP} (hs : Sat L H) [HasCell L b [slc x 0 n c, f]] [HasObj L x cs F] (ha : a < n) (hn : n = cs.length) (k : ∀ H1, Sat (F (cs.set a (u64 y))) H1 → K unit H1) : Call1 Try.prog con 231 [ptr b 0, u64 a, u64 y] H K := by
  refine call_of (hc _ _ _ rfl) ?_
  rw [plainStore_W]
  repeat (first
    | (refine AsInt.mk ?_) | (refine AsNat.mk ?_) | (refine AsBool.mk ?_) | (refine AsPtr.mk ?_) | (refine AsSlc.mk ?_) | (refine AsLen.mk ?_) | (refine AsCnt.mk ?_) | (refine AsAgg.mk ?_) | (refine AsTup.mk ?_) | (refine AsFn.mk ?_)
    | (refine NotNil.ptr ?_) | (refine NotNil.ifc ?_) | (refine NotNil.fnc ?_) | (refine IsNil.ptr ?_) | (refine IsNil.ptr0 ?_) | (refine IsNil.slc ?_) | (refine IsNil.slc0 ?_) | (refine IsNil.ifc ?_) | (refine IsNil.ifc0 ?_)
    | (refine Sc.mk rfl ?_) | (refine Same.slc ?_) | (refine Same.ptr ?_) | (refine Same.int ?_) | (refine Same.bool ?_) | (refine Cd.t rfl ?_) | (refine Cd.f rfl ?_) | (refine Cd.t (by decide +kernel) ?_) | (refine Cd.f (by decide +kernel) ?_) | (refine AsWant.mk ?_) | (refine AsStr.mk ?_)
    | (refine ld (by assumption) rfl ?_)
    | (refine nw (by assumption) fun _ _ _ => ?_)
    | (refine stB (by assumption) rfl rfl fun _ _ => ?_))
  refine Must.mk (ltN_t ha) (st hs (by rw [off1]; omega) rfl fun H1 h => k H1 ?_)
  rw [off1] at h
  exact h

theorem memHas_ok (hc : Con con lives) {L R : List HP} {H : CH} {m a : Nat} {M : Mem} {K : KP} (hs : Sat L H) (hp : Pull L (MemP m M) R) (k : K (.bool (ltN a M.cells.length)) H) : Call1 Try.prog con 83 [ptr m 0, u64 a] H K := by
  refine call_of (hc _ _ _ rfl) ?_
  rw [memHas_W]
  obtain ⟨h1, h2, s1, s2, d, ⟨bp, bl, tr, ⟨hn, hf⟩, hin⟩, hR⟩ := hs.opens hp
  have hs1 := Sat.merge s1 s2 d hin hR
  simp only [List.cons_append, List.nil_append] at hs1
  repeat (first
    | (refine AsInt.mk ?_) | (refine AsNat.mk ?_) | (refine AsBool.mk ?_) | (refine AsPtr.mk ?_) | (refine AsSlc.mk ?_) | (refine AsLen.mk ?_) | (refine AsCnt.mk ?_) | (refine AsAgg.mk ?_) | (refine AsTup.mk ?_) | (refine AsFn.mk ?_)
    | (refine NotNil.ptr ?_) | (refine NotNil.ifc ?_) | (refine NotNil.fnc ?_) | (refine IsNil.ptr ?_) | (refine IsNil.ptr0 ?_) | (refine IsNil.slc ?_) | (refine IsNil.slc0 ?_) | (refine IsNil.ifc ?_) | (refine IsNil.ifc0 ?_)
    | (refine Sc.mk rfl ?_) | (refine Same.slc ?_) | (refine Same.ptr ?_) | (refine Same.int ?_) | (refine Same.bool ?_) | (refine Cd.t rfl ?_) | (refine Cd.f rfl ?_) | (refine Cd.t (by decide +kernel) ?_) | (refine Cd.f (by decide +kernel) ?_) | (refine AsWant.mk ?_) | (refine AsStr.mk ?_)
    | (refine ld (by assumption) rfl ?_)
    | (refine nw (by assumption) fun _ _ _ => ?_)
    | (refine stB (by assumption) rfl rfl fun _ _ => ?_))
  refine Mth.of (f := 230) (rc := ptr bp 0) (by kernel_rfl) (by kernel_rfl) ?_
  refine plainSize_ok hc hs1 ?_
  repeat (first
    | (refine AsInt.mk ?_) | (refine AsNat.mk ?_) | (refine AsBool.mk ?_) | (refine AsPtr.mk ?_) | (refine AsSlc.mk ?_) | (refine AsLen.mk ?_) | (refine AsCnt.mk ?_) | (refine AsAgg.mk ?_) | (refine AsTup.mk ?_) | (refine AsFn.mk ?_)
    | (refine NotNil.ptr ?_) | (refine NotNil.ifc ?_) | (refine NotNil.fnc ?_) | (refine IsNil.ptr ?_) | (refine IsNil.ptr0 ?_) | (refine IsNil.slc ?_) | (refine IsNil.slc0 ?_) | (refine IsNil.ifc ?_) | (refine IsNil.ifc0 ?_)
    | (refine Sc.mk rfl ?_) | (refine Same.slc ?_) | (refine Same.ptr ?_) | (refine Same.int ?_) | (refine Same.bool ?_) | (refine Cd.t rfl ?_) | (refine Cd.f rfl ?_) | (refine Cd.t (by decide +kernel) ?_) | (refine Cd.f (by decide +kernel) ?_) | (refine AsWant.mk ?_) | (refine AsStr.mk ?_)
    | (refine ld (by assumption) rfl ?_)
    | (refine nw (by assumption) fun _ _ _ => ?_)
    | (refine stB (by assumption) rfl rfl fun _ _ => ?_))
  refine Must.mk (cv_small (by omega)) ?_
  rw [wrapN_small (by omega)]
  exact k

theorem memPeek_ok (hc : Con con lives) {L R : List HP} {H : CH} {m a : Nat} {M : Mem} {K : KP} (hs : Sat L H) (hp : Pull L (MemP m M) R) (k : K (u64 (M.peek a)) H) : Call1 Try.prog con 71 [ptr m 0, u64 a] H K := by
  refine call_of (hc _ _ _ rfl) ?_
  rw [memPeek_W]
  refine memHas_ok hc hs hp ?_
  obtain ⟨h1, h2, s1, s2, d, ⟨bp, bl, tr, ⟨hn, hf⟩, hin⟩, hR⟩ := hs.opens hp
  have hs1 := Sat.merge s1 s2 d hin hR
  simp only [List.cons_append, List.nil_append] at hs1
  repeat (first
    | (refine AsInt.mk ?_) | (refine AsNat.mk ?_) | (refine AsBool.mk ?_) | (refine AsPtr.mk ?_) | (refine AsSlc.mk ?_) | (refine AsLen.mk ?_) | (refine AsCnt.mk ?_) | (refine AsAgg.mk ?_) | (refine AsTup.mk ?_) | (refine AsFn.mk ?_)
    | (refine NotNil.ptr ?_) | (refine NotNil.ifc ?_) | (refine NotNil.fnc ?_) | (refine IsNil.ptr ?_) | (refine IsNil.ptr0 ?_) | (refine IsNil.slc ?_) | (refine IsNil.slc0 ?_) | (refine IsNil.ifc ?_) | (refine IsNil.ifc0 ?_)
    | (refine Sc.mk rfl ?_) | (refine Same.slc ?_) | (refine Same.ptr ?_) | (refine Same.int ?_) | (refine Same.bool ?_) | (refine Cd.t rfl ?_) | (refine Cd.f rfl ?_) | (refine Cd.t (by decide +kernel) ?_) | (refine Cd.f (by decide +kernel) ?_) | (refine AsWant.mk ?_) | (refine AsStr.mk ?_)
    | (refine ld (by assumption) rfl ?_)
    | (refine nw (by assumption) fun _ _ _ => ?_)
    | (refine stB (by assumption) rfl rfl fun _ _ => ?_))
  by_cases h : a < M.cells.length
  · refine Cd.f (by rw [ltN_t h]; rfl) ?_
    repeat (first
    | (refine AsInt.mk ?_) | (refine AsNat.mk ?_) | (refine AsBool.mk ?_) | (refine AsPtr.mk ?_) | (refine AsSlc.mk ?_) | (refine AsLen.mk ?_) | (refine AsCnt.mk ?_) | (refine AsAgg.mk ?_) | (refine AsTup.mk ?_) | (refine AsFn.mk ?_)
    | (refine NotNil.ptr ?_) | (refine NotNil.ifc ?_) | (refine NotNil.fnc ?_) | (refine IsNil.ptr ?_) | (refine IsNil.ptr0 ?_) | (refine IsNil.slc ?_) | (refine IsNil.slc0 ?_) | (refine IsNil.ifc ?_) | (refine IsNil.ifc0 ?_)
    | (refine Sc.mk rfl ?_) | (refine Same.slc ?_) | (refine Same.ptr ?_) | (refine Same.int ?_) | (refine Same.bool ?_) | (refine Cd.t rfl ?_) | (refine Cd.f rfl ?_) | (refine Cd.t (by decide +kernel) ?_) | (refine Cd.f (by decide +kernel) ?_) | (refine AsWant.mk ?_) | (refine AsStr.mk ?_)
    | (refine ld (by assumption) rfl ?_)
    | (refine nw (by assumption) fun _ _ _ => ?_)
    | (refine stB (by assumption) rfl rfl fun _ _ => ?_))
    refine Mth.of (f := 228) (rc := ptr bp 0) (by kernel_rfl) (by kernel_rfl) ?_
    exact plainLoad_ok hc hs1 h (map_get _ h) k
  · refine Cd.t (by rw [ltN_f (by omega)]; rfl) ?_
    have e : M.peek a = 0 := by unfold Mem.peek; rw [List.getD_eq_getElem?_getD, List.getElem?_eq_none (by omega)]; rfl
    rw [e] at k
    exact k

theorem note_ok (hc : Con con lives) {L R1 R2 R3 : List HP} {H : CH} {p m n : Nat} {th : Int} {M : Mem} {v0 : Value} {c : Acs} {K : KP} (hs : Sat L H) (hm' : Pull L (MemP m M) R1) (hv : Pull R1 (ViewAt p m th n) R2) (hq : Pull R2 (Nums v0 c.vals) R3)
    (hn : n < 1000000000) (ht : M.tr.length < 1000000000) (hv0 : isCell v0 = true) (k : ∀ H1, Sat (MemP m (M.note { c with th := th }) :: ViewAt p m th (n + 1) :: R3) H1 → K unit H1) :
    Call1 Try.prog con 84 [ptr p 0, .agg ⟨[i64 (Int.ofNat 0), u8 c.kind, u64 c.a, u64 c.x, u64 c.y, v0, u64 c.got, .bool c.ok]⟩] H K := by
  refine call_of (hc _ _ _ rfl) ?_
  rw [viewNote_W]
  have hs0 := hs.takes (.cons hm' (.cons hv (.cons hq .nil)))
  simp only [List.cons_append, List.nil_append] at hs0
  obtain ⟨h1, h2, s1, s2, d, ⟨bp, bl, tr, ⟨hn1, hf⟩, hin⟩, hR⟩ := hs0.opens Pull.here
  have hs1 := Sat.merge s1 s2 d hin hR
  simp only [List.cons_append, List.nil_append] at hs1
  obtain ⟨g1, g2, t1, t2, d2, hT, _⟩ := hs1.opens (.there (.there (.there .here)))
  obtain ⟨q, rfl⟩ := hT.shape
  repeat (first
    | (refine AsInt.mk ?_) | (refine AsNat.mk ?_) | (refine AsBool.mk ?_) | (refine AsPtr.mk ?_) | (refine AsSlc.mk ?_) | (refine AsLen.mk ?_) | (refine AsCnt.mk ?_) | (refine AsAgg.mk ?_) | (refine AsTup.mk ?_) | (refine AsFn.mk ?_)
    | (refine NotNil.ptr ?_) | (refine NotNil.ifc ?_) | (refine NotNil.fnc ?_) | (refine IsNil.ptr ?_) | (refine IsNil.ptr0 ?_) | (refine IsNil.slc ?_) | (refine IsNil.slc0 ?_) | (refine IsNil.ifc ?_) | (refine IsNil.ifc0 ?_)
    | (refine Sc.mk rfl ?_) | (refine Same.slc ?_) | (refine Same.ptr ?_) | (refine Same.int ?_) | (refine Same.bool ?_) | (refine Cd.t rfl ?_) | (refine Cd.f rfl ?_) | (refine Cd.t (by decide +kernel) ?_) | (refine Cd.f (by decide +kernel) ?_) | (refine AsWant.mk ?_) | (refine AsStr.mk ?_)
    | (refine ld (by assumption) rfl ?_)
    | (refine nw (by assumption) fun _ _ _ => ?_)
    | (refine stB (by assumption) rfl rfl fun _ _ => ?_))
  refine inR_nat (n := n + 1) (by omega) ?_
  repeat (first
    | (refine AsInt.mk ?_) | (refine AsNat.mk ?_) | (refine AsBool.mk ?_) | (refine AsPtr.mk ?_) | (refine AsSlc.mk ?_) | (refine AsLen.mk ?_) | (refine AsCnt.mk ?_) | (refine AsAgg.mk ?_) | (refine AsTup.mk ?_) | (refine AsFn.mk ?_)
    | (refine NotNil.ptr ?_) | (refine NotNil.ifc ?_) | (refine NotNil.fnc ?_) | (refine IsNil.ptr ?_) | (refine IsNil.ptr0 ?_) | (refine IsNil.slc ?_) | (refine IsNil.slc0 ?_) | (refine IsNil.ifc ?_) | (refine IsNil.ifc0 ?_)
    | (refine Sc.mk rfl ?_) | (refine Same.slc ?_) | (refine Same.ptr ?_) | (refine Same.int ?_) | (refine Same.bool ?_) | (refine Cd.t rfl ?_) | (refine Cd.f rfl ?_) | (refine Cd.t (by decide +kernel) ?_) | (refine Cd.f (by decide +kernel) ?_) | (refine AsWant.mk ?_) | (refine AsStr.mk ?_)
    | (refine ld (by assumption) rfl ?_)
    | (refine nw (by assumption) fun _ _ _ => ?_)
    | (refine stB (by assumption) rfl rfl fun _ _ => ?_))
  refine app_trace (c := { c with th := th }) (v0 := v0) (by assumption) (by repeat (first | exact Pull.here | apply Pull.there)) (by repeat (first | exact Pull.here | apply Pull.there)) el_acc (by omega) sl_acc hv0 ht (fun q H1 hs2 => ?_)
  repeat (first
    | (refine AsInt.mk ?_) | (refine AsNat.mk ?_) | (refine AsBool.mk ?_) | (refine AsPtr.mk ?_) | (refine AsSlc.mk ?_) | (refine AsLen.mk ?_) | (refine AsCnt.mk ?_) | (refine AsAgg.mk ?_) | (refine AsTup.mk ?_) | (refine AsFn.mk ?_)
    | (refine NotNil.ptr ?_) | (refine NotNil.ifc ?_) | (refine NotNil.fnc ?_) | (refine IsNil.ptr ?_) | (refine IsNil.ptr0 ?_) | (refine IsNil.slc ?_) | (refine IsNil.slc0 ?_) | (refine IsNil.ifc ?_) | (refine IsNil.ifc0 ?_)
    | (refine Sc.mk rfl ?_) | (refine Same.slc ?_) | (refine Same.ptr ?_) | (refine Same.int ?_) | (refine Same.bool ?_) | (refine Cd.t rfl ?_) | (refine Cd.f rfl ?_) | (refine Cd.t (by decide +kernel) ?_) | (refine Cd.f (by decide +kernel) ?_) | (refine AsWant.mk ?_) | (refine AsStr.mk ?_)
    | (refine ld (by assumption) rfl ?_)
    | (refine nw (by assumption) fun _ _ _ => ?_)
    | (refine stB (by assumption) rfl rfl fun _ _ => ?_))
  refine k _ (Sat.close (L1 := [_, _, _, _]) (Sat.ent (by assumption) (by repeat (first | exact Ent.refl _ | exact Ent.none | apply Ent.cons (by repeat (first | exact Pull.here | apply Pull.there)) | refine Ent.drop ?_))) fun g a => ⟨bp, bl, _, ⟨hn1, hf⟩, a⟩)
end Go.Proofs.Ytipbbnoepphdkaa

namespace Go.Proofs.Ytipbbnoepphdkaa
open Go Go.CM
attribute [local irreducible] AsBool AsWant AsNat AsInt AsCnt AsPtr AsSlc AsLen AsStr AsAgg AsTup AsFn AsIfc Nth Sc NotNil IsNil Must Cd codeW funW Sat SatL wrapN subM mkRow ltZ leZ ltN leN
variable {con : CallT}

theorem viewLoad_ok (hc : Con con lives) {L R1 R2 : List HP} {H : CH} {p m n a : Nat} {th : Int} {M : Mem} {K : KP} (hs : Sat L H) (hm : Pull L (MemP m M) R1) (hv : Pull R1 (ViewAt p m th n) R2)
    (hn : n < 1000000000) (ht : M.tr.length < 1000000000) (k : ∀ H1, Sat (MemP m (M.load th a) :: ViewAt p m th (n + 1) :: R2) H1 → K (u64 (M.peek a)) H1) : Call1 Try.prog con 74 [ptr p 0, u64 a] H K := by
  refine call_of (hc _ _ _ rfl) ?_
  rw [viewLoad_W]
  have hs0 := hs.takes (.cons hm (.cons hv .nil))
  simp only [List.cons_append, List.nil_append] at hs0
  repeat (first
    | (refine AsInt.mk ?_) | (refine AsNat.mk ?_) | (refine AsBool.mk ?_) | (refine AsPtr.mk ?_) | (refine AsSlc.mk ?_) | (refine AsLen.mk ?_) | (refine AsCnt.mk ?_) | (refine AsAgg.mk ?_) | (refine AsTup.mk ?_) | (refine AsFn.mk ?_)
    | (refine NotNil.ptr ?_) | (refine NotNil.ifc ?_) | (refine NotNil.fnc ?_) | (refine IsNil.ptr ?_) | (refine IsNil.ptr0 ?_) | (refine IsNil.slc ?_) | (refine IsNil.slc0 ?_) | (refine IsNil.ifc ?_) | (refine IsNil.ifc0 ?_)
    | (refine Sc.mk rfl ?_) | (refine Same.slc ?_) | (refine Same.ptr ?_) | (refine Same.int ?_) | (refine Same.bool ?_) | (refine Cd.t rfl ?_) | (refine Cd.f rfl ?_) | (refine Cd.t (by decide +kernel) ?_) | (refine Cd.f (by decide +kernel) ?_) | (refine AsWant.mk ?_) | (refine AsStr.mk ?_)
    | (refine ld (by assumption) rfl ?_)
    | (refine nw (by assumption) fun _ _ _ => ?_)
    | (refine stB (by assumption) rfl rfl fun _ _ => ?_))
  refine memPeek_ok hc hs0 (by repeat (first | exact Pull.here | apply Pull.there)) ?_
  repeat (first
    | (refine AsInt.mk ?_) | (refine AsNat.mk ?_) | (refine AsBool.mk ?_) | (refine AsPtr.mk ?_) | (refine AsSlc.mk ?_) | (refine AsLen.mk ?_) | (refine AsCnt.mk ?_) | (refine AsAgg.mk ?_) | (refine AsTup.mk ?_) | (refine AsFn.mk ?_)
    | (refine NotNil.ptr ?_) | (refine NotNil.ifc ?_) | (refine NotNil.fnc ?_) | (refine IsNil.ptr ?_) | (refine IsNil.ptr0 ?_) | (refine IsNil.slc ?_) | (refine IsNil.slc0 ?_) | (refine IsNil.ifc ?_) | (refine IsNil.ifc0 ?_)
    | (refine Sc.mk rfl ?_) | (refine Same.slc ?_) | (refine Same.ptr ?_) | (refine Same.int ?_) | (refine Same.bool ?_) | (refine Cd.t rfl ?_) | (refine Cd.f rfl ?_) | (refine Cd.t (by decide +kernel) ?_) | (refine Cd.f (by decide +kernel) ?_) | (refine AsWant.mk ?_) | (refine AsStr.mk ?_)
    | (refine ld (by assumption) rfl ?_)
    | (refine nw (by assumption) fun _ _ _ => ?_)
    | (refine stB (by assumption) rfl rfl fun _ _ => ?_))
  refine note_ok (c := accLd 0 a (M.peek a)) (v0 := snil) hc hs0.nil (by repeat (first | exact Pull.here | apply Pull.there)) (by repeat (first | exact Pull.here | apply Pull.there)) (by repeat (first | exact Pull.here | apply Pull.there)) hn ht rfl fun H1 h => ?_
  exact k _ h

theorem put_oob {M : Mem} {a x : Nat} (h : M.cells.length ≤ a) : M.put a x = M := by
  unfold Mem.put; rw [List.set_eq_of_length_le h]

theorem viewStore_ok (hc : Con con lives) {L R1 R2 : List HP} {H : CH} {p m n a x : Nat} {th : Int} {M : Mem} {K : KP} (hs : Sat L H) (hm : Pull L (MemP m M) R1) (hv : Pull R1 (ViewAt p m th n) R2)
    (hn : n < 1000000000) (ht : M.tr.length < 1000000000) (k : ∀ H1, Sat (MemP m (M.store th a x) :: ViewAt p m th (n + 1) :: R2) H1 → K unit H1) : Call1 Try.prog con 23 [ptr p 0, u64 a, u64 x] H K := by
  refine call_of (hc _ _ _ rfl) ?_
  rw [viewStore_W]
  have hs0 := hs.takes (.cons hm (.cons hv .nil))
  simp only [List.cons_append, List.nil_append] at hs0
  repeat (first
    | (refine AsInt.mk ?_) | (refine AsNat.mk ?_) | (refine AsBool.mk ?_) | (refine AsPtr.mk ?_) | (refine AsSlc.mk ?_) | (refine AsLen.mk ?_) | (refine AsCnt.mk ?_) | (refine AsAgg.mk ?_) | (refine AsTup.mk ?_) | (refine AsFn.mk ?_)
    | (refine NotNil.ptr ?_) | (refine NotNil.ifc ?_) | (refine NotNil.fnc ?_) | (refine IsNil.ptr ?_) | (refine IsNil.ptr0 ?_) | (refine IsNil.slc ?_) | (refine IsNil.slc0 ?_) | (refine IsNil.ifc ?_) | (refine IsNil.ifc0 ?_)
    | (refine Sc.mk rfl ?_) | (refine Same.slc ?_) | (refine Same.ptr ?_) | (refine Same.int ?_) | (refine Same.bool ?_) | (refine Cd.t rfl ?_) | (refine Cd.f rfl ?_) | (refine Cd.t (by decide +kernel) ?_) | (refine Cd.f (by decide +kernel) ?_) | (refine AsWant.mk ?_) | (refine AsStr.mk ?_)
    | (refine ld (by assumption) rfl ?_)
    | (refine nw (by assumption) fun _ _ _ => ?_)
    | (refine stB (by assumption) rfl rfl fun _ _ => ?_))
  refine memHas_ok hc hs0 (by repeat (first | exact Pull.here | apply Pull.there)) ?_
  repeat (first
    | (refine AsInt.mk ?_) | (refine AsNat.mk ?_) | (refine AsBool.mk ?_) | (refine AsPtr.mk ?_) | (refine AsSlc.mk ?_) | (refine AsLen.mk ?_) | (refine AsCnt.mk ?_) | (refine AsAgg.mk ?_) | (refine AsTup.mk ?_) | (refine AsFn.mk ?_)
    | (refine NotNil.ptr ?_) | (refine NotNil.ifc ?_) | (refine NotNil.fnc ?_) | (refine IsNil.ptr ?_) | (refine IsNil.ptr0 ?_) | (refine IsNil.slc ?_) | (refine IsNil.slc0 ?_) | (refine IsNil.ifc ?_) | (refine IsNil.ifc0 ?_)
    | (refine Sc.mk rfl ?_) | (refine Same.slc ?_) | (refine Same.ptr ?_) | (refine Same.int ?_) | (refine Same.bool ?_) | (refine Cd.t rfl ?_) | (refine Cd.f rfl ?_) | (refine Cd.t (by decide +kernel) ?_) | (refine Cd.f (by decide +kernel) ?_) | (refine AsWant.mk ?_) | (refine AsStr.mk ?_)
    | (refine ld (by assumption) rfl ?_)
    | (refine nw (by assumption) fun _ _ _ => ?_)
    | (refine stB (by assumption) rfl rfl fun _ _ => ?_))
  refine Cd.of (fun hlt => ?_) (fun hge => ?_)
  · have hlt' : a < M.cells.length := ltN_iff.1 hlt
    obtain ⟨h1, h2, s1, s2, d, ⟨bp, bl, tr, ⟨hn1, hf⟩, hin⟩, hR⟩ := hs0.opens Pull.here
    have hs1 := Sat.merge s1 s2 d hin hR
    simp only [List.cons_append, List.nil_append] at hs1
    repeat (first
    | (refine AsInt.mk ?_) | (refine AsNat.mk ?_) | (refine AsBool.mk ?_) | (refine AsPtr.mk ?_) | (refine AsSlc.mk ?_) | (refine AsLen.mk ?_) | (refine AsCnt.mk ?_) | (refine AsAgg.mk ?_) | (refine AsTup.mk ?_) | (refine AsFn.mk ?_)
    | (refine NotNil.ptr ?_) | (refine NotNil.ifc ?_) | (refine NotNil.fnc ?_) | (refine IsNil.ptr ?_) | (refine IsNil.ptr0 ?_) | (refine IsNil.slc ?_) | (refine IsNil.slc0 ?_) | (refine IsNil.ifc ?_) | (refine IsNil.ifc0 ?_)
    | (refine Sc.mk rfl ?_) | (refine Same.slc ?_) | (refine Same.ptr ?_) | (refine Same.int ?_) | (refine Same.bool ?_) | (refine Cd.t rfl ?_) | (refine Cd.f rfl ?_) | (refine Cd.t (by decide +kernel) ?_) | (refine Cd.f (by decide +kernel) ?_) | (refine AsWant.mk ?_) | (refine AsStr.mk ?_)
    | (refine ld (by assumption) rfl ?_)
    | (refine nw (by assumption) fun _ _ _ => ?_)
    | (refine stB (by assumption) rfl rfl fun _ _ => ?_))
    refine Mth.of (f := 231) (rc := ptr bp 0) (by kernel_rfl) (by kernel_rfl) ?_
    refine plainStore_ok hc hs1 hlt' (by simp) fun H1 h => ?_
    rw [← List.map_set] at h
    have hs2 : Sat (MemP m (M.put a x) :: ViewAt p m th n :: R2) H1 := Sat.close (L1 := [_, _, _, _]) (h.ent (by repeat (first | exact Ent.refl _ | exact Ent.none | apply Ent.cons (by repeat (first | exact Pull.here | apply Pull.there)) | refine Ent.drop ?_))) fun g a => ⟨bp, bl, tr, ⟨by rw [put_len]; exact hn1, by rw [put_len]; exact hf⟩, by rw [put_len]; exact a⟩
    refine note_ok (M := M.put a x) (c := accSt 0 a x) (v0 := snil) hc hs2.nil (by repeat (first | exact Pull.here | apply Pull.there)) (by repeat (first | exact Pull.here | apply Pull.there)) (by repeat (first | exact Pull.here | apply Pull.there)) hn ht rfl fun H1 h => ?_
    exact k _ h
  · have hge' : M.cells.length ≤ a := by
      rcases Nat.lt_or_ge a M.cells.length with h | h
      · rw [ltN_t h] at hge; cases hge
      · exact h
    refine note_ok (c := accSt 0 a x) (v0 := snil) hc hs0.nil (by repeat (first | exact Pull.here | apply Pull.there)) (by repeat (first | exact Pull.here | apply Pull.there)) (by repeat (first | exact Pull.here | apply Pull.there)) hn ht rfl fun H1 h => ?_
    refine k _ ?_
    unfold Mem.store
    rw [put_oob hge']
    exact h

theorem plainCas_ok (hc : Con con lives) {L : List HP} {H : CH} {b x c n a y z v : Nat} {f : Value} {cs : List Value} {F : List Value → List HP} {K : KP} (hs : Sat L H) [HasCell L b [slc x 0 n c, f]] [HasObj L x cs F] [HasCell L x cs] (ha : a < n) (hn : n = cs.length) (hv : cs[a]? = some (u64 v))
    (k : v ≠ y → K (.bool false) H) (k2 : v = y → ∀ H1, Sat (F (cs.set a (u64 z))) H1 → K (.bool true) H1) : Call1 Try.prog con 226 [ptr b 0, u64 a, u64 y, u64 z] H K := by
  refine call_of (hc _ _ _ rfl) ?_
  rw [plainCas_W]
  repeat (first
    | (refine AsInt.mk ?_) | (refine AsNat.mk ?_) | (refine AsBool.mk ?_) | (refine AsPtr.mk ?_) | (refine AsSlc.mk ?_) | (refine AsLen.mk ?_) | (refine AsCnt.mk ?_) | (refine AsAgg.mk ?_) | (refine AsTup.mk ?_) | (refine AsFn.mk ?_)
    | (refine NotNil.ptr ?_) | (refine NotNil.ifc ?_) | (refine NotNil.fnc ?_) | (refine IsNil.ptr ?_) | (refine IsNil.ptr0 ?_) | (refine IsNil.slc ?_) | (refine IsNil.slc0 ?_) | (refine IsNil.ifc ?_) | (refine IsNil.ifc0 ?_)
    | (refine Sc.mk rfl ?_) | (refine Same.slc ?_) | (refine Same.ptr ?_) | (refine Same.int ?_) | (refine Same.bool ?_) | (refine Cd.t rfl ?_) | (refine Cd.f rfl ?_) | (refine Cd.t (by decide +kernel) ?_) | (refine Cd.f (by decide +kernel) ?_) | (refine AsWant.mk ?_) | (refine AsStr.mk ?_)
    | (refine ld (by assumption) rfl ?_)
    | (refine nw (by assumption) fun _ _ _ => ?_)
    | (refine stB (by assumption) rfl rfl fun _ _ => ?_))
  refine Must.mk (ltN_t ha) (ld hs (by rw [off1]; exact hv) ?_)
  repeat (first
    | (refine AsInt.mk ?_) | (refine AsNat.mk ?_) | (refine AsBool.mk ?_) | (refine AsPtr.mk ?_) | (refine AsSlc.mk ?_) | (refine AsLen.mk ?_) | (refine AsCnt.mk ?_) | (refine AsAgg.mk ?_) | (refine AsTup.mk ?_) | (refine AsFn.mk ?_)
    | (refine NotNil.ptr ?_) | (refine NotNil.ifc ?_) | (refine NotNil.fnc ?_) | (refine IsNil.ptr ?_) | (refine IsNil.ptr0 ?_) | (refine IsNil.slc ?_) | (refine IsNil.slc0 ?_) | (refine IsNil.ifc ?_) | (refine IsNil.ifc0 ?_)
    | (refine Sc.mk rfl ?_) | (refine Same.slc ?_) | (refine Same.ptr ?_) | (refine Same.int ?_) | (refine Same.bool ?_) | (refine Cd.t rfl ?_) | (refine Cd.f rfl ?_) | (refine Cd.t (by decide +kernel) ?_) | (refine Cd.f (by decide +kernel) ?_) | (refine AsWant.mk ?_) | (refine AsStr.mk ?_)
    | (refine ld (by assumption) rfl ?_)
    | (refine nw (by assumption) fun _ _ _ => ?_)
    | (refine stB (by assumption) rfl rfl fun _ _ => ?_))
  by_cases e : v = y
  · refine Cd.f (by rw [eqN_t e]; rfl) ?_
    repeat (first
    | (refine AsInt.mk ?_) | (refine AsNat.mk ?_) | (refine AsBool.mk ?_) | (refine AsPtr.mk ?_) | (refine AsSlc.mk ?_) | (refine AsLen.mk ?_) | (refine AsCnt.mk ?_) | (refine AsAgg.mk ?_) | (refine AsTup.mk ?_) | (refine AsFn.mk ?_)
    | (refine NotNil.ptr ?_) | (refine NotNil.ifc ?_) | (refine NotNil.fnc ?_) | (refine IsNil.ptr ?_) | (refine IsNil.ptr0 ?_) | (refine IsNil.slc ?_) | (refine IsNil.slc0 ?_) | (refine IsNil.ifc ?_) | (refine IsNil.ifc0 ?_)
    | (refine Sc.mk rfl ?_) | (refine Same.slc ?_) | (refine Same.ptr ?_) | (refine Same.int ?_) | (refine Same.bool ?_) | (refine Cd.t rfl ?_) | (refine Cd.f rfl ?_) | (refine Cd.t (by decide +kernel) ?_) | (refine Cd.f (by decide +kernel) ?_) | (refine AsWant.mk ?_) | (refine AsStr.mk ?_)
    | (refine ld (by assumption) rfl ?_)
    | (refine nw (by assumption) fun _ _ _ => ?_)
    | (refine stB (by assumption) rfl rfl fun _ _ => ?_))
    refine Must.mk (ltN_t ha) (st hs (by rw [off1]; omega) rfl fun H1 h => k2 e H1 ?_)
    rw [off1] at h
    exact h
  · exact Cd.t (by rw [eqN_f e]; rfl) (k e)

theorem viewCas_ok (hc : Con con lives) {L R1 R2 : List HP} {H : CH} {p m n a x y : Nat} {th : Int} {M : Mem} {K : KP} (hs : Sat L H) (hm : Pull L (MemP m M) R1) (hv : Pull R1 (ViewAt p m th n) R2)
    (hn : n < 1000000000) (ht : M.tr.length < 1000000000) (k : ∀ H1, Sat (MemP m (M.cas th a x y) :: ViewAt p m th (n + 1) :: R2) H1 → K (.bool (M.swaps a x)) H1) : Call1 Try.prog con 109 [ptr p 0, u64 a, u64 x, u64 y] H K := by
  refine call_of (hc _ _ _ rfl) ?_
  rw [viewCas_W]
  have hs0 := hs.takes (.cons hm (.cons hv .nil))
  simp only [List.cons_append, List.nil_append] at hs0
  repeat (first
    | (refine AsInt.mk ?_) | (refine AsNat.mk ?_) | (refine AsBool.mk ?_) | (refine AsPtr.mk ?_) | (refine AsSlc.mk ?_) | (refine AsLen.mk ?_) | (refine AsCnt.mk ?_) | (refine AsAgg.mk ?_) | (refine AsTup.mk ?_) | (refine AsFn.mk ?_)
    | (refine NotNil.ptr ?_) | (refine NotNil.ifc ?_) | (refine NotNil.fnc ?_) | (refine IsNil.ptr ?_) | (refine IsNil.ptr0 ?_) | (refine IsNil.slc ?_) | (refine IsNil.slc0 ?_) | (refine IsNil.ifc ?_) | (refine IsNil.ifc0 ?_)
    | (refine Sc.mk rfl ?_) | (refine Same.slc ?_) | (refine Same.ptr ?_) | (refine Same.int ?_) | (refine Same.bool ?_) | (refine Cd.t rfl ?_) | (refine Cd.f rfl ?_) | (refine Cd.t (by decide +kernel) ?_) | (refine Cd.f (by decide +kernel) ?_) | (refine AsWant.mk ?_) | (refine AsStr.mk ?_)
    | (refine ld (by assumption) rfl ?_)
    | (refine nw (by assumption) fun _ _ _ => ?_)
    | (refine stB (by assumption) rfl rfl fun _ _ => ?_))
  refine memHas_ok hc hs0 (by repeat (first | exact Pull.here | apply Pull.there)) ?_
  repeat (first
    | (refine AsInt.mk ?_) | (refine AsNat.mk ?_) | (refine AsBool.mk ?_) | (refine AsPtr.mk ?_) | (refine AsSlc.mk ?_) | (refine AsLen.mk ?_) | (refine AsCnt.mk ?_) | (refine AsAgg.mk ?_) | (refine AsTup.mk ?_) | (refine AsFn.mk ?_)
    | (refine NotNil.ptr ?_) | (refine NotNil.ifc ?_) | (refine NotNil.fnc ?_) | (refine IsNil.ptr ?_) | (refine IsNil.ptr0 ?_) | (refine IsNil.slc ?_) | (refine IsNil.slc0 ?_) | (refine IsNil.ifc ?_) | (refine IsNil.ifc0 ?_)
    | (refine Sc.mk rfl ?_) | (refine Same.slc ?_) | (refine Same.ptr ?_) | (refine Same.int ?_) | (refine Same.bool ?_) | (refine Cd.t rfl ?_) | (refine Cd.f rfl ?_) | (refine Cd.t (by decide +kernel) ?_) | (refine Cd.f (by decide +kernel) ?_) | (refine AsWant.mk ?_) | (refine AsStr.mk ?_)
    | (refine ld (by assumption) rfl ?_)
    | (refine nw (by assumption) fun _ _ _ => ?_)
    | (refine stB (by assumption) rfl rfl fun _ _ => ?_))
  refine Cd.of (fun hlt => ?_) (fun hge => ?_)
  · have hlt' : a < M.cells.length := ltN_iff.1 hlt
    obtain ⟨h1, h2, s1, s2, d, ⟨bp, bl, tr, ⟨hn1, hf⟩, hin⟩, hR⟩ := hs0.opens Pull.here
    have hs1 := Sat.merge s1 s2 d hin hR
    simp only [List.cons_append, List.nil_append] at hs1
    repeat (first
    | (refine AsInt.mk ?_) | (refine AsNat.mk ?_) | (refine AsBool.mk ?_) | (refine AsPtr.mk ?_) | (refine AsSlc.mk ?_) | (refine AsLen.mk ?_) | (refine AsCnt.mk ?_) | (refine AsAgg.mk ?_) | (refine AsTup.mk ?_) | (refine AsFn.mk ?_)
    | (refine NotNil.ptr ?_) | (refine NotNil.ifc ?_) | (refine NotNil.fnc ?_) | (refine IsNil.ptr ?_) | (refine IsNil.ptr0 ?_) | (refine IsNil.slc ?_) | (refine IsNil.slc0 ?_) | (refine IsNil.ifc ?_) | (refine IsNil.ifc0 ?_)
    | (refine Sc.mk rfl ?_) | (refine Same.slc ?_) | (refine Same.ptr ?_) | (refine Same.int ?_) | (refine Same.bool ?_) | (refine Cd.t rfl ?_) | (refine Cd.f rfl ?_) | (refine Cd.t (by decide +kernel) ?_) | (refine Cd.f (by decide +kernel) ?_) | (refine AsWant.mk ?_) | (refine AsStr.mk ?_)
    | (refine ld (by assumption) rfl ?_)
    | (refine nw (by assumption) fun _ _ _ => ?_)
    | (refine stB (by assumption) rfl rfl fun _ _ => ?_))
    refine Mth.of (f := 226) (rc := ptr bp 0) (by kernel_rfl) (by kernel_rfl) ?_
    refine plainCas_ok hc hs1 hlt' (by simp) (map_get _ hlt') (fun hne => ?_) (fun he H1 h => ?_)
    · have e : M.swaps a x = false := by unfold Mem.swaps Mem.peek; rw [decide_eq_false hne, Bool.and_false]
      repeat (first
    | (refine AsInt.mk ?_) | (refine AsNat.mk ?_) | (refine AsBool.mk ?_) | (refine AsPtr.mk ?_) | (refine AsSlc.mk ?_) | (refine AsLen.mk ?_) | (refine AsCnt.mk ?_) | (refine AsAgg.mk ?_) | (refine AsTup.mk ?_) | (refine AsFn.mk ?_)
    | (refine NotNil.ptr ?_) | (refine NotNil.ifc ?_) | (refine NotNil.fnc ?_) | (refine IsNil.ptr ?_) | (refine IsNil.ptr0 ?_) | (refine IsNil.slc ?_) | (refine IsNil.slc0 ?_) | (refine IsNil.ifc ?_) | (refine IsNil.ifc0 ?_)
    | (refine Sc.mk rfl ?_) | (refine Same.slc ?_) | (refine Same.ptr ?_) | (refine Same.int ?_) | (refine Same.bool ?_) | (refine Cd.t rfl ?_) | (refine Cd.f rfl ?_) | (refine Cd.t (by decide +kernel) ?_) | (refine Cd.f (by decide +kernel) ?_) | (refine AsWant.mk ?_) | (refine AsStr.mk ?_)
    | (refine ld (by assumption) rfl ?_)
    | (refine nw (by assumption) fun _ _ _ => ?_)
    | (refine stB (by assumption) rfl rfl fun _ _ => ?_))
      refine note_ok (c := accCas 0 a x y false) (v0 := snil) hc hs0.nil (by repeat (first | exact Pull.here | apply Pull.there)) (by repeat (first | exact Pull.here | apply Pull.there)) (by repeat (first | exact Pull.here | apply Pull.there)) hn ht rfl fun H1 h => ?_
      have e2 : M.cas th a x y = M.note { accCas 0 a x y false with th := th } := by unfold Mem.cas; rw [e]; rfl
      rw [← e2] at h
      rw [← e]
      exact k _ h
    · have e : M.swaps a x = true := by unfold Mem.swaps Mem.peek; rw [decide_eq_true hlt', decide_eq_true he]; rfl
      rw [← List.map_set] at h
      have hs2 : Sat (MemP m (M.put a y) :: ViewAt p m th n :: R2) H1 := Sat.close (L1 := [_, _, _, _]) (h.ent (by repeat (first | exact Ent.refl _ | exact Ent.none | apply Ent.cons (by repeat (first | exact Pull.here | apply Pull.there)) | refine Ent.drop ?_))) fun g a => ⟨bp, bl, tr, ⟨by rw [put_len]; exact hn1, by rw [put_len]; exact hf⟩, by rw [put_len]; exact a⟩
      repeat (first
    | (refine AsInt.mk ?_) | (refine AsNat.mk ?_) | (refine AsBool.mk ?_) | (refine AsPtr.mk ?_) | (refine AsSlc.mk ?_) | (refine AsLen.mk ?_) | (refine AsCnt.mk ?_) | (refine AsAgg.mk ?_) | (refine AsTup.mk ?_) | (refine AsFn.mk ?_)
    | (refine NotNil.ptr ?_) | (refine NotNil.ifc ?_) | (refine NotNil.fnc ?_) | (refine IsNil.ptr ?_) | (refine IsNil.ptr0 ?_) | (refine IsNil.slc ?_) | (refine IsNil.slc0 ?_) | (refine IsNil.ifc ?_) | (refine IsNil.ifc0 ?_)
    | (refine Sc.mk rfl ?_) | (refine Same.slc ?_) | (refine Same.ptr ?_) | (refine Same.int ?_) | (refine Same.bool ?_) | (refine Cd.t rfl ?_) | (refine Cd.f rfl ?_) | (refine Cd.t (by decide +kernel) ?_) | (refine Cd.f (by decide +kernel) ?_) | (refine AsWant.mk ?_) | (refine AsStr.mk ?_)
    | (refine ld (by assumption) rfl ?_)
    | (refine nw (by assumption) fun _ _ _ => ?_)
    | (refine stB (by assumption) rfl rfl fun _ _ => ?_))
      refine note_ok (M := M.put a y) (c := accCas 0 a x y true) (v0 := snil) hc hs2.nil (by repeat (first | exact Pull.here | apply Pull.there)) (by repeat (first | exact Pull.here | apply Pull.there)) (by repeat (first | exact Pull.here | apply Pull.there)) hn ht rfl fun H1 h => ?_
      have e2 : M.cas th a x y = (M.put a y).note { accCas 0 a x y true with th := th } := by unfold Mem.cas; rw [e]; rfl
      rw [← e2] at h
      rw [← e]
      exact k _ h
  · have hge' : M.cells.length ≤ a := by
      rcases Nat.lt_or_ge a M.cells.length with h | h
      · rw [ltN_t h] at hge; cases hge
      · exact h
    have e : M.swaps a x = false := by unfold Mem.swaps; rw [decide_eq_false (by omega)]; rfl
    refine note_ok (c := accCas 0 a x y false) (v0 := snil) hc hs0.nil (by repeat (first | exact Pull.here | apply Pull.there)) (by repeat (first | exact Pull.here | apply Pull.there)) (by repeat (first | exact Pull.here | apply Pull.there)) hn ht rfl fun H1 h => ?_
    have e2 : M.cas th a x y = M.note { accCas 0 a x y false with th := th } := by unfold Mem.cas; rw [e]; rfl
    rw [← e2] at h
    rw [← e]
    exact k _ h

theorem memView_ok (hc : Con con lives) {L : List HP} {H : CH} {m : Nat} {th : Int} {K : KP} (hs : Sat L H) (k : ∀ p H1, Sat (ViewAt p m th 0 :: L) H1 → K (ptr p 0) H1) : Call1 Try.prog con 22 [ptr m 0, i64 th] H K := by
  refine call_of (hc _ _ _ rfl) ?_
  rw [memView_W]
  exact nw hs k

def mem0 (n : Nat) : Mem := { cells := List.replicate n 0, free := 1, tr := [] }

theorem zero_u : (zeroOf Try.prog 22).map cellsF = some [u64 0] := by kernel_rfl
theorem rep_u (n : Nat) : (List.replicate n [u64 0]).flatten = (List.replicate n 0).map u64 := by
  induction n with
  | zero => rfl
  | succ n ih => rw [List.replicate_succ, List.replicate_succ, List.flatten_cons, List.map_cons, ih]; rfl

theorem nilTrace {L : List HP} {H : CH} (hs : Sat L H) : Sat (TrAt snil tA [] :: L) H := hs.nilT

theorem arenaNew_ok (hc : Con con lives) {L : List HP} {H : CH} {n : Nat} {K : KP} (hs : Sat L H) (h1 : 128 ≤ n) (h2 : n ≤ 4194304) (k : ∀ m H1, Sat (MemP m (mem0 n) :: L) H1 → K (.tuple ⟨[ptr m 0, iN 0]⟩) H1) : Call1 Try.prog con 20 [iN n, .bool false] H K := by
  refine call_of (hc _ _ _ rfl) ?_
  rw [arenaNew_W]
  refine Cd.f (ltZ_f (by omega)) ?_
  refine Cd.f (ltZ_f (by omega)) ?_
  repeat (first
    | (refine AsInt.mk ?_) | (refine AsNat.mk ?_) | (refine AsBool.mk ?_) | (refine AsPtr.mk ?_) | (refine AsSlc.mk ?_) | (refine AsLen.mk ?_) | (refine AsCnt.mk ?_) | (refine AsAgg.mk ?_) | (refine AsTup.mk ?_) | (refine AsFn.mk ?_)
    | (refine NotNil.ptr ?_) | (refine NotNil.ifc ?_) | (refine NotNil.fnc ?_) | (refine IsNil.ptr ?_) | (refine IsNil.ptr0 ?_) | (refine IsNil.slc ?_) | (refine IsNil.slc0 ?_) | (refine IsNil.ifc ?_) | (refine IsNil.ifc0 ?_)
    | (refine Sc.mk rfl ?_) | (refine Same.slc ?_) | (refine Same.ptr ?_) | (refine Same.int ?_) | (refine Same.bool ?_) | (refine Cd.t rfl ?_) | (refine Cd.f rfl ?_) | (refine Cd.t (by decide +kernel) ?_) | (refine Cd.f (by decide +kernel) ?_) | (refine AsWant.mk ?_) | (refine AsStr.mk ?_)
    | (refine ld (by assumption) rfl ?_)
    | (refine nw (by assumption) fun _ _ _ => ?_)
    | (refine stB (by assumption) rfl rfl fun _ _ => ?_))
  refine mkS hs el_u64 zero_u (Nat.le_refl n) (by omega) (by omega) fun b H1 h => ?_
  rw [rep_u] at h
  refine Sc.mk rfl ?_
  refine nw h fun bp H2 h2 => nw h2 fun m H3 h3 => ?_
  refine k _ _ (Sat.close (L1 := [Own m [.iface tPl (ptr bp 0), .bool false, snil], Own bp [slc b 0 n n, iN 1], Row b tU 0 true ((List.replicate n 0).map u64), TrAt snil tA []]) (Sat.ent (Sat.nilT (e := tA) h3) (by repeat (first | exact Ent.refl _ | exact Ent.none | apply Ent.cons (by repeat (first | exact Pull.here | apply Pull.there)) | refine Ent.drop ?_))) fun g a => ⟨bp, b, snil, ⟨by simp [mem0]; omega, by simp [mem0]; omega⟩, by simpa only [mem0, List.length_replicate] using a⟩)

theorem refNew_ok (hc : Con con lives) {L : List HP} {H : CH} {n : Nat} {K : KP} (hs : Sat L H) (h1 : 128 ≤ n) (h2 : n ≤ 4194304) (k : ∀ m H1, Sat (RefP m (mem0 n) :: L) H1 → K (.tuple ⟨[ptr m 0, iN 0]⟩) H1) : Call1 Try.prog con 21 [iN n, .bool false] H K := by
  refine call_of (hc _ _ _ rfl) ?_
  rw [refNew_W]
  refine Cd.f (ltZ_f (by omega)) ?_
  refine Cd.f (ltZ_f (by omega)) ?_
  refine mkS hs el_u64 zero_u (Nat.le_refl n) (by omega) (by omega) fun b H1 h => ?_
  rw [rep_u] at h
  refine Sc.mk rfl ?_
  refine nw h fun m H3 h3 => ?_
  refine k _ _ (Sat.close (L1 := [Own m [slc b 0 n n, iN 1, snil, .bool false], Row b tU 0 true ((List.replicate n 0).map u64), TrAt snil tA []]) (Sat.ent (Sat.nilT (e := tA) h3) (by repeat (first | exact Ent.refl _ | exact Ent.none | apply Ent.cons (by repeat (first | exact Pull.here | apply Pull.there)) | refine Ent.drop ?_))) fun g a => ⟨b, snil, ⟨by simp [mem0]; omega, by simp [mem0]; omega⟩, by simpa only [mem0, List.length_replicate] using a⟩)

theorem refPeek_ok (hc : Con con lives) {L R : List HP} {H : CH} {m a : Nat} {M : Mem} {K : KP} (hs : Sat L H) (hp : Pull L (RefP m M) R) (k : K (u64 (M.peek a)) H) : Call1 Try.prog con 126 [ptr m 0, u64 a] H K := by
  refine call_of (hc _ _ _ rfl) ?_
  rw [refPeek_W]
  obtain ⟨h1, h2, s1, s2, d, ⟨bl, tr, ⟨hn, hf⟩, hin⟩, hR⟩ := hs.opens hp
  have hs1 := Sat.merge s1 s2 d hin hR
  simp only [List.cons_append, List.nil_append] at hs1
  repeat (first
    | (refine AsInt.mk ?_) | (refine AsNat.mk ?_) | (refine AsBool.mk ?_) | (refine AsPtr.mk ?_) | (refine AsSlc.mk ?_) | (refine AsLen.mk ?_) | (refine AsCnt.mk ?_) | (refine AsAgg.mk ?_) | (refine AsTup.mk ?_) | (refine AsFn.mk ?_)
    | (refine NotNil.ptr ?_) | (refine NotNil.ifc ?_) | (refine NotNil.fnc ?_) | (refine IsNil.ptr ?_) | (refine IsNil.ptr0 ?_) | (refine IsNil.slc ?_) | (refine IsNil.slc0 ?_) | (refine IsNil.ifc ?_) | (refine IsNil.ifc0 ?_)
    | (refine Sc.mk rfl ?_) | (refine Same.slc ?_) | (refine Same.ptr ?_) | (refine Same.int ?_) | (refine Same.bool ?_) | (refine Cd.t rfl ?_) | (refine Cd.f rfl ?_) | (refine Cd.t (by decide +kernel) ?_) | (refine Cd.f (by decide +kernel) ?_) | (refine AsWant.mk ?_) | (refine AsStr.mk ?_)
    | (refine ld (by assumption) rfl ?_)
    | (refine nw (by assumption) fun _ _ _ => ?_)
    | (refine stB (by assumption) rfl rfl fun _ _ => ?_))
  refine Must.mk (cv_small (by omega)) ?_
  rw [wrapN_small (by omega)]
  by_cases h : a < M.cells.length
  · refine Cd.f (leN_f h) ?_
    repeat (first
    | (refine AsInt.mk ?_) | (refine AsNat.mk ?_) | (refine AsBool.mk ?_) | (refine AsPtr.mk ?_) | (refine AsSlc.mk ?_) | (refine AsLen.mk ?_) | (refine AsCnt.mk ?_) | (refine AsAgg.mk ?_) | (refine AsTup.mk ?_) | (refine AsFn.mk ?_)
    | (refine NotNil.ptr ?_) | (refine NotNil.ifc ?_) | (refine NotNil.fnc ?_) | (refine IsNil.ptr ?_) | (refine IsNil.ptr0 ?_) | (refine IsNil.slc ?_) | (refine IsNil.slc0 ?_) | (refine IsNil.ifc ?_) | (refine IsNil.ifc0 ?_)
    | (refine Sc.mk rfl ?_) | (refine Same.slc ?_) | (refine Same.ptr ?_) | (refine Same.int ?_) | (refine Same.bool ?_) | (refine Cd.t rfl ?_) | (refine Cd.f rfl ?_) | (refine Cd.t (by decide +kernel) ?_) | (refine Cd.f (by decide +kernel) ?_) | (refine AsWant.mk ?_) | (refine AsStr.mk ?_)
    | (refine ld (by assumption) rfl ?_)
    | (refine nw (by assumption) fun _ _ _ => ?_)
    | (refine stB (by assumption) rfl rfl fun _ _ => ?_))
    refine Must.mk (ltN_t h) (ld hs1 (by rw [off1]; exact map_get _ h) k)
  · refine Cd.t (leN_t (by omega)) ?_
    have e : M.peek a = 0 := by unfold Mem.peek; rw [List.getD_eq_getElem?_getD, List.getElem?_eq_none (by omega)]; rfl
    rw [e] at k
    exact k

theorem refSet_ok (hc : Con con lives) {L R : List HP} {H : CH} {m a x : Nat} {M : Mem} {K : KP} (hs : Sat L H) (hp : Pull L (RefP m M) R) (k : ∀ H1, Sat (RefP m (M.put a x) :: R) H1 → K unit H1) : Call1 Try.prog con 85 [ptr m 0, u64 a, u64 x] H K := by
  refine call_of (hc _ _ _ rfl) ?_
  rw [refSet_W]
  obtain ⟨h1, h2, s1, s2, d, ⟨bl, tr, ⟨hn, hf⟩, hin⟩, hR⟩ := hs.opens hp
  have hs1 := Sat.merge s1 s2 d hin hR
  simp only [List.cons_append, List.nil_append] at hs1
  repeat (first
    | (refine AsInt.mk ?_) | (refine AsNat.mk ?_) | (refine AsBool.mk ?_) | (refine AsPtr.mk ?_) | (refine AsSlc.mk ?_) | (refine AsLen.mk ?_) | (refine AsCnt.mk ?_) | (refine AsAgg.mk ?_) | (refine AsTup.mk ?_) | (refine AsFn.mk ?_)
    | (refine NotNil.ptr ?_) | (refine NotNil.ifc ?_) | (refine NotNil.fnc ?_) | (refine IsNil.ptr ?_) | (refine IsNil.ptr0 ?_) | (refine IsNil.slc ?_) | (refine IsNil.slc0 ?_) | (refine IsNil.ifc ?_) | (refine IsNil.ifc0 ?_)
    | (refine Sc.mk rfl ?_) | (refine Same.slc ?_) | (refine Same.ptr ?_) | (refine Same.int ?_) | (refine Same.bool ?_) | (refine Cd.t rfl ?_) | (refine Cd.f rfl ?_) | (refine Cd.t (by decide +kernel) ?_) | (refine Cd.f (by decide +kernel) ?_) | (refine AsWant.mk ?_) | (refine AsStr.mk ?_)
    | (refine ld (by assumption) rfl ?_)
    | (refine nw (by assumption) fun _ _ _ => ?_)
    | (refine stB (by assumption) rfl rfl fun _ _ => ?_))
  refine Must.mk (cv_small (by omega)) ?_
  rw [wrapN_small (by omega)]
  by_cases h : a < M.cells.length
  · refine Cd.t (ltN_t h) ?_
    repeat (first
    | (refine AsInt.mk ?_) | (refine AsNat.mk ?_) | (refine AsBool.mk ?_) | (refine AsPtr.mk ?_) | (refine AsSlc.mk ?_) | (refine AsLen.mk ?_) | (refine AsCnt.mk ?_) | (refine AsAgg.mk ?_) | (refine AsTup.mk ?_) | (refine AsFn.mk ?_)
    | (refine NotNil.ptr ?_) | (refine NotNil.ifc ?_) | (refine NotNil.fnc ?_) | (refine IsNil.ptr ?_) | (refine IsNil.ptr0 ?_) | (refine IsNil.slc ?_) | (refine IsNil.slc0 ?_) | (refine IsNil.ifc ?_) | (refine IsNil.ifc0 ?_)
    | (refine Sc.mk rfl ?_) | (refine Same.slc ?_) | (refine Same.ptr ?_) | (refine Same.int ?_) | (refine Same.bool ?_) | (refine Cd.t rfl ?_) | (refine Cd.f rfl ?_) | (refine Cd.t (by decide +kernel) ?_) | (refine Cd.f (by decide +kernel) ?_) | (refine AsWant.mk ?_) | (refine AsStr.mk ?_)
    | (refine ld (by assumption) rfl ?_)
    | (refine nw (by assumption) fun _ _ _ => ?_)
    | (refine stB (by assumption) rfl rfl fun _ _ => ?_))
    refine Must.mk (ltN_t h) (st hs1 (by rw [off1]; simpa using h) rfl fun H1 h3 => k H1 ?_)
    rw [off1, ← List.map_set] at h3
    exact Sat.close (L1 := [_, _, _]) (h3.ent (by repeat (first | exact Ent.refl _ | exact Ent.none | apply Ent.cons (by repeat (first | exact Pull.here | apply Pull.there)) | refine Ent.drop ?_))) fun g a => ⟨bl, tr, ⟨by rw [put_len]; exact hn, by rw [put_len]; exact hf⟩, by rw [put_len]; exact a⟩
  · refine Cd.f (ltN_f (by omega)) (k H ?_)
    rw [put_oob (by omega)]
    exact hs.pull hp

theorem refNote_ok (hc : Con con lives) {L R2 R3 : List HP} {H : CH} {m : Nat} {M : Mem} {v0 : Value} {c : Acs} {K : KP} (hs : Sat L H) (hm' : Pull L (RefP m M) R2) (hq : Pull R2 (Nums v0 c.vals) R3)
    (ht : M.tr.length < 1000000000) (hv0 : isCell v0 = true) (k : ∀ H1, Sat (RefP m (M.note c) :: R3) H1 → K unit H1) :
    Call1 Try.prog con 86 [ptr m 0, .agg ⟨[i64 c.th, u8 c.kind, u64 c.a, u64 c.x, u64 c.y, v0, u64 c.got, .bool c.ok]⟩] H K := by
  refine call_of (hc _ _ _ rfl) ?_
  rw [refNote_W]
  have hs0 := hs.takes (.cons hm' (.cons hq .nil))
  simp only [List.cons_append, List.nil_append] at hs0
  obtain ⟨h1, h2, s1, s2, d, ⟨bl, tr, ⟨hn1, hf⟩, hin⟩, hR⟩ := hs0.opens Pull.here
  have hs1 := Sat.merge s1 s2 d hin hR
  simp only [List.cons_append, List.nil_append] at hs1
  obtain ⟨g1, g2, t1, t2, d2, hT, _⟩ := hs1.opens (A := TrAt tr tA M.tr) (.there (.there .here))
  obtain ⟨q, rfl⟩ := hT.shape
  repeat (first
    | (refine AsInt.mk ?_) | (refine AsNat.mk ?_) | (refine AsBool.mk ?_) | (refine AsPtr.mk ?_) | (refine AsSlc.mk ?_) | (refine AsLen.mk ?_) | (refine AsCnt.mk ?_) | (refine AsAgg.mk ?_) | (refine AsTup.mk ?_) | (refine AsFn.mk ?_)
    | (refine NotNil.ptr ?_) | (refine NotNil.ifc ?_) | (refine NotNil.fnc ?_) | (refine IsNil.ptr ?_) | (refine IsNil.ptr0 ?_) | (refine IsNil.slc ?_) | (refine IsNil.slc0 ?_) | (refine IsNil.ifc ?_) | (refine IsNil.ifc0 ?_)
    | (refine Sc.mk rfl ?_) | (refine Same.slc ?_) | (refine Same.ptr ?_) | (refine Same.int ?_) | (refine Same.bool ?_) | (refine Cd.t rfl ?_) | (refine Cd.f rfl ?_) | (refine Cd.t (by decide +kernel) ?_) | (refine Cd.f (by decide +kernel) ?_) | (refine AsWant.mk ?_) | (refine AsStr.mk ?_)
    | (refine ld (by assumption) rfl ?_)
    | (refine nw (by assumption) fun _ _ _ => ?_)
    | (refine stB (by assumption) rfl rfl fun _ _ => ?_))
  refine app_trace (c := c) (v0 := v0) (by assumption) (by repeat (first | exact Pull.here | apply Pull.there)) (by repeat (first | exact Pull.here | apply Pull.there)) el_acc (by omega) sl_acc hv0 ht (fun q H1 hs2 => ?_)
  repeat (first
    | (refine AsInt.mk ?_) | (refine AsNat.mk ?_) | (refine AsBool.mk ?_) | (refine AsPtr.mk ?_) | (refine AsSlc.mk ?_) | (refine AsLen.mk ?_) | (refine AsCnt.mk ?_) | (refine AsAgg.mk ?_) | (refine AsTup.mk ?_) | (refine AsFn.mk ?_)
    | (refine NotNil.ptr ?_) | (refine NotNil.ifc ?_) | (refine NotNil.fnc ?_) | (refine IsNil.ptr ?_) | (refine IsNil.ptr0 ?_) | (refine IsNil.slc ?_) | (refine IsNil.slc0 ?_) | (refine IsNil.ifc ?_) | (refine IsNil.ifc0 ?_)
    | (refine Sc.mk rfl ?_) | (refine Same.slc ?_) | (refine Same.ptr ?_) | (refine Same.int ?_) | (refine Same.bool ?_) | (refine Cd.t rfl ?_) | (refine Cd.f rfl ?_) | (refine Cd.t (by decide +kernel) ?_) | (refine Cd.f (by decide +kernel) ?_) | (refine AsWant.mk ?_) | (refine AsStr.mk ?_)
    | (refine ld (by assumption) rfl ?_)
    | (refine nw (by assumption) fun _ _ _ => ?_)
    | (refine stB (by assumption) rfl rfl fun _ _ => ?_))
  refine k _ (Sat.close (L1 := [_, _, _]) (Sat.ent (by assumption) (by repeat (first | exact Ent.refl _ | exact Ent.none | apply Ent.cons (by repeat (first | exact Pull.here | apply Pull.there)) | refine Ent.drop ?_))) fun g a => ⟨bl, _, ⟨hn1, hf⟩, a⟩)

theorem refLoad_ok (hc : Con con lives) {L R1 : List HP} {H : CH} {m a : Nat} {th : Int} {M : Mem} {K : KP} (hs : Sat L H) (hm : Pull L (RefP m M) R1)
    (ht : M.tr.length < 1000000000) (k : ∀ H1, Sat (RefP m (M.load th a) :: R1) H1 → K (u64 (M.peek a)) H1) : Call1 Try.prog con 88 [ptr m 0, i64 th, u64 a] H K := by
  refine call_of (hc _ _ _ rfl) ?_
  rw [refLoad_W]
  have hs0 := hs.pull hm
  refine refPeek_ok hc hs0 (by repeat (first | exact Pull.here | apply Pull.there)) ?_
  repeat (first
    | (refine AsInt.mk ?_) | (refine AsNat.mk ?_) | (refine AsBool.mk ?_) | (refine AsPtr.mk ?_) | (refine AsSlc.mk ?_) | (refine AsLen.mk ?_) | (refine AsCnt.mk ?_) | (refine AsAgg.mk ?_) | (refine AsTup.mk ?_) | (refine AsFn.mk ?_)
    | (refine NotNil.ptr ?_) | (refine NotNil.ifc ?_) | (refine NotNil.fnc ?_) | (refine IsNil.ptr ?_) | (refine IsNil.ptr0 ?_) | (refine IsNil.slc ?_) | (refine IsNil.slc0 ?_) | (refine IsNil.ifc ?_) | (refine IsNil.ifc0 ?_)
    | (refine Sc.mk rfl ?_) | (refine Same.slc ?_) | (refine Same.ptr ?_) | (refine Same.int ?_) | (refine Same.bool ?_) | (refine Cd.t rfl ?_) | (refine Cd.f rfl ?_) | (refine Cd.t (by decide +kernel) ?_) | (refine Cd.f (by decide +kernel) ?_) | (refine AsWant.mk ?_) | (refine AsStr.mk ?_)
    | (refine ld (by assumption) rfl ?_)
    | (refine nw (by assumption) fun _ _ _ => ?_)
    | (refine stB (by assumption) rfl rfl fun _ _ => ?_))
  refine refNote_ok (c := accLd th a (M.peek a)) (v0 := snil) hc hs0.nil (by repeat (first | exact Pull.here | apply Pull.there)) (by repeat (first | exact Pull.here | apply Pull.there)) ht rfl fun H1 h => ?_
  exact k _ h

theorem refStore_ok (hc : Con con lives) {L R1 : List HP} {H : CH} {m a x : Nat} {th : Int} {M : Mem} {K : KP} (hs : Sat L H) (hm : Pull L (RefP m M) R1)
    (ht : M.tr.length < 1000000000) (k : ∀ H1, Sat (RefP m (M.store th a x) :: R1) H1 → K unit H1) : Call1 Try.prog con 24 [ptr m 0, i64 th, u64 a, u64 x] H K := by
  refine call_of (hc _ _ _ rfl) ?_
  rw [refStore_W]
  have hs0 := hs.pull hm
  refine refSet_ok hc hs0 (by repeat (first | exact Pull.here | apply Pull.there)) fun H1 h => ?_
  refine refNote_ok (M := M.put a x) (c := accSt th a x) (v0 := snil) hc h.nil (by repeat (first | exact Pull.here | apply Pull.there)) (by repeat (first | exact Pull.here | apply Pull.there)) ht rfl fun H1 h => ?_
  exact k _ h
end Go.Proofs.Ytipbbnoepphdkaa

namespace Go.Proofs.Ytipbbnoepphdkaa
open Go Go.CM
attribute [local irreducible] AsBool AsWant AsNat AsInt AsCnt AsPtr AsSlc AsLen AsStr AsAgg AsTup AsFn AsIfc Nth Sc NotNil IsNil Must Cd codeW funW Sat SatL wrapN subM mkRow ltZ leZ ltN leN
variable {con : CallT}


theorem cloneN_ok (hc : Con con lives) {L : List HP} {H : CH} {v : Value} {l : List Nat} {K : KP} (hs : Sat L H) (hq : Has L (Nums v l)) (hl : l.length ≤ 1000000000) (k : ∀ v' H1, isCell v' = true → Sat (Nums v' l :: L) H1 → K v' H1) : Call1 Try.prog con 87 [v] H K := by
  refine call_of (hc _ _ _ rfl) ?_
  rw [cloneN_W]
  rcases (hs.has hq).shape with ⟨rfl, rfl⟩ | ⟨b, o, c, rfl⟩
  · repeat (first
    | (refine AsInt.mk ?_) | (refine AsNat.mk ?_) | (refine AsBool.mk ?_) | (refine AsPtr.mk ?_) | (refine AsSlc.mk ?_) | (refine AsLen.mk ?_) | (refine AsCnt.mk ?_) | (refine AsAgg.mk ?_) | (refine AsTup.mk ?_) | (refine AsFn.mk ?_)
    | (refine NotNil.ptr ?_) | (refine NotNil.ifc ?_) | (refine NotNil.fnc ?_) | (refine IsNil.ptr ?_) | (refine IsNil.ptr0 ?_) | (refine IsNil.slc ?_) | (refine IsNil.slc0 ?_) | (refine IsNil.ifc ?_) | (refine IsNil.ifc0 ?_)
    | (refine Sc.mk rfl ?_) | (refine Same.slc ?_) | (refine Same.ptr ?_) | (refine Same.int ?_) | (refine Same.bool ?_) | (refine Cd.t rfl ?_) | (refine Cd.f rfl ?_) | (refine Cd.t (by decide +kernel) ?_) | (refine Cd.f (by decide +kernel) ?_) | (refine AsWant.mk ?_) | (refine AsStr.mk ?_)
    | (refine ld (by assumption) rfl ?_)
    | (refine nw (by assumption) fun _ _ _ => ?_)
    | (refine stB (by assumption) rfl rfl fun _ _ => ?_))
    exact k _ _ rfl hs.nil
  · refine IsNil.slc (Cd.f rfl ?_)
    refine nwR hs fun p H1 h1 => ?_
    rcases Nat.eq_zero_or_pos l.length with h0 | hpos
    · have hl0 : l = [] := List.eq_nil_of_length_eq_zero h0
      subst hl0
      refine app_none h1 el_u64 sl_u64 (Src.skip (hq.src rfl)) ?_
      exact k _ _ rfl (h1.imp fun g r => .inr ⟨p, 0, 0, 22, 0, true, [], rfl, Nat.le_refl _, Nat.le_refl _, rfl, r⟩)
    · refine app_clone (new := l.map fun x => [u64 x]) h1 el_u64 (by omega) sl_u64 (by rw [flat1]; exact hq.src rfl) (by simp) (by simp) hl hpos fun v' H2 h2 => ?_
      have h3 : Sat (Nums v' l :: L) H2 := h2.imp fun g a => a.nums
      refine k _ _ ?_ h3
      obtain ⟨p, c, rfl⟩ := (h3.has Has.nums).len
      rfl

/-- Two accesses that are the same. -/
theorem sameAccess_ok (hc : Con con lives) {L : List HP} {H : CH} {v w : Value} {c : Acs} {K : KP} (hs : Sat L H) (hv : Has L (Nums v c.vals)) (hw : Has L (Nums w c.vals)) (hl : c.vals.length ≤ 1000000000) (k : ∀ H1, Sat L H1 → K (.bool true) H1) :
    Call1 Try.prog con 91 [.agg ⟨encA c v⟩, .agg ⟨encA c w⟩] H K := by
  refine call_of (hc _ _ _ rfl) ?_
  unfold encA
  rw [sameAccess_W]
  obtain ⟨pv, cv, rfl⟩ := (hs.has hv).len
  obtain ⟨pw, cw, rfl⟩ := (hs.has hw).len
  refine nw hs fun p1 H1 h1 => nw h1 fun p3 H2 h2 => ?_
  repeat (first
    | (refine AsInt.mk ?_) | (refine AsNat.mk ?_) | (refine AsBool.mk ?_) | (refine AsPtr.mk ?_) | (refine AsSlc.mk ?_) | (refine AsLen.mk ?_) | (refine AsCnt.mk ?_) | (refine AsAgg.mk ?_) | (refine AsTup.mk ?_) | (refine AsFn.mk ?_)
    | (refine NotNil.ptr ?_) | (refine NotNil.ifc ?_) | (refine NotNil.fnc ?_) | (refine IsNil.ptr ?_) | (refine IsNil.ptr0 ?_) | (refine IsNil.slc ?_) | (refine IsNil.slc0 ?_) | (refine IsNil.ifc ?_) | (refine IsNil.ifc0 ?_)
    | (refine Sc.mk rfl ?_) | (refine Same.slc ?_) | (refine Same.ptr ?_) | (refine Same.int ?_) | (refine Same.bool ?_) | (refine Cd.t rfl ?_) | (refine Cd.f rfl ?_) | (refine Cd.t (by decide +kernel) ?_) | (refine Cd.f (by decide +kernel) ?_) | (refine AsWant.mk ?_) | (refine AsStr.mk ?_)
    | (refine ld (by assumption) rfl ?_)
    | (refine nw (by assumption) fun _ _ _ => ?_)
    | (refine stB (by assumption) rfl rfl fun _ _ => ?_))
  refine Cd.f (by rw [eqZ_self]; rfl) ?_
  repeat (first
    | (refine AsInt.mk ?_) | (refine AsNat.mk ?_) | (refine AsBool.mk ?_) | (refine AsPtr.mk ?_) | (refine AsSlc.mk ?_) | (refine AsLen.mk ?_) | (refine AsCnt.mk ?_) | (refine AsAgg.mk ?_) | (refine AsTup.mk ?_) | (refine AsFn.mk ?_)
    | (refine NotNil.ptr ?_) | (refine NotNil.ifc ?_) | (refine NotNil.fnc ?_) | (refine IsNil.ptr ?_) | (refine IsNil.ptr0 ?_) | (refine IsNil.slc ?_) | (refine IsNil.slc0 ?_) | (refine IsNil.ifc ?_) | (refine IsNil.ifc0 ?_)
    | (refine Sc.mk rfl ?_) | (refine Same.slc ?_) | (refine Same.ptr ?_) | (refine Same.int ?_) | (refine Same.bool ?_) | (refine Cd.t rfl ?_) | (refine Cd.f rfl ?_) | (refine Cd.t (by decide +kernel) ?_) | (refine Cd.f (by decide +kernel) ?_) | (refine AsWant.mk ?_) | (refine AsStr.mk ?_)
    | (refine ld (by assumption) rfl ?_)
    | (refine nw (by assumption) fun _ _ _ => ?_)
    | (refine stB (by assumption) rfl rfl fun _ _ => ?_))
  refine Cd.f (by rw [eqN_self]; rfl) ?_
  repeat (first
    | (refine AsInt.mk ?_) | (refine AsNat.mk ?_) | (refine AsBool.mk ?_) | (refine AsPtr.mk ?_) | (refine AsSlc.mk ?_) | (refine AsLen.mk ?_) | (refine AsCnt.mk ?_) | (refine AsAgg.mk ?_) | (refine AsTup.mk ?_) | (refine AsFn.mk ?_)
    | (refine NotNil.ptr ?_) | (refine NotNil.ifc ?_) | (refine NotNil.fnc ?_) | (refine IsNil.ptr ?_) | (refine IsNil.ptr0 ?_) | (refine IsNil.slc ?_) | (refine IsNil.slc0 ?_) | (refine IsNil.ifc ?_) | (refine IsNil.ifc0 ?_)
    | (refine Sc.mk rfl ?_) | (refine Same.slc ?_) | (refine Same.ptr ?_) | (refine Same.int ?_) | (refine Same.bool ?_) | (refine Cd.t rfl ?_) | (refine Cd.f rfl ?_) | (refine Cd.t (by decide +kernel) ?_) | (refine Cd.f (by decide +kernel) ?_) | (refine AsWant.mk ?_) | (refine AsStr.mk ?_)
    | (refine ld (by assumption) rfl ?_)
    | (refine nw (by assumption) fun _ _ _ => ?_)
    | (refine stB (by assumption) rfl rfl fun _ _ => ?_))
  refine Cd.f (by rw [eqN_self]; rfl) ?_
  repeat (first
    | (refine AsInt.mk ?_) | (refine AsNat.mk ?_) | (refine AsBool.mk ?_) | (refine AsPtr.mk ?_) | (refine AsSlc.mk ?_) | (refine AsLen.mk ?_) | (refine AsCnt.mk ?_) | (refine AsAgg.mk ?_) | (refine AsTup.mk ?_) | (refine AsFn.mk ?_)
    | (refine NotNil.ptr ?_) | (refine NotNil.ifc ?_) | (refine NotNil.fnc ?_) | (refine IsNil.ptr ?_) | (refine IsNil.ptr0 ?_) | (refine IsNil.slc ?_) | (refine IsNil.slc0 ?_) | (refine IsNil.ifc ?_) | (refine IsNil.ifc0 ?_)
    | (refine Sc.mk rfl ?_) | (refine Same.slc ?_) | (refine Same.ptr ?_) | (refine Same.int ?_) | (refine Same.bool ?_) | (refine Cd.t rfl ?_) | (refine Cd.f rfl ?_) | (refine Cd.t (by decide +kernel) ?_) | (refine Cd.f (by decide +kernel) ?_) | (refine AsWant.mk ?_) | (refine AsStr.mk ?_)
    | (refine ld (by assumption) rfl ?_)
    | (refine nw (by assumption) fun _ _ _ => ?_)
    | (refine stB (by assumption) rfl rfl fun _ _ => ?_))
  refine Cd.f (by rw [eqN_self]; rfl) ?_
  repeat (first
    | (refine AsInt.mk ?_) | (refine AsNat.mk ?_) | (refine AsBool.mk ?_) | (refine AsPtr.mk ?_) | (refine AsSlc.mk ?_) | (refine AsLen.mk ?_) | (refine AsCnt.mk ?_) | (refine AsAgg.mk ?_) | (refine AsTup.mk ?_) | (refine AsFn.mk ?_)
    | (refine NotNil.ptr ?_) | (refine NotNil.ifc ?_) | (refine NotNil.fnc ?_) | (refine IsNil.ptr ?_) | (refine IsNil.ptr0 ?_) | (refine IsNil.slc ?_) | (refine IsNil.slc0 ?_) | (refine IsNil.ifc ?_) | (refine IsNil.ifc0 ?_)
    | (refine Sc.mk rfl ?_) | (refine Same.slc ?_) | (refine Same.ptr ?_) | (refine Same.int ?_) | (refine Same.bool ?_) | (refine Cd.t rfl ?_) | (refine Cd.f rfl ?_) | (refine Cd.t (by decide +kernel) ?_) | (refine Cd.f (by decide +kernel) ?_) | (refine AsWant.mk ?_) | (refine AsStr.mk ?_)
    | (refine ld (by assumption) rfl ?_)
    | (refine nw (by assumption) fun _ _ _ => ?_)
    | (refine stB (by assumption) rfl rfl fun _ _ => ?_))
  refine Cd.f (by rw [eqN_self]; rfl) ?_
  repeat (first
    | (refine AsInt.mk ?_) | (refine AsNat.mk ?_) | (refine AsBool.mk ?_) | (refine AsPtr.mk ?_) | (refine AsSlc.mk ?_) | (refine AsLen.mk ?_) | (refine AsCnt.mk ?_) | (refine AsAgg.mk ?_) | (refine AsTup.mk ?_) | (refine AsFn.mk ?_)
    | (refine NotNil.ptr ?_) | (refine NotNil.ifc ?_) | (refine NotNil.fnc ?_) | (refine IsNil.ptr ?_) | (refine IsNil.ptr0 ?_) | (refine IsNil.slc ?_) | (refine IsNil.slc0 ?_) | (refine IsNil.ifc ?_) | (refine IsNil.ifc0 ?_)
    | (refine Sc.mk rfl ?_) | (refine Same.slc ?_) | (refine Same.ptr ?_) | (refine Same.int ?_) | (refine Same.bool ?_) | (refine Cd.t rfl ?_) | (refine Cd.f rfl ?_) | (refine Cd.t (by decide +kernel) ?_) | (refine Cd.f (by decide +kernel) ?_) | (refine AsWant.mk ?_) | (refine AsStr.mk ?_)
    | (refine ld (by assumption) rfl ?_)
    | (refine nw (by assumption) fun _ _ _ => ?_)
    | (refine stB (by assumption) rfl rfl fun _ _ => ?_))
  refine Cd.f (by rw [eqN_self]; rfl) ?_
  repeat (first
    | (refine AsInt.mk ?_) | (refine AsNat.mk ?_) | (refine AsBool.mk ?_) | (refine AsPtr.mk ?_) | (refine AsSlc.mk ?_) | (refine AsLen.mk ?_) | (refine AsCnt.mk ?_) | (refine AsAgg.mk ?_) | (refine AsTup.mk ?_) | (refine AsFn.mk ?_)
    | (refine NotNil.ptr ?_) | (refine NotNil.ifc ?_) | (refine NotNil.fnc ?_) | (refine IsNil.ptr ?_) | (refine IsNil.ptr0 ?_) | (refine IsNil.slc ?_) | (refine IsNil.slc0 ?_) | (refine IsNil.ifc ?_) | (refine IsNil.ifc0 ?_)
    | (refine Sc.mk rfl ?_) | (refine Same.slc ?_) | (refine Same.ptr ?_) | (refine Same.int ?_) | (refine Same.bool ?_) | (refine Cd.t rfl ?_) | (refine Cd.f rfl ?_) | (refine Cd.t (by decide +kernel) ?_) | (refine Cd.f (by decide +kernel) ?_) | (refine AsWant.mk ?_) | (refine AsStr.mk ?_)
    | (refine ld (by assumption) rfl ?_)
    | (refine nw (by assumption) fun _ _ _ => ?_)
    | (refine stB (by assumption) rfl rfl fun _ _ => ?_))
  refine Cd.f (by rw [eqB_self]; rfl) ?_
  repeat (first
    | (refine AsInt.mk ?_) | (refine AsNat.mk ?_) | (refine AsBool.mk ?_) | (refine AsPtr.mk ?_) | (refine AsSlc.mk ?_) | (refine AsLen.mk ?_) | (refine AsCnt.mk ?_) | (refine AsAgg.mk ?_) | (refine AsTup.mk ?_) | (refine AsFn.mk ?_)
    | (refine NotNil.ptr ?_) | (refine NotNil.ifc ?_) | (refine NotNil.fnc ?_) | (refine IsNil.ptr ?_) | (refine IsNil.ptr0 ?_) | (refine IsNil.slc ?_) | (refine IsNil.slc0 ?_) | (refine IsNil.ifc ?_) | (refine IsNil.ifc0 ?_)
    | (refine Sc.mk rfl ?_) | (refine Same.slc ?_) | (refine Same.ptr ?_) | (refine Same.int ?_) | (refine Same.bool ?_) | (refine Cd.t rfl ?_) | (refine Cd.f rfl ?_) | (refine Cd.t (by decide +kernel) ?_) | (refine Cd.f (by decide +kernel) ?_) | (refine AsWant.mk ?_) | (refine AsStr.mk ?_)
    | (refine ld (by assumption) rfl ?_)
    | (refine nw (by assumption) fun _ _ _ => ?_)
    | (refine stB (by assumption) rfl rfl fun _ _ => ?_))
  refine Cd.f (by rw [eqZ_self]; rfl) ?_
  refine LoopC.ind (n := 100) (by kernel_rfl) (fun (i : Nat) σ H => σ 2 = ptr p1 0 ∧ σ 3 = ptr p3 0 ∧ σ 5 = iN i ∧ i ≤ c.vals.length ∧ H = H2) (fun i => c.vals.length - i) (fun i σ H hI => ?_) 0 _ _ ⟨rfl, rfl, rfl, Nat.zero_le _, rfl⟩
  obtain ⟨e2, e3, e5, hi, rfl⟩ := hI
  rw [sameAccessL_W]
  simp only [e2, e3, e5]
  repeat (first
    | (refine AsInt.mk ?_) | (refine AsNat.mk ?_) | (refine AsBool.mk ?_) | (refine AsPtr.mk ?_) | (refine AsSlc.mk ?_) | (refine AsLen.mk ?_) | (refine AsCnt.mk ?_) | (refine AsAgg.mk ?_) | (refine AsTup.mk ?_) | (refine AsFn.mk ?_)
    | (refine NotNil.ptr ?_) | (refine NotNil.ifc ?_) | (refine NotNil.fnc ?_) | (refine IsNil.ptr ?_) | (refine IsNil.ptr0 ?_) | (refine IsNil.slc ?_) | (refine IsNil.slc0 ?_) | (refine IsNil.ifc ?_) | (refine IsNil.ifc0 ?_)
    | (refine Sc.mk rfl ?_) | (refine Same.slc ?_) | (refine Same.ptr ?_) | (refine Same.int ?_) | (refine Same.bool ?_) | (refine Cd.t rfl ?_) | (refine Cd.f rfl ?_) | (refine Cd.t (by decide +kernel) ?_) | (refine Cd.f (by decide +kernel) ?_) | (refine AsWant.mk ?_) | (refine AsStr.mk ?_)
    | (refine ld (by assumption) rfl ?_)
    | (refine nw (by assumption) fun _ _ _ => ?_)
    | (refine stB (by assumption) rfl rfl fun _ _ => ?_))
  rcases Nat.lt_or_ge i c.vals.length with hlt | hge
  · refine Cd.t (ltZ_t (by omega)) ?_
    rcases (hs.has hv).shape with ⟨h3, h4⟩ | ⟨b, o, c', h3⟩
    · rw [h4] at hlt; simp at hlt
    rcases (hs.has hw).shape with ⟨h5, h6⟩ | ⟨b', o', c'', h5⟩
    · rw [h6] at hlt; simp at hlt
    cases h3
    cases h5
    repeat (first
    | (refine AsInt.mk ?_) | (refine AsNat.mk ?_) | (refine AsBool.mk ?_) | (refine AsPtr.mk ?_) | (refine AsSlc.mk ?_) | (refine AsLen.mk ?_) | (refine AsCnt.mk ?_) | (refine AsAgg.mk ?_) | (refine AsTup.mk ?_) | (refine AsFn.mk ?_)
    | (refine NotNil.ptr ?_) | (refine NotNil.ifc ?_) | (refine NotNil.fnc ?_) | (refine IsNil.ptr ?_) | (refine IsNil.ptr0 ?_) | (refine IsNil.slc ?_) | (refine IsNil.slc0 ?_) | (refine IsNil.ifc ?_) | (refine IsNil.ifc0 ?_)
    | (refine Sc.mk rfl ?_) | (refine Same.slc ?_) | (refine Same.ptr ?_) | (refine Same.int ?_) | (refine Same.bool ?_) | (refine Cd.t rfl ?_) | (refine Cd.f rfl ?_) | (refine Cd.t (by decide +kernel) ?_) | (refine Cd.f (by decide +kernel) ?_) | (refine AsWant.mk ?_) | (refine AsStr.mk ?_)
    | (refine ld (by assumption) rfl ?_)
    | (refine nw (by assumption) fun _ _ _ => ?_)
    | (refine stB (by assumption) rfl rfl fun _ _ => ?_))
    refine Must.mk (ltN_t hlt) ?_
    refine ldSrc h2 (Src.skip (Src.skip (hv.src rfl))) (by rw [show Nat.mul i 1 = i from Nat.mul_one i]; rfl) (map_get _ hlt) ?_
    repeat (first
    | (refine AsInt.mk ?_) | (refine AsNat.mk ?_) | (refine AsBool.mk ?_) | (refine AsPtr.mk ?_) | (refine AsSlc.mk ?_) | (refine AsLen.mk ?_) | (refine AsCnt.mk ?_) | (refine AsAgg.mk ?_) | (refine AsTup.mk ?_) | (refine AsFn.mk ?_)
    | (refine NotNil.ptr ?_) | (refine NotNil.ifc ?_) | (refine NotNil.fnc ?_) | (refine IsNil.ptr ?_) | (refine IsNil.ptr0 ?_) | (refine IsNil.slc ?_) | (refine IsNil.slc0 ?_) | (refine IsNil.ifc ?_) | (refine IsNil.ifc0 ?_)
    | (refine Sc.mk rfl ?_) | (refine Same.slc ?_) | (refine Same.ptr ?_) | (refine Same.int ?_) | (refine Same.bool ?_) | (refine Cd.t rfl ?_) | (refine Cd.f rfl ?_) | (refine Cd.t (by decide +kernel) ?_) | (refine Cd.f (by decide +kernel) ?_) | (refine AsWant.mk ?_) | (refine AsStr.mk ?_)
    | (refine ld (by assumption) rfl ?_)
    | (refine nw (by assumption) fun _ _ _ => ?_)
    | (refine stB (by assumption) rfl rfl fun _ _ => ?_))
    refine Must.mk (ltN_t hlt) ?_
    refine ldSrc h2 (Src.skip (Src.skip (hw.src rfl))) (by rw [show Nat.mul i 1 = i from Nat.mul_one i]; rfl) (map_get _ hlt) ?_
    repeat (first
    | (refine AsInt.mk ?_) | (refine AsNat.mk ?_) | (refine AsBool.mk ?_) | (refine AsPtr.mk ?_) | (refine AsSlc.mk ?_) | (refine AsLen.mk ?_) | (refine AsCnt.mk ?_) | (refine AsAgg.mk ?_) | (refine AsTup.mk ?_) | (refine AsFn.mk ?_)
    | (refine NotNil.ptr ?_) | (refine NotNil.ifc ?_) | (refine NotNil.fnc ?_) | (refine IsNil.ptr ?_) | (refine IsNil.ptr0 ?_) | (refine IsNil.slc ?_) | (refine IsNil.slc0 ?_) | (refine IsNil.ifc ?_) | (refine IsNil.ifc0 ?_)
    | (refine Sc.mk rfl ?_) | (refine Same.slc ?_) | (refine Same.ptr ?_) | (refine Same.int ?_) | (refine Same.bool ?_) | (refine Cd.t rfl ?_) | (refine Cd.f rfl ?_) | (refine Cd.t (by decide +kernel) ?_) | (refine Cd.f (by decide +kernel) ?_) | (refine AsWant.mk ?_) | (refine AsStr.mk ?_)
    | (refine ld (by assumption) rfl ?_)
    | (refine nw (by assumption) fun _ _ _ => ?_)
    | (refine stB (by assumption) rfl rfl fun _ _ => ?_))
    refine Cd.f (by rw [eqN_self]; rfl) ?_
    repeat (first
    | (refine AsInt.mk ?_) | (refine AsNat.mk ?_) | (refine AsBool.mk ?_) | (refine AsPtr.mk ?_) | (refine AsSlc.mk ?_) | (refine AsLen.mk ?_) | (refine AsCnt.mk ?_) | (refine AsAgg.mk ?_) | (refine AsTup.mk ?_) | (refine AsFn.mk ?_)
    | (refine NotNil.ptr ?_) | (refine NotNil.ifc ?_) | (refine NotNil.fnc ?_) | (refine IsNil.ptr ?_) | (refine IsNil.ptr0 ?_) | (refine IsNil.slc ?_) | (refine IsNil.slc0 ?_) | (refine IsNil.ifc ?_) | (refine IsNil.ifc0 ?_)
    | (refine Sc.mk rfl ?_) | (refine Same.slc ?_) | (refine Same.ptr ?_) | (refine Same.int ?_) | (refine Same.bool ?_) | (refine Cd.t rfl ?_) | (refine Cd.f rfl ?_) | (refine Cd.t (by decide +kernel) ?_) | (refine Cd.f (by decide +kernel) ?_) | (refine AsWant.mk ?_) | (refine AsStr.mk ?_)
    | (refine ld (by assumption) rfl ?_)
    | (refine nw (by assumption) fun _ _ _ => ?_)
    | (refine stB (by assumption) rfl rfl fun _ _ => ?_))
    refine inR_nat (n := i + 1) (by omega) ?_
    show ∃ y, _ ∧ _
    exact ⟨i + 1, by omega, e2, e3, rfl, hlt, rfl⟩
  · refine Cd.f (ltZ_f (by omega)) ?_
    show Cd _ _ _
    refine Cd.t (eqN_self 0) ?_
    exact k _ h2.drop.drop

/-- Two traces that are the same; they are let go. -/
theorem sameTrace_ok (hc : Con con lives) {L R1 R2 : List HP} {H : CH} {x y : Value} {e e' : Nat} {l : List Acs} {K : KP} (hs : Sat L H) (hp : Pull L (TrAt x e l) R1) (hq : Pull R1 (TrAt y e' l) R2) (hl : l.length ≤ 1000000000) (hvl : ∀ a ∈ l, a.vals.length ≤ 1000000000) (k : ∀ H1, Sat R2 H1 → K (.bool true) H1) :
    Call1 Try.prog con 27 [x, y] H K := by
  refine call_of (hc _ _ _ rfl) ?_
  rw [sameTrace_W]
  have hs0 := hs.takes (.cons hp (.cons hq .nil))
  simp only [List.cons_append, List.nil_append] at hs0
  obtain ⟨h1, h2, s1, s2, d, ⟨vs, hvs, hva⟩, hR⟩ := hs0.opens Pull.here
  have hsa := Sat.merge s1 s2 d hva hR
  have hsb : Sat (TrAt y e' l :: (Vec x e 8 (List.zipWith encA l vs) :: valsL l vs ++ R2)) H := by
    refine hsa.pull ?_
    have pu : ∀ (L1 : List HP), Pull (L1 ++ (TrAt y e' l :: R2)) (TrAt y e' l) (L1 ++ R2) := fun L1 => by
      induction L1 with
      | nil => exact Pull.here
      | cons A L1 ih => exact Pull.there ih
    exact pu _
  obtain ⟨g1, g2, t1, t2, d2, ⟨ws, hws, hb⟩, hR2⟩ := hsb.opens Pull.here
  have hs1 := Sat.merge t1 t2 d2 hb hR2
  have hV : Has (Vec y e' 8 (List.zipWith encA l ws) :: valsL l ws ++ (Vec x e 8 (List.zipWith encA l vs) :: valsL l vs ++ R2)) (Vec x e 8 (List.zipWith encA l vs)) := Has.app Has.vec
  have hW : Has (Vec y e' 8 (List.zipWith encA l ws) :: valsL l ws ++ (Vec x e 8 (List.zipWith encA l vs) :: valsL l vs ++ R2)) (Vec y e' 8 (List.zipWith encA l ws)) := Has.vec
  have hNv : ∀ (i : Nat) (c : Acs) (v : Value), l[i]? = some c → vs[i]? = some v → Has (Vec y e' 8 (List.zipWith encA l ws) :: valsL l ws ++ (Vec x e 8 (List.zipWith encA l vs) :: valsL l vs ++ R2)) (Nums v c.vals) := fun i c v h1 h2 => Has.app (Has.skip (Has.vals h1 h2))
  have hNw : ∀ (i : Nat) (c : Acs) (v : Value), l[i]? = some c → ws[i]? = some v → Has (Vec y e' 8 (List.zipWith encA l ws) :: valsL l ws ++ (Vec x e 8 (List.zipWith encA l vs) :: valsL l vs ++ R2)) (Nums v c.vals) := fun i c v h1 h2 => Has.skip (Has.vals h1 h2)
  have hend : ∀ {H1}, Sat (Vec y e' 8 (List.zipWith encA l ws) :: valsL l ws ++ (Vec x e 8 (List.zipWith encA l vs) :: valsL l vs ++ R2)) H1 → Sat R2 H1 := fun h => by
    have dr : ∀ (L1 : List HP) {R : List HP} {H : CH}, Sat (L1 ++ R) H → Sat R H := fun L1 => by
      induction L1 with
      | nil => exact fun h => h
      | cons A L1 ih => exact fun h => ih (Sat.drop h)
    exact dr _ (dr _ h)
  generalize (Vec y e' 8 (List.zipWith encA l ws) :: valsL l ws ++ (Vec x e 8 (List.zipWith encA l vs) :: valsL l vs ++ R2)) = L' at hs1 hV hW hNv hNw hend
  have lv : (List.zipWith encA l vs).length = l.length := by rw [List.length_zipWith, hvs, Nat.min_self]
  have lw : (List.zipWith encA l ws).length = l.length := by rw [List.length_zipWith, hws, Nat.min_self]
  obtain ⟨px, ex⟩ := (hs1.has hV).shape
  obtain ⟨py, ey⟩ := (hs1.has hW).shape
  rw [lv] at ex
  rw [lw] at ey
  subst ex; subst ey
  repeat (first
    | (refine AsInt.mk ?_) | (refine AsNat.mk ?_) | (refine AsBool.mk ?_) | (refine AsPtr.mk ?_) | (refine AsSlc.mk ?_) | (refine AsLen.mk ?_) | (refine AsCnt.mk ?_) | (refine AsAgg.mk ?_) | (refine AsTup.mk ?_) | (refine AsFn.mk ?_)
    | (refine NotNil.ptr ?_) | (refine NotNil.ifc ?_) | (refine NotNil.fnc ?_) | (refine IsNil.ptr ?_) | (refine IsNil.ptr0 ?_) | (refine IsNil.slc ?_) | (refine IsNil.slc0 ?_) | (refine IsNil.ifc ?_) | (refine IsNil.ifc0 ?_)
    | (refine Sc.mk rfl ?_) | (refine Same.slc ?_) | (refine Same.ptr ?_) | (refine Same.int ?_) | (refine Same.bool ?_) | (refine Cd.t rfl ?_) | (refine Cd.f rfl ?_) | (refine Cd.t (by decide +kernel) ?_) | (refine Cd.f (by decide +kernel) ?_) | (refine AsWant.mk ?_) | (refine AsStr.mk ?_)
    | (refine ld (by assumption) rfl ?_)
    | (refine nw (by assumption) fun _ _ _ => ?_)
    | (refine stB (by assumption) rfl rfl fun _ _ => ?_))
  refine Cd.f (by rw [eqZ_self]; rfl) ?_
  refine LoopC.ind (n := 100) (by kernel_rfl) (fun (i : Nat) σ H => σ 0 = .slice px l.length l.length ∧ σ 1 = .slice py l.length l.length ∧ σ 5 = iN i ∧ i ≤ l.length ∧ Sat L' H) (fun i => l.length - i) (fun i σ H hI => ?_) 0 _ _ ⟨rfl, rfl, rfl, Nat.zero_le _, hs1⟩
  obtain ⟨e0, e1, e5, hi, hs2⟩ := hI
  rw [sameTraceL_W]
  simp only [e0, e1, e5]
  repeat (first
    | (refine AsInt.mk ?_) | (refine AsNat.mk ?_) | (refine AsBool.mk ?_) | (refine AsPtr.mk ?_) | (refine AsSlc.mk ?_) | (refine AsLen.mk ?_) | (refine AsCnt.mk ?_) | (refine AsAgg.mk ?_) | (refine AsTup.mk ?_) | (refine AsFn.mk ?_)
    | (refine NotNil.ptr ?_) | (refine NotNil.ifc ?_) | (refine NotNil.fnc ?_) | (refine IsNil.ptr ?_) | (refine IsNil.ptr0 ?_) | (refine IsNil.slc ?_) | (refine IsNil.slc0 ?_) | (refine IsNil.ifc ?_) | (refine IsNil.ifc0 ?_)
    | (refine Sc.mk rfl ?_) | (refine Same.slc ?_) | (refine Same.ptr ?_) | (refine Same.int ?_) | (refine Same.bool ?_) | (refine Cd.t rfl ?_) | (refine Cd.f rfl ?_) | (refine Cd.t (by decide +kernel) ?_) | (refine Cd.f (by decide +kernel) ?_) | (refine AsWant.mk ?_) | (refine AsStr.mk ?_)
    | (refine ld (by assumption) rfl ?_)
    | (refine nw (by assumption) fun _ _ _ => ?_)
    | (refine stB (by assumption) rfl rfl fun _ _ => ?_))
  rcases Nat.lt_or_ge i l.length with hlt | hge
  · refine Cd.t (ltZ_t (by omega)) ?_
    obtain ⟨a, ha⟩ : ∃ a, l[i]? = some a := ⟨_, List.getElem?_eq_getElem hlt⟩
    obtain ⟨v, hv⟩ : ∃ v, vs[i]? = some v := ⟨_, List.getElem?_eq_getElem (by omega)⟩
    obtain ⟨w, hw⟩ : ∃ w, ws[i]? = some w := ⟨_, List.getElem?_eq_getElem (by omega)⟩
    have hne : l ≠ [] := by rintro rfl; simp at hlt
    have ox : ∃ b, Value.slice px l.length l.length = slc b 0 l.length l.length := by
      rcases (hs2.has hV).2 with ⟨e1, e2⟩ | ⟨b, _, e2, _⟩
      · have e3 : l.length = 0 := by injection e1
        omega
      · rw [lv] at e2; exact ⟨b, e2⟩
    have oy : ∃ b, Value.slice py l.length l.length = slc b 0 l.length l.length := by
      rcases (hs2.has hW).2 with ⟨e1, e2⟩ | ⟨b, _, e2, _⟩
      · have e3 : l.length = 0 := by injection e1
        omega
      · rw [lw] at e2; exact ⟨b, e2⟩
    obtain ⟨bx, ox⟩ := ox
    obtain ⟨by_, oy⟩ := oy
    cases ox
    cases oy
    repeat (first
    | (refine AsInt.mk ?_) | (refine AsNat.mk ?_) | (refine AsBool.mk ?_) | (refine AsPtr.mk ?_) | (refine AsSlc.mk ?_) | (refine AsLen.mk ?_) | (refine AsCnt.mk ?_) | (refine AsAgg.mk ?_) | (refine AsTup.mk ?_) | (refine AsFn.mk ?_)
    | (refine NotNil.ptr ?_) | (refine NotNil.ifc ?_) | (refine NotNil.fnc ?_) | (refine IsNil.ptr ?_) | (refine IsNil.ptr0 ?_) | (refine IsNil.slc ?_) | (refine IsNil.slc0 ?_) | (refine IsNil.ifc ?_) | (refine IsNil.ifc0 ?_)
    | (refine Sc.mk rfl ?_) | (refine Same.slc ?_) | (refine Same.ptr ?_) | (refine Same.int ?_) | (refine Same.bool ?_) | (refine Cd.t rfl ?_) | (refine Cd.f rfl ?_) | (refine Cd.t (by decide +kernel) ?_) | (refine Cd.f (by decide +kernel) ?_) | (refine AsWant.mk ?_) | (refine AsStr.mk ?_)
    | (refine ld (by assumption) rfl ?_)
    | (refine nw (by assumption) fun _ _ _ => ?_)
    | (refine stB (by assumption) rfl rfl fun _ _ => ?_))
    refine Must.mk (ltN_t hlt) ?_
    refine ldTr hs2 hV rfl ha hv (j := 0) (by simp) (by omega) rfl ?_
    refine ldTr hs2 hV rfl ha hv (j := 1) (by simp) (by omega) rfl ?_
    refine ldTr hs2 hV rfl ha hv (j := 2) (by simp) (by omega) rfl ?_
    refine ldTr hs2 hV rfl ha hv (j := 3) (by simp) (by omega) rfl ?_
    refine ldTr hs2 hV rfl ha hv (j := 4) (by simp) (by omega) rfl ?_
    refine ldTr hs2 hV rfl ha hv (j := 5) (by simp) (by omega) rfl ?_
    refine ldTr hs2 hV rfl ha hv (j := 6) (by simp) (by omega) rfl ?_
    refine ldTr hs2 hV rfl ha hv (j := 7) (by simp) (by omega) rfl ?_
    repeat (first
    | (refine AsInt.mk ?_) | (refine AsNat.mk ?_) | (refine AsBool.mk ?_) | (refine AsPtr.mk ?_) | (refine AsSlc.mk ?_) | (refine AsLen.mk ?_) | (refine AsCnt.mk ?_) | (refine AsAgg.mk ?_) | (refine AsTup.mk ?_) | (refine AsFn.mk ?_)
    | (refine NotNil.ptr ?_) | (refine NotNil.ifc ?_) | (refine NotNil.fnc ?_) | (refine IsNil.ptr ?_) | (refine IsNil.ptr0 ?_) | (refine IsNil.slc ?_) | (refine IsNil.slc0 ?_) | (refine IsNil.ifc ?_) | (refine IsNil.ifc0 ?_)
    | (refine Sc.mk rfl ?_) | (refine Same.slc ?_) | (refine Same.ptr ?_) | (refine Same.int ?_) | (refine Same.bool ?_) | (refine Cd.t rfl ?_) | (refine Cd.f rfl ?_) | (refine Cd.t (by decide +kernel) ?_) | (refine Cd.f (by decide +kernel) ?_) | (refine AsWant.mk ?_) | (refine AsStr.mk ?_)
    | (refine ld (by assumption) rfl ?_)
    | (refine nw (by assumption) fun _ _ _ => ?_)
    | (refine stB (by assumption) rfl rfl fun _ _ => ?_))
    refine Must.mk (ltN_t hlt) ?_
    refine ldTr hs2 hW rfl ha hw (j := 0) (by simp) (by omega) rfl ?_
    refine ldTr hs2 hW rfl ha hw (j := 1) (by simp) (by omega) rfl ?_
    refine ldTr hs2 hW rfl ha hw (j := 2) (by simp) (by omega) rfl ?_
    refine ldTr hs2 hW rfl ha hw (j := 3) (by simp) (by omega) rfl ?_
    refine ldTr hs2 hW rfl ha hw (j := 4) (by simp) (by omega) rfl ?_
    refine ldTr hs2 hW rfl ha hw (j := 5) (by simp) (by omega) rfl ?_
    refine ldTr hs2 hW rfl ha hw (j := 6) (by simp) (by omega) rfl ?_
    refine ldTr hs2 hW rfl ha hw (j := 7) (by simp) (by omega) rfl ?_
    refine sameAccess_ok (c := a) hc hs2 (hNv i a v ha hv) (hNw i a w ha hw) (hvl a (List.mem_of_getElem? ha)) fun H3 h3 => ?_
    repeat (first
    | (refine AsInt.mk ?_) | (refine AsNat.mk ?_) | (refine AsBool.mk ?_) | (refine AsPtr.mk ?_) | (refine AsSlc.mk ?_) | (refine AsLen.mk ?_) | (refine AsCnt.mk ?_) | (refine AsAgg.mk ?_) | (refine AsTup.mk ?_) | (refine AsFn.mk ?_)
    | (refine NotNil.ptr ?_) | (refine NotNil.ifc ?_) | (refine NotNil.fnc ?_) | (refine IsNil.ptr ?_) | (refine IsNil.ptr0 ?_) | (refine IsNil.slc ?_) | (refine IsNil.slc0 ?_) | (refine IsNil.ifc ?_) | (refine IsNil.ifc0 ?_)
    | (refine Sc.mk rfl ?_) | (refine Same.slc ?_) | (refine Same.ptr ?_) | (refine Same.int ?_) | (refine Same.bool ?_) | (refine Cd.t rfl ?_) | (refine Cd.f rfl ?_) | (refine Cd.t (by decide +kernel) ?_) | (refine Cd.f (by decide +kernel) ?_) | (refine AsWant.mk ?_) | (refine AsStr.mk ?_)
    | (refine ld (by assumption) rfl ?_)
    | (refine nw (by assumption) fun _ _ _ => ?_)
    | (refine stB (by assumption) rfl rfl fun _ _ => ?_))
    refine inR_nat (n := i + 1) (by omega) ?_
    show ∃ y, _ ∧ _
    exact ⟨i + 1, by omega, e0, e1, rfl, hlt, h3⟩
  · refine Cd.f (ltZ_f (by omega)) ?_
    show Cd _ _ _
    refine Cd.t (eqN_self 0) ?_
    exact k _ (hend hs2)

theorem cloneA_ok (hc : Con con lives) {L : List HP} {H : CH} {v : Value} {e : Nat} {l : List (List Value)} {K : KP} (hs : Sat L H) (hq : Has L (Vec v e 8 l)) (hl : l.length ≤ 1000000000) (k : ∀ v' H1, Sat (Vec v' 87 8 l :: L) H1 → K v' H1) : Call1 Try.prog con 92 [v] H K := by
  refine call_of (hc _ _ _ rfl) ?_
  rw [cloneA_W]
  rcases (hs.has hq) with ⟨h8, ⟨rfl, rfl⟩ | ⟨b, h1, rfl, h3⟩⟩
  · repeat (first
    | (refine AsInt.mk ?_) | (refine AsNat.mk ?_) | (refine AsBool.mk ?_) | (refine AsPtr.mk ?_) | (refine AsSlc.mk ?_) | (refine AsLen.mk ?_) | (refine AsCnt.mk ?_) | (refine AsAgg.mk ?_) | (refine AsTup.mk ?_) | (refine AsFn.mk ?_)
    | (refine NotNil.ptr ?_) | (refine NotNil.ifc ?_) | (refine NotNil.fnc ?_) | (refine IsNil.ptr ?_) | (refine IsNil.ptr0 ?_) | (refine IsNil.slc ?_) | (refine IsNil.slc0 ?_) | (refine IsNil.ifc ?_) | (refine IsNil.ifc0 ?_)
    | (refine Sc.mk rfl ?_) | (refine Same.slc ?_) | (refine Same.ptr ?_) | (refine Same.int ?_) | (refine Same.bool ?_) | (refine Cd.t rfl ?_) | (refine Cd.f rfl ?_) | (refine Cd.t (by decide +kernel) ?_) | (refine Cd.f (by decide +kernel) ?_) | (refine AsWant.mk ?_) | (refine AsStr.mk ?_)
    | (refine ld (by assumption) rfl ?_)
    | (refine nw (by assumption) fun _ _ _ => ?_)
    | (refine stB (by assumption) rfl rfl fun _ _ => ?_))
    exact k _ _ (hs.nilV)
  · refine IsNil.slc (Cd.f rfl ?_)
    refine nwR hs fun p H1 h1 => ?_
    have hpos : 0 < l.length := by cases l with | nil => contradiction | cons _ _ => simp
    exact app_clone (new := l) h1 el_acc (by omega) sl_acc (hq.vecSrc rfl) rfl h8 hl hpos k

/-- A trace is told: a row of its own. -/
theorem memTrace_ok (hc : Con con lives) {L R : List HP} {H : CH} {m : Nat} {M : Mem} {K : KP} (hs : Sat L H) (hp : Pull L (MemP m M) R) (hl : M.tr.length ≤ 1000000000) (hvl : ∀ a ∈ M.tr, a.vals.length ≤ 1000000000)
    (k : ∀ x H1, Sat (TrAt x 87 M.tr :: R) H1 → K x H1) : Call1 Try.prog con 28 [ptr m 0] H K := by
  refine call_of (hc _ _ _ rfl) ?_
  rw [memTrace_W]
  obtain ⟨h1, h2, s1, s2, d, ⟨bp, bl, tr, ⟨hn, hf⟩, hin⟩, hR⟩ := hs.opens hp
  have hs1 := Sat.merge s1 s2 d hin hR
  simp only [List.cons_append, List.nil_append] at hs1
  have hs2 : Sat (TrAt tr tA M.tr :: Own m [.iface tPl (ptr bp 0), .bool false, tr] :: R) H := hs1.ent (by repeat (first | exact Ent.refl _ | exact Ent.none | apply Ent.cons (by repeat (first | exact Pull.here | apply Pull.there)) | refine Ent.drop ?_))
  obtain ⟨g1, g2, t1, t2, d2, ⟨vs, hvs, hva⟩, hR2⟩ := hs2.opens Pull.here
  have hs3 := Sat.merge t1 t2 d2 hva hR2
  have hV : Has (Vec tr tA 8 (List.zipWith encA M.tr vs) :: valsL M.tr vs ++ (Own m [.iface tPl (ptr bp 0), .bool false, tr] :: R)) (Vec tr tA 8 (List.zipWith encA M.tr vs)) := Has.vec
  have hN : ∀ (i : Nat) (c : Acs) (v : Value), M.tr[i]? = some c → vs[i]? = some v → Has (Vec tr tA 8 (List.zipWith encA M.tr vs) :: valsL M.tr vs ++ (Own m [.iface tPl (ptr bp 0), .bool false, tr] :: R)) (Nums v c.vals) := fun i c v h1 h2 => Has.skip (Has.vals h1 h2)
  have hC : HasCell (Vec tr tA 8 (List.zipWith encA M.tr vs) :: valsL M.tr vs ++ (Own m [.iface tPl (ptr bp 0), .bool false, tr] :: R)) m [.iface tPl (ptr bp 0), .bool false, tr] := by
    have dr : ∀ (L1 : List HP), HasCell (L1 ++ (Own m [.iface tPl (ptr bp 0), .bool false, tr] :: R)) m [.iface tPl (ptr bp 0), .bool false, tr] := fun L1 => by
      induction L1 with
      | nil => exact HasCell.obj
      | cons A L1 ih => exact @HasCell.skip A m _ _ ih
    exact dr _
  have hend : ∀ {H1} {A : List HP}, Sat (A ++ (Vec tr tA 8 (List.zipWith encA M.tr vs) :: valsL M.tr vs ++ (Own m [.iface tPl (ptr bp 0), .bool false, tr] :: R))) H1 → Sat (A ++ R) H1 := fun {H1} {A} h => by
    have dr : ∀ (L1 : List HP) {R : List HP} {h : PH}, SatL (L1 ++ R) h → SatL R h := fun L1 => by
      induction L1 with
      | nil => exact fun h => h
      | cons A L1 ih => exact fun h => ih (SatL.drop h)
    have un : ∀ (A : List HP) {L R : List HP} {h : PH}, (∀ h, SatL L h → SatL R h) → SatL (A ++ L) h → SatL (A ++ R) h := fun A => by
      induction A with
      | nil => exact fun f a => f _ a
      | cons B A ih => exact fun f a => SatL.under (fun g => ih f) a
    exact Sat.mk (un A (fun h a => SatL.drop (dr _ a)) (Sat.out h))
  generalize (Vec tr tA 8 (List.zipWith encA M.tr vs) :: valsL M.tr vs ++ (Own m [.iface tPl (ptr bp 0), .bool false, tr] :: R)) = L' at hs3 hV hN hC hend
  refine ld hs3 rfl ?_
  have lv : (List.zipWith encA M.tr vs).length = M.tr.length := by rw [List.length_zipWith, hvs, Nat.min_self]
  refine cloneA_ok hc hs3 hV (by rw [lv]; exact hl) fun x H1 h1 => ?_
  obtain ⟨px, ex⟩ := (h1.has Has.vec).shape
  rw [lv] at ex
  subst ex
  repeat (first
    | (refine AsInt.mk ?_) | (refine AsNat.mk ?_) | (refine AsBool.mk ?_) | (refine AsPtr.mk ?_) | (refine AsSlc.mk ?_) | (refine AsLen.mk ?_) | (refine AsCnt.mk ?_) | (refine AsAgg.mk ?_) | (refine AsTup.mk ?_) | (refine AsFn.mk ?_)
    | (refine NotNil.ptr ?_) | (refine NotNil.ifc ?_) | (refine NotNil.fnc ?_) | (refine IsNil.ptr ?_) | (refine IsNil.ptr0 ?_) | (refine IsNil.slc ?_) | (refine IsNil.slc0 ?_) | (refine IsNil.ifc ?_) | (refine IsNil.ifc0 ?_)
    | (refine Sc.mk rfl ?_) | (refine Same.slc ?_) | (refine Same.ptr ?_) | (refine Same.int ?_) | (refine Same.bool ?_) | (refine Cd.t rfl ?_) | (refine Cd.f rfl ?_) | (refine Cd.t (by decide +kernel) ?_) | (refine Cd.f (by decide +kernel) ?_) | (refine AsWant.mk ?_) | (refine AsStr.mk ?_)
    | (refine ld (by assumption) rfl ?_)
    | (refine nw (by assumption) fun _ _ _ => ?_)
    | (refine stB (by assumption) rfl rfl fun _ _ => ?_))
  refine LoopC.ind (n := 100) (by kernel_rfl) (fun (i : Nat) σ H => σ 3 = .slice px M.tr.length M.tr.length ∧ σ 13 = iN M.tr.length ∧ σ 14 = iN i ∧ i ≤ M.tr.length ∧ ∃ ws : List Value, ws.length = M.tr.length ∧ (∀ j, i ≤ j → ws[j]? = vs[j]?) ∧ Sat (Vec (.slice px M.tr.length M.tr.length) 87 8 (List.zipWith encA M.tr ws) :: (valsL (M.tr.take i) (ws.take i) ++ L')) H)
    (fun i => M.tr.length - i) (fun i σ H hI => ?_) 0 _ _ ⟨rfl, rfl, rfl, Nat.zero_le _, vs, hvs, fun _ _ => rfl, by rw [List.take_zero]; exact h1⟩
  obtain ⟨e3, e13, e14, hi, ws, hws, hwv, hs4⟩ := hI
  rw [memTraceL_W]
  simp only [e3, e13, e14]
  repeat (first
    | (refine AsInt.mk ?_) | (refine AsNat.mk ?_) | (refine AsBool.mk ?_) | (refine AsPtr.mk ?_) | (refine AsSlc.mk ?_) | (refine AsLen.mk ?_) | (refine AsCnt.mk ?_) | (refine AsAgg.mk ?_) | (refine AsTup.mk ?_) | (refine AsFn.mk ?_)
    | (refine NotNil.ptr ?_) | (refine NotNil.ifc ?_) | (refine NotNil.fnc ?_) | (refine IsNil.ptr ?_) | (refine IsNil.ptr0 ?_) | (refine IsNil.slc ?_) | (refine IsNil.slc0 ?_) | (refine IsNil.ifc ?_) | (refine IsNil.ifc0 ?_)
    | (refine Sc.mk rfl ?_) | (refine Same.slc ?_) | (refine Same.ptr ?_) | (refine Same.int ?_) | (refine Same.bool ?_) | (refine Cd.t rfl ?_) | (refine Cd.f rfl ?_) | (refine Cd.t (by decide +kernel) ?_) | (refine Cd.f (by decide +kernel) ?_) | (refine AsWant.mk ?_) | (refine AsStr.mk ?_)
    | (refine ld (by assumption) rfl ?_)
    | (refine nw (by assumption) fun _ _ _ => ?_)
    | (refine stB (by assumption) rfl rfl fun _ _ => ?_))
  have lw : ∀ us : List Value, us.length = M.tr.length → (List.zipWith encA M.tr us).length = M.tr.length := fun us h => by rw [List.length_zipWith, h, Nat.min_self]
  rcases Nat.lt_or_ge i M.tr.length with hlt | hge
  · refine Cd.t (ltZ_t (by omega)) ?_
    obtain ⟨a, ha⟩ : ∃ a, M.tr[i]? = some a := ⟨_, List.getElem?_eq_getElem hlt⟩
    obtain ⟨v, hv⟩ : ∃ v, vs[i]? = some v := ⟨_, List.getElem?_eq_getElem (by omega)⟩
    have hw : ws[i]? = some v := (hwv i (Nat.le_refl _)).trans hv
    obtain ⟨f1, f2, u1, u2, d4, ⟨q1, ⟨q2, q3⟩ | ⟨b, q2, q3, q4⟩⟩, q5⟩ := hs4.opens Pull.here
    · have e3 : M.tr.length = 0 := by injection q2
      omega
    rw [lw ws hws] at q3
    cases q3
    have hs5 : Sat (Row b 87 8 true (List.zipWith encA M.tr ws).flatten :: (valsL (M.tr.take i) (ws.take i) ++ L')) H := Sat.merge (L1 := [_]) u1 u2 d4 (SatL.one q4) q5
    repeat (first
    | (refine AsInt.mk ?_) | (refine AsNat.mk ?_) | (refine AsBool.mk ?_) | (refine AsPtr.mk ?_) | (refine AsSlc.mk ?_) | (refine AsLen.mk ?_) | (refine AsCnt.mk ?_) | (refine AsAgg.mk ?_) | (refine AsTup.mk ?_) | (refine AsFn.mk ?_)
    | (refine NotNil.ptr ?_) | (refine NotNil.ifc ?_) | (refine NotNil.fnc ?_) | (refine IsNil.ptr ?_) | (refine IsNil.ptr0 ?_) | (refine IsNil.slc ?_) | (refine IsNil.slc0 ?_) | (refine IsNil.ifc ?_) | (refine IsNil.ifc0 ?_)
    | (refine Sc.mk rfl ?_) | (refine Same.slc ?_) | (refine Same.ptr ?_) | (refine Same.int ?_) | (refine Same.bool ?_) | (refine Cd.t rfl ?_) | (refine Cd.f rfl ?_) | (refine Cd.t (by decide +kernel) ?_) | (refine Cd.f (by decide +kernel) ?_) | (refine AsWant.mk ?_) | (refine AsStr.mk ?_)
    | (refine ld (by assumption) rfl ?_)
    | (refine nw (by assumption) fun _ _ _ => ?_)
    | (refine stB (by assumption) rfl rfl fun _ _ => ?_))
    refine Must.mk (ltN_t hlt) ?_
    refine ldTr hs4 Has.vec rfl ha hw (j := 5) (by simp) (by omega) rfl ?_
    refine cloneN_ok hc hs5 (Has.skip (Has.app (hN i a v ha hv))) (hvl a (List.mem_of_getElem? ha)) fun v' H6 hv' h6 => ?_
    repeat (first
    | (refine AsInt.mk ?_) | (refine AsNat.mk ?_) | (refine AsBool.mk ?_) | (refine AsPtr.mk ?_) | (refine AsSlc.mk ?_) | (refine AsLen.mk ?_) | (refine AsCnt.mk ?_) | (refine AsAgg.mk ?_) | (refine AsTup.mk ?_) | (refine AsFn.mk ?_)
    | (refine NotNil.ptr ?_) | (refine NotNil.ifc ?_) | (refine NotNil.fnc ?_) | (refine IsNil.ptr ?_) | (refine IsNil.ptr0 ?_) | (refine IsNil.slc ?_) | (refine IsNil.slc0 ?_) | (refine IsNil.ifc ?_) | (refine IsNil.ifc0 ?_)
    | (refine Sc.mk rfl ?_) | (refine Same.slc ?_) | (refine Same.ptr ?_) | (refine Same.int ?_) | (refine Same.bool ?_) | (refine Cd.t rfl ?_) | (refine Cd.f rfl ?_) | (refine Cd.t (by decide +kernel) ?_) | (refine Cd.f (by decide +kernel) ?_) | (refine AsWant.mk ?_) | (refine AsStr.mk ?_)
    | (refine ld (by assumption) rfl ?_)
    | (refine nw (by assumption) fun _ _ _ => ?_)
    | (refine stB (by assumption) rfl rfl fun _ _ => ?_))
    refine Must.mk (ltN_t hlt) (Sc.mk hv' ?_)
    refine st h6 (by rw [flat_len (zip_len _ _), lw ws hws]; show 0 + i * 8 + 5 < M.tr.length * 8; omega) hv' fun H7 h7 => ?_
    rw [show Nat.add (Nat.add 0 (Nat.mul i 8)) 5 = i * 8 + 5 from by show 0 + i * 8 + 5 = _; omega, flat_set (zip_len _ _) i 5 _ v' (zip_get ha hw) (by omega)] at h7
    have e1 : (List.zipWith encA M.tr ws).set i ((encA a v).set 5 v') = List.zipWith encA M.tr (ws.set i v') := by
      apply List.ext_getElem?
      intro j
      rw [List.getElem?_set, List.getElem?_zipWith, List.getElem?_zipWith, List.getElem?_set]
      by_cases hj : i = j
      · subst hj
        rw [if_pos rfl, if_pos rfl, if_pos (by rw [lw ws hws]; exact hlt), if_pos (by omega), ha]
        rfl
      · rw [if_neg hj, if_neg hj]
    rw [e1] at h7
    repeat (first
    | (refine AsInt.mk ?_) | (refine AsNat.mk ?_) | (refine AsBool.mk ?_) | (refine AsPtr.mk ?_) | (refine AsSlc.mk ?_) | (refine AsLen.mk ?_) | (refine AsCnt.mk ?_) | (refine AsAgg.mk ?_) | (refine AsTup.mk ?_) | (refine AsFn.mk ?_)
    | (refine NotNil.ptr ?_) | (refine NotNil.ifc ?_) | (refine NotNil.fnc ?_) | (refine IsNil.ptr ?_) | (refine IsNil.ptr0 ?_) | (refine IsNil.slc ?_) | (refine IsNil.slc0 ?_) | (refine IsNil.ifc ?_) | (refine IsNil.ifc0 ?_)
    | (refine Sc.mk rfl ?_) | (refine Same.slc ?_) | (refine Same.ptr ?_) | (refine Same.int ?_) | (refine Same.bool ?_) | (refine Cd.t rfl ?_) | (refine Cd.f rfl ?_) | (refine Cd.t (by decide +kernel) ?_) | (refine Cd.f (by decide +kernel) ?_) | (refine AsWant.mk ?_) | (refine AsStr.mk ?_)
    | (refine ld (by assumption) rfl ?_)
    | (refine nw (by assumption) fun _ _ _ => ?_)
    | (refine stB (by assumption) rfl rfl fun _ _ => ?_))
    refine inR_nat (n := i + 1) (by omega) ?_
    show ∃ y, _ ∧ _
    refine ⟨i + 1, by omega, e3, e13, rfl, hlt, ws.set i v', by simp [hws], fun j hj => ?_, ?_⟩
    · rw [List.getElem?_set, if_neg (by omega)]; exact hwv j (by omega)
    · have h8 : Sat (Vec (slc b 0 M.tr.length M.tr.length) 87 8 (List.zipWith encA M.tr (ws.set i v')) :: Nums v' a.vals :: (valsL (M.tr.take i) (ws.take i) ++ L')) H7 := (h7.ent (by repeat (first | exact Ent.refl _ | apply Ent.cons (by repeat (first | exact Pull.here | apply Pull.there)) | refine Ent.drop ?_))).imp fun g r => ⟨zip_len _ _, .inr ⟨b, by
          intro h0; have := lw (ws.set i v') (by simp [hws]); rw [h0] at this; simp at this; omega, by rw [lw _ (by simp [hws])], r⟩⟩
      have e2 : valsL (M.tr.take (i + 1)) ((ws.set i v').take (i + 1)) = valsL (M.tr.take i) (ws.take i) ++ [Nums v' a.vals] := by
        have t1 : M.tr.take (i + 1) = M.tr.take i ++ [a] := by rw [List.take_add_one, ha]; rfl
        have t2 : (ws.set i v').take (i + 1) = ws.take i ++ [v'] := by
          rw [List.take_add_one, List.getElem?_set, if_pos rfl, if_pos (by omega), List.take_set_of_le (Nat.le_refl _)]; rfl
        rw [t1, t2]
        exact zip_snoc _ (by simp; omega) a v'
      rw [e2, List.append_assoc]
      refine h8.ent ?_
      refine Ent.cons Pull.here ?_
      have mv : ∀ (L1 : List HP) {A : HP} {R : List HP}, Ent (A :: (L1 ++ R)) (L1 ++ ([A] ++ R)) := fun L1 => by
        induction L1 with
        | nil => exact fun {A R} => Ent.refl _
        | cons B L1 ih => exact fun {A R} => Ent.cons (Pull.there Pull.here) ih
      exact mv _
  · refine Cd.f (ltZ_f (by omega)) ?_
    show Cd _ _ _
    refine Cd.t (eqN_self 0) ?_
    have hie : i = M.tr.length := by omega
    subst hie
    rw [List.take_length, List.take_of_length_le (by omega)] at hs4
    have h9 : Sat ((Vec (.slice px M.tr.length M.tr.length) 87 8 (List.zipWith encA M.tr ws) :: valsL M.tr ws) ++ R) H := hend hs4
    have e : (upd σ 15 (.bool (ltZ (Int.ofNat M.tr.length) (Int.ofNat M.tr.length)))) 3 = .slice px M.tr.length M.tr.length := e3
    show K ((upd σ 15 _) 3) H
    rw [e]
    exact k _ _ (h9.close fun g a => ⟨ws, hws, a⟩)
end Go.Proofs.Ytipbbnoepphdkaa

namespace Go.Proofs.Ytipbbnoepphdkaa
open Go Go.CM
attribute [local irreducible] AsBool AsWant AsNat AsInt AsCnt AsPtr AsSlc AsLen AsStr AsAgg AsTup AsFn AsIfc Nth Sc NotNil IsNil Must Cd codeW funW Sat SatL wrapN subM mkRow ltZ leZ ltN leN
variable {con : CallT}

/-! ### what is needed -/
def asksB (a b t : Nat) : Bool := decide (a ≤ t) && decide (t < b)
def needed (fl : Nat) (st : List Nat) (a b : Nat) : Bool := if b ≤ a then false else if fl < b then true else st.any (asksB a b)

theorem any_take_succ (p : Nat → Bool) {l : List Nat} {i : Nat} (h : i < l.length) : (l.take (i + 1)).any p = ((l.take i).any p || p (l.getD i 0)) := by
  rw [List.take_add_one, List.getElem?_eq_getElem h, List.any_append, List.getD_eq_getElem?_getD, List.getElem?_eq_getElem h]; simp
theorem any_at (p : Nat → Bool) {l : List Nat} {i : Nat} (h : i < l.length) (hp : p (l.getD i 0) = true) : l.any p = true := by
  rw [List.getD_eq_getElem?_getD, List.getElem?_eq_getElem h] at hp
  exact List.any_eq_true.2 ⟨l[i], List.getElem_mem h, hp⟩

theorem neededC_ok (hc : Con con lives) {L : List HP} {H : CH} {p q a b x : Nat} {K : KP} (hs : Sat L H) [HasCell L p [u64 a]] [HasCell L q [u64 b]] (k : K (.bool (asksB a b x)) H) : Call1 Try.prog con 72 [u64 x, ptr p 0, ptr q 0] H K := by
  refine call_of (hc _ _ _ rfl) ?_
  rw [neededC_W]
  repeat (first
    | (refine AsInt.mk ?_) | (refine AsNat.mk ?_) | (refine AsBool.mk ?_) | (refine AsPtr.mk ?_) | (refine AsSlc.mk ?_) | (refine AsLen.mk ?_) | (refine AsCnt.mk ?_) | (refine AsAgg.mk ?_) | (refine AsTup.mk ?_) | (refine AsFn.mk ?_)
    | (refine NotNil.ptr ?_) | (refine NotNil.ifc ?_) | (refine NotNil.fnc ?_) | (refine IsNil.ptr ?_) | (refine IsNil.ptr0 ?_) | (refine IsNil.slc ?_) | (refine IsNil.slc0 ?_) | (refine IsNil.ifc ?_) | (refine IsNil.ifc0 ?_)
    | (refine Sc.mk rfl ?_) | (refine Same.slc ?_) | (refine Same.ptr ?_) | (refine Same.int ?_) | (refine Same.bool ?_) | (refine Cd.t rfl ?_) | (refine Cd.f rfl ?_) | (refine Cd.t (by decide +kernel) ?_) | (refine Cd.f (by decide +kernel) ?_) | (refine AsWant.mk ?_) | (refine AsStr.mk ?_)
    | (refine ld (by assumption) rfl ?_)
    | (refine nw (by assumption) fun _ _ _ => ?_)
    | (refine stB (by assumption) rfl rfl fun _ _ => ?_))
  by_cases h : a ≤ x
  · refine Cd.t (leN_t h) ?_
    repeat (first
    | (refine AsInt.mk ?_) | (refine AsNat.mk ?_) | (refine AsBool.mk ?_) | (refine AsPtr.mk ?_) | (refine AsSlc.mk ?_) | (refine AsLen.mk ?_) | (refine AsCnt.mk ?_) | (refine AsAgg.mk ?_) | (refine AsTup.mk ?_) | (refine AsFn.mk ?_)
    | (refine NotNil.ptr ?_) | (refine NotNil.ifc ?_) | (refine NotNil.fnc ?_) | (refine IsNil.ptr ?_) | (refine IsNil.ptr0 ?_) | (refine IsNil.slc ?_) | (refine IsNil.slc0 ?_) | (refine IsNil.ifc ?_) | (refine IsNil.ifc0 ?_)
    | (refine Sc.mk rfl ?_) | (refine Same.slc ?_) | (refine Same.ptr ?_) | (refine Same.int ?_) | (refine Same.bool ?_) | (refine Cd.t rfl ?_) | (refine Cd.f rfl ?_) | (refine Cd.t (by decide +kernel) ?_) | (refine Cd.f (by decide +kernel) ?_) | (refine AsWant.mk ?_) | (refine AsStr.mk ?_)
    | (refine ld (by assumption) rfl ?_)
    | (refine nw (by assumption) fun _ _ _ => ?_)
    | (refine stB (by assumption) rfl rfl fun _ _ => ?_))
    have e : asksB a b x = ltN x b := by
      unfold asksB
      rw [decide_eq_true h]
      by_cases h2 : x < b
      · rw [ltN_t h2, decide_eq_true h2]; rfl
      · rw [ltN_f (by omega), decide_eq_false h2]; rfl
    rw [← e]; exact k
  · refine Cd.f (leN_f (by omega)) ?_
    have e : asksB a b x = false := by unfold asksB; rw [decide_eq_false h]; rfl
    rw [← e]; exact k

theorem containsF_ok (hc : Con con lives) {L : List HP} {H : CH} {p q a b : Nat} {v : Value} {l : List Nat} {K : KP} (hs : Sat L H) (hq : Has L (Nums v l)) [HasCell L p [u64 a]] [HasCell L q [u64 b]] (hl : l.length ≤ 1000000000) (k : K (.bool (l.any (asksB a b))) H) :
    Call1 Try.prog con 73 [v, .func (.func 72) ⟨[]⟩ ⟨[ptr p 0, ptr q 0]⟩] H K := by
  refine call_of (hc _ _ _ rfl) ?_
  rw [containsF_W]
  refine call_of (hc _ _ _ rfl) ?_
  rw [indexF_W]
  obtain ⟨pv, cv, rfl⟩ := (hs.has hq).len
  repeat (first
    | (refine AsInt.mk ?_) | (refine AsNat.mk ?_) | (refine AsBool.mk ?_) | (refine AsPtr.mk ?_) | (refine AsSlc.mk ?_) | (refine AsLen.mk ?_) | (refine AsCnt.mk ?_) | (refine AsAgg.mk ?_) | (refine AsTup.mk ?_) | (refine AsFn.mk ?_)
    | (refine NotNil.ptr ?_) | (refine NotNil.ifc ?_) | (refine NotNil.fnc ?_) | (refine IsNil.ptr ?_) | (refine IsNil.ptr0 ?_) | (refine IsNil.slc ?_) | (refine IsNil.slc0 ?_) | (refine IsNil.ifc ?_) | (refine IsNil.ifc0 ?_)
    | (refine Sc.mk rfl ?_) | (refine Same.slc ?_) | (refine Same.ptr ?_) | (refine Same.int ?_) | (refine Same.bool ?_) | (refine Cd.t rfl ?_) | (refine Cd.f rfl ?_) | (refine Cd.t (by decide +kernel) ?_) | (refine Cd.f (by decide +kernel) ?_) | (refine AsWant.mk ?_) | (refine AsStr.mk ?_)
    | (refine ld (by assumption) rfl ?_)
    | (refine nw (by assumption) fun _ _ _ => ?_)
    | (refine stB (by assumption) rfl rfl fun _ _ => ?_))
  refine LoopC.ind (n := 100) (by kernel_rfl) (fun (i : Nat) σ H1 => σ 0 = .slice pv l.length cv ∧ σ 1 = .func (.func 72) ⟨[]⟩ ⟨[ptr p 0, ptr q 0]⟩ ∧ σ 7 = iN l.length ∧ σ 8 = iN i ∧ i ≤ l.length ∧ (l.take i).any (asksB a b) = false ∧ H1 = H) (fun i => l.length - i) (fun i σ H1 hI => ?_) 0 _ _ ⟨rfl, rfl, rfl, rfl, Nat.zero_le _, rfl, rfl⟩
  obtain ⟨e0, e1, e7, e8, hi, hno, rfl⟩ := hI
  rw [indexFL_W]
  simp only [e0, e1, e7, e8]
  repeat (first
    | (refine AsInt.mk ?_) | (refine AsNat.mk ?_) | (refine AsBool.mk ?_) | (refine AsPtr.mk ?_) | (refine AsSlc.mk ?_) | (refine AsLen.mk ?_) | (refine AsCnt.mk ?_) | (refine AsAgg.mk ?_) | (refine AsTup.mk ?_) | (refine AsFn.mk ?_)
    | (refine NotNil.ptr ?_) | (refine NotNil.ifc ?_) | (refine NotNil.fnc ?_) | (refine IsNil.ptr ?_) | (refine IsNil.ptr0 ?_) | (refine IsNil.slc ?_) | (refine IsNil.slc0 ?_) | (refine IsNil.ifc ?_) | (refine IsNil.ifc0 ?_)
    | (refine Sc.mk rfl ?_) | (refine Same.slc ?_) | (refine Same.ptr ?_) | (refine Same.int ?_) | (refine Same.bool ?_) | (refine Cd.t rfl ?_) | (refine Cd.f rfl ?_) | (refine Cd.t (by decide +kernel) ?_) | (refine Cd.f (by decide +kernel) ?_) | (refine AsWant.mk ?_) | (refine AsStr.mk ?_)
    | (refine ld (by assumption) rfl ?_)
    | (refine nw (by assumption) fun _ _ _ => ?_)
    | (refine stB (by assumption) rfl rfl fun _ _ => ?_))
  rcases Nat.lt_or_ge i l.length with hlt | hge
  · refine Cd.t (ltZ_t (by omega)) ?_
    rcases (hs.has hq).shape with ⟨h3, h4⟩ | ⟨b', o, c', h3⟩
    · rw [h4] at hlt; simp at hlt
    cases h3
    repeat (first
    | (refine AsInt.mk ?_) | (refine AsNat.mk ?_) | (refine AsBool.mk ?_) | (refine AsPtr.mk ?_) | (refine AsSlc.mk ?_) | (refine AsLen.mk ?_) | (refine AsCnt.mk ?_) | (refine AsAgg.mk ?_) | (refine AsTup.mk ?_) | (refine AsFn.mk ?_)
    | (refine NotNil.ptr ?_) | (refine NotNil.ifc ?_) | (refine NotNil.fnc ?_) | (refine IsNil.ptr ?_) | (refine IsNil.ptr0 ?_) | (refine IsNil.slc ?_) | (refine IsNil.slc0 ?_) | (refine IsNil.ifc ?_) | (refine IsNil.ifc0 ?_)
    | (refine Sc.mk rfl ?_) | (refine Same.slc ?_) | (refine Same.ptr ?_) | (refine Same.int ?_) | (refine Same.bool ?_) | (refine Cd.t rfl ?_) | (refine Cd.f rfl ?_) | (refine Cd.t (by decide +kernel) ?_) | (refine Cd.f (by decide +kernel) ?_) | (refine AsWant.mk ?_) | (refine AsStr.mk ?_)
    | (refine ld (by assumption) rfl ?_)
    | (refine nw (by assumption) fun _ _ _ => ?_)
    | (refine stB (by assumption) rfl rfl fun _ _ => ?_))
    refine Must.mk (ltN_t hlt) ?_
    refine ldSrc hs (hq.src rfl) (by rw [show Nat.mul i 1 = i from Nat.mul_one i]; rfl) (map_get _ hlt) ?_
    repeat (first
    | (refine AsInt.mk ?_) | (refine AsNat.mk ?_) | (refine AsBool.mk ?_) | (refine AsPtr.mk ?_) | (refine AsSlc.mk ?_) | (refine AsLen.mk ?_) | (refine AsCnt.mk ?_) | (refine AsAgg.mk ?_) | (refine AsTup.mk ?_) | (refine AsFn.mk ?_)
    | (refine NotNil.ptr ?_) | (refine NotNil.ifc ?_) | (refine NotNil.fnc ?_) | (refine IsNil.ptr ?_) | (refine IsNil.ptr0 ?_) | (refine IsNil.slc ?_) | (refine IsNil.slc0 ?_) | (refine IsNil.ifc ?_) | (refine IsNil.ifc0 ?_)
    | (refine Sc.mk rfl ?_) | (refine Same.slc ?_) | (refine Same.ptr ?_) | (refine Same.int ?_) | (refine Same.bool ?_) | (refine Cd.t rfl ?_) | (refine Cd.f rfl ?_) | (refine Cd.t (by decide +kernel) ?_) | (refine Cd.f (by decide +kernel) ?_) | (refine AsWant.mk ?_) | (refine AsStr.mk ?_)
    | (refine ld (by assumption) rfl ?_)
    | (refine nw (by assumption) fun _ _ _ => ?_)
    | (refine stB (by assumption) rfl rfl fun _ _ => ?_))
    refine Must.mk (by kernel_rfl) ?_
    refine neededC_ok (a := a) (b := b) hc hs ?_
    repeat (first
    | (refine AsInt.mk ?_) | (refine AsNat.mk ?_) | (refine AsBool.mk ?_) | (refine AsPtr.mk ?_) | (refine AsSlc.mk ?_) | (refine AsLen.mk ?_) | (refine AsCnt.mk ?_) | (refine AsAgg.mk ?_) | (refine AsTup.mk ?_) | (refine AsFn.mk ?_)
    | (refine NotNil.ptr ?_) | (refine NotNil.ifc ?_) | (refine NotNil.fnc ?_) | (refine IsNil.ptr ?_) | (refine IsNil.ptr0 ?_) | (refine IsNil.slc ?_) | (refine IsNil.slc0 ?_) | (refine IsNil.ifc ?_) | (refine IsNil.ifc0 ?_)
    | (refine Sc.mk rfl ?_) | (refine Same.slc ?_) | (refine Same.ptr ?_) | (refine Same.int ?_) | (refine Same.bool ?_) | (refine Cd.t rfl ?_) | (refine Cd.f rfl ?_) | (refine Cd.t (by decide +kernel) ?_) | (refine Cd.f (by decide +kernel) ?_) | (refine AsWant.mk ?_) | (refine AsStr.mk ?_)
    | (refine ld (by assumption) rfl ?_)
    | (refine nw (by assumption) fun _ _ _ => ?_)
    | (refine stB (by assumption) rfl rfl fun _ _ => ?_))
    refine Cd.of (fun hy => ?_) (fun hn => ?_)
    · show AsInt _ _ _
      refine AsInt.mk ?_
      rw [any_at _ hlt hy] at k
      show K (.bool (leZ (Int.ofNat 0) (Int.ofNat i))) _
      rw [leZ_t (Nat.zero_le i)]
      exact k
    · repeat (first
    | (refine AsInt.mk ?_) | (refine AsNat.mk ?_) | (refine AsBool.mk ?_) | (refine AsPtr.mk ?_) | (refine AsSlc.mk ?_) | (refine AsLen.mk ?_) | (refine AsCnt.mk ?_) | (refine AsAgg.mk ?_) | (refine AsTup.mk ?_) | (refine AsFn.mk ?_)
    | (refine NotNil.ptr ?_) | (refine NotNil.ifc ?_) | (refine NotNil.fnc ?_) | (refine IsNil.ptr ?_) | (refine IsNil.ptr0 ?_) | (refine IsNil.slc ?_) | (refine IsNil.slc0 ?_) | (refine IsNil.ifc ?_) | (refine IsNil.ifc0 ?_)
    | (refine Sc.mk rfl ?_) | (refine Same.slc ?_) | (refine Same.ptr ?_) | (refine Same.int ?_) | (refine Same.bool ?_) | (refine Cd.t rfl ?_) | (refine Cd.f rfl ?_) | (refine Cd.t (by decide +kernel) ?_) | (refine Cd.f (by decide +kernel) ?_) | (refine AsWant.mk ?_) | (refine AsStr.mk ?_)
    | (refine ld (by assumption) rfl ?_)
    | (refine nw (by assumption) fun _ _ _ => ?_)
    | (refine stB (by assumption) rfl rfl fun _ _ => ?_))
      refine inR_nat (n := i + 1) (by omega) ?_
      show ∃ y, _ ∧ _
      exact ⟨i + 1, by omega, e0, e1, e7, rfl, hlt, by rw [any_take_succ _ hlt, hno, hn]; rfl, rfl⟩
  · refine Cd.f (ltZ_f (by omega)) ?_
    show Cd _ _ _
    refine Cd.t (eqN_self 0) ?_
    refine AsInt.mk ?_
    rw [List.take_of_length_le hge] at hno
    rw [hno] at k
    rw [show leZ (Int.ofNat 0) (Int.negSucc 0) = false by decide +kernel]
    exact k

theorem needed_ok (hc : Con con lives) {L : List HP} {H : CH} {fl a b : Nat} {v : Value} {l : List Nat} {K : KP} (hs : Sat L H) (hq : Has L (Nums v l)) (hl : l.length ≤ 1000000000) (k : ∀ H1, Sat L H1 → K (.bool (needed fl l a b)) H1) :
    Call1 Try.prog con 12 [.agg ⟨[u64 fl, v]⟩, u64 a, u64 b] H K := by
  refine call_of (hc _ _ _ rfl) ?_
  rw [needed_W]
  obtain ⟨pv, cv, rfl⟩ := (hs.has hq).len
  refine nw hs fun p1 H1 h1 => ?_
  repeat (first
    | (refine AsInt.mk ?_) | (refine AsNat.mk ?_) | (refine AsBool.mk ?_) | (refine AsPtr.mk ?_) | (refine AsSlc.mk ?_) | (refine AsLen.mk ?_) | (refine AsCnt.mk ?_) | (refine AsAgg.mk ?_) | (refine AsTup.mk ?_) | (refine AsFn.mk ?_)
    | (refine NotNil.ptr ?_) | (refine NotNil.ifc ?_) | (refine NotNil.fnc ?_) | (refine IsNil.ptr ?_) | (refine IsNil.ptr0 ?_) | (refine IsNil.slc ?_) | (refine IsNil.slc0 ?_) | (refine IsNil.ifc ?_) | (refine IsNil.ifc0 ?_)
    | (refine Sc.mk rfl ?_) | (refine Same.slc ?_) | (refine Same.ptr ?_) | (refine Same.int ?_) | (refine Same.bool ?_) | (refine Cd.t rfl ?_) | (refine Cd.f rfl ?_) | (refine Cd.t (by decide +kernel) ?_) | (refine Cd.f (by decide +kernel) ?_) | (refine AsWant.mk ?_) | (refine AsStr.mk ?_)
    | (refine ld (by assumption) rfl ?_)
    | (refine nw (by assumption) fun _ _ _ => ?_)
    | (refine stB (by assumption) rfl rfl fun _ _ => ?_))
  by_cases h : b ≤ a
  · refine Cd.t (leN_t h) ?_
    have e : needed fl l a b = false := by unfold needed; rw [if_pos h]
    rw [← e]
    refine k _ (Sat.ent (by assumption) (by repeat (first | exact Ent.refl _ | exact Ent.none | apply Ent.cons (by repeat (first | exact Pull.here | apply Pull.there)) | refine Ent.drop ?_)))
  refine Cd.f (leN_f (by omega)) ?_
  repeat (first
    | (refine AsInt.mk ?_) | (refine AsNat.mk ?_) | (refine AsBool.mk ?_) | (refine AsPtr.mk ?_) | (refine AsSlc.mk ?_) | (refine AsLen.mk ?_) | (refine AsCnt.mk ?_) | (refine AsAgg.mk ?_) | (refine AsTup.mk ?_) | (refine AsFn.mk ?_)
    | (refine NotNil.ptr ?_) | (refine NotNil.ifc ?_) | (refine NotNil.fnc ?_) | (refine IsNil.ptr ?_) | (refine IsNil.ptr0 ?_) | (refine IsNil.slc ?_) | (refine IsNil.slc0 ?_) | (refine IsNil.ifc ?_) | (refine IsNil.ifc0 ?_)
    | (refine Sc.mk rfl ?_) | (refine Same.slc ?_) | (refine Same.ptr ?_) | (refine Same.int ?_) | (refine Same.bool ?_) | (refine Cd.t rfl ?_) | (refine Cd.f rfl ?_) | (refine Cd.t (by decide +kernel) ?_) | (refine Cd.f (by decide +kernel) ?_) | (refine AsWant.mk ?_) | (refine AsStr.mk ?_)
    | (refine ld (by assumption) rfl ?_)
    | (refine nw (by assumption) fun _ _ _ => ?_)
    | (refine stB (by assumption) rfl rfl fun _ _ => ?_))
  by_cases h2 : fl < b
  · refine Cd.t (ltN_t h2) ?_
    have e : needed fl l a b = true := by unfold needed; rw [if_neg h, if_pos h2]
    rw [← e]
    refine k _ (Sat.ent (by assumption) (by repeat (first | exact Ent.refl _ | exact Ent.none | apply Ent.cons (by repeat (first | exact Pull.here | apply Pull.there)) | refine Ent.drop ?_)))
  refine Cd.f (ltN_f (by omega)) ?_
  repeat (first
    | (refine AsInt.mk ?_) | (refine AsNat.mk ?_) | (refine AsBool.mk ?_) | (refine AsPtr.mk ?_) | (refine AsSlc.mk ?_) | (refine AsLen.mk ?_) | (refine AsCnt.mk ?_) | (refine AsAgg.mk ?_) | (refine AsTup.mk ?_) | (refine AsFn.mk ?_)
    | (refine NotNil.ptr ?_) | (refine NotNil.ifc ?_) | (refine NotNil.fnc ?_) | (refine IsNil.ptr ?_) | (refine IsNil.ptr0 ?_) | (refine IsNil.slc ?_) | (refine IsNil.slc0 ?_) | (refine IsNil.ifc ?_) | (refine IsNil.ifc0 ?_)
    | (refine Sc.mk rfl ?_) | (refine Same.slc ?_) | (refine Same.ptr ?_) | (refine Same.int ?_) | (refine Same.bool ?_) | (refine Cd.t rfl ?_) | (refine Cd.f rfl ?_) | (refine Cd.t (by decide +kernel) ?_) | (refine Cd.f (by decide +kernel) ?_) | (refine AsWant.mk ?_) | (refine AsStr.mk ?_)
    | (refine ld (by assumption) rfl ?_)
    | (refine nw (by assumption) fun _ _ _ => ?_)
    | (refine stB (by assumption) rfl rfl fun _ _ => ?_))
  refine containsF_ok (a := a) (b := b) (l := l) hc (by assumption) (Has.skip (Has.skip (Has.skip hq))) hl ?_
  have e : needed fl l a b = l.any (asksB a b) := by unfold needed; rw [if_neg h, if_neg h2]
  rw [← e]
  refine k _ (Sat.ent (by assumption) (by repeat (first | exact Ent.refl _ | exact Ent.none | apply Ent.cons (by repeat (first | exact Pull.here | apply Pull.there)) | refine Ent.drop ?_)))

theorem refNeeded_ok (hc : Con con lives) {L : List HP} {H : CH} {fl a b : Nat} {v : Value} {l : List Nat} {K : KP} (hs : Sat L H) (hq : Has L (Nums v l)) (hl : l.length ≤ 1000000000) (k : ∀ H1, Sat L H1 → K (.bool (needed fl l a b)) H1) :
    Call1 Try.prog con 13 [.agg ⟨[u64 fl, v]⟩, u64 a, u64 b] H K := by
  refine call_of (hc _ _ _ rfl) ?_
  rw [refNeeded_W]
  obtain ⟨pv, cv, rfl⟩ := (hs.has hq).len
  refine nw hs fun p1 H1 h1 => ?_
  repeat (first
    | (refine AsInt.mk ?_) | (refine AsNat.mk ?_) | (refine AsBool.mk ?_) | (refine AsPtr.mk ?_) | (refine AsSlc.mk ?_) | (refine AsLen.mk ?_) | (refine AsCnt.mk ?_) | (refine AsAgg.mk ?_) | (refine AsTup.mk ?_) | (refine AsFn.mk ?_)
    | (refine NotNil.ptr ?_) | (refine NotNil.ifc ?_) | (refine NotNil.fnc ?_) | (refine IsNil.ptr ?_) | (refine IsNil.ptr0 ?_) | (refine IsNil.slc ?_) | (refine IsNil.slc0 ?_) | (refine IsNil.ifc ?_) | (refine IsNil.ifc0 ?_)
    | (refine Sc.mk rfl ?_) | (refine Same.slc ?_) | (refine Same.ptr ?_) | (refine Same.int ?_) | (refine Same.bool ?_) | (refine Cd.t rfl ?_) | (refine Cd.f rfl ?_) | (refine Cd.t (by decide +kernel) ?_) | (refine Cd.f (by decide +kernel) ?_) | (refine AsWant.mk ?_) | (refine AsStr.mk ?_)
    | (refine ld (by assumption) rfl ?_)
    | (refine nw (by assumption) fun _ _ _ => ?_)
    | (refine stB (by assumption) rfl rfl fun _ _ => ?_))
  by_cases h : b ≤ a
  · refine Cd.t (leN_t h) ?_
    have e : needed fl l a b = false := by unfold needed; rw [if_pos h]
    rw [← e]
    exact k _ h1.drop
  refine Cd.f (leN_f (by omega)) ?_
  repeat (first
    | (refine AsInt.mk ?_) | (refine AsNat.mk ?_) | (refine AsBool.mk ?_) | (refine AsPtr.mk ?_) | (refine AsSlc.mk ?_) | (refine AsLen.mk ?_) | (refine AsCnt.mk ?_) | (refine AsAgg.mk ?_) | (refine AsTup.mk ?_) | (refine AsFn.mk ?_)
    | (refine NotNil.ptr ?_) | (refine NotNil.ifc ?_) | (refine NotNil.fnc ?_) | (refine IsNil.ptr ?_) | (refine IsNil.ptr0 ?_) | (refine IsNil.slc ?_) | (refine IsNil.slc0 ?_) | (refine IsNil.ifc ?_) | (refine IsNil.ifc0 ?_)
    | (refine Sc.mk rfl ?_) | (refine Same.slc ?_) | (refine Same.ptr ?_) | (refine Same.int ?_) | (refine Same.bool ?_) | (refine Cd.t rfl ?_) | (refine Cd.f rfl ?_) | (refine Cd.t (by decide +kernel) ?_) | (refine Cd.f (by decide +kernel) ?_) | (refine AsWant.mk ?_) | (refine AsStr.mk ?_)
    | (refine ld (by assumption) rfl ?_)
    | (refine nw (by assumption) fun _ _ _ => ?_)
    | (refine stB (by assumption) rfl rfl fun _ _ => ?_))
  by_cases h2 : fl < b
  · refine Cd.t (ltN_t h2) ?_
    have e : needed fl l a b = true := by unfold needed; rw [if_neg h, if_pos h2]
    rw [← e]
    exact k _ h1.drop
  refine Cd.f (ltN_f (by omega)) ?_
  have e : needed fl l a b = l.any (asksB a b) := by unfold needed; rw [if_neg h, if_neg h2]
  refine LoopC.ind (n := 100) (by kernel_rfl) (fun (i : Nat) σ H => σ 1 = u64 a ∧ σ 2 = u64 b ∧ σ 3 = ptr p1 0 ∧ σ 7 = iN i ∧ i ≤ l.length ∧ (l.take i).any (asksB a b) = false ∧ H = H1) (fun i => l.length - i) (fun i σ H2 hI => ?_) 0 _ _ ⟨rfl, rfl, rfl, rfl, Nat.zero_le _, rfl, rfl⟩
  obtain ⟨e1, e2, e3, e7, hi, hno, rfl⟩ := hI
  rw [refNeededL_W]
  simp only [e1, e2, e3, e7]
  repeat (first
    | (refine AsInt.mk ?_) | (refine AsNat.mk ?_) | (refine AsBool.mk ?_) | (refine AsPtr.mk ?_) | (refine AsSlc.mk ?_) | (refine AsLen.mk ?_) | (refine AsCnt.mk ?_) | (refine AsAgg.mk ?_) | (refine AsTup.mk ?_) | (refine AsFn.mk ?_)
    | (refine NotNil.ptr ?_) | (refine NotNil.ifc ?_) | (refine NotNil.fnc ?_) | (refine IsNil.ptr ?_) | (refine IsNil.ptr0 ?_) | (refine IsNil.slc ?_) | (refine IsNil.slc0 ?_) | (refine IsNil.ifc ?_) | (refine IsNil.ifc0 ?_)
    | (refine Sc.mk rfl ?_) | (refine Same.slc ?_) | (refine Same.ptr ?_) | (refine Same.int ?_) | (refine Same.bool ?_) | (refine Cd.t rfl ?_) | (refine Cd.f rfl ?_) | (refine Cd.t (by decide +kernel) ?_) | (refine Cd.f (by decide +kernel) ?_) | (refine AsWant.mk ?_) | (refine AsStr.mk ?_)
    | (refine ld (by assumption) rfl ?_)
    | (refine nw (by assumption) fun _ _ _ => ?_)
    | (refine stB (by assumption) rfl rfl fun _ _ => ?_))
  rcases Nat.lt_or_ge i l.length with hlt | hge
  · refine Cd.t (ltZ_t (by omega)) ?_
    rcases (hs.has hq).shape with ⟨h3, h4⟩ | ⟨b', o, c', h3⟩
    · rw [h4] at hlt; simp at hlt
    cases h3
    repeat (first
    | (refine AsInt.mk ?_) | (refine AsNat.mk ?_) | (refine AsBool.mk ?_) | (refine AsPtr.mk ?_) | (refine AsSlc.mk ?_) | (refine AsLen.mk ?_) | (refine AsCnt.mk ?_) | (refine AsAgg.mk ?_) | (refine AsTup.mk ?_) | (refine AsFn.mk ?_)
    | (refine NotNil.ptr ?_) | (refine NotNil.ifc ?_) | (refine NotNil.fnc ?_) | (refine IsNil.ptr ?_) | (refine IsNil.ptr0 ?_) | (refine IsNil.slc ?_) | (refine IsNil.slc0 ?_) | (refine IsNil.ifc ?_) | (refine IsNil.ifc0 ?_)
    | (refine Sc.mk rfl ?_) | (refine Same.slc ?_) | (refine Same.ptr ?_) | (refine Same.int ?_) | (refine Same.bool ?_) | (refine Cd.t rfl ?_) | (refine Cd.f rfl ?_) | (refine Cd.t (by decide +kernel) ?_) | (refine Cd.f (by decide +kernel) ?_) | (refine AsWant.mk ?_) | (refine AsStr.mk ?_)
    | (refine ld (by assumption) rfl ?_)
    | (refine nw (by assumption) fun _ _ _ => ?_)
    | (refine stB (by assumption) rfl rfl fun _ _ => ?_))
    refine Must.mk (ltN_t hlt) ?_
    refine ldSrc h1 (Src.skip (hq.src rfl)) (by rw [show Nat.mul i 1 = i from Nat.mul_one i]; rfl) (map_get _ hlt) ?_
    repeat (first
    | (refine AsInt.mk ?_) | (refine AsNat.mk ?_) | (refine AsBool.mk ?_) | (refine AsPtr.mk ?_) | (refine AsSlc.mk ?_) | (refine AsLen.mk ?_) | (refine AsCnt.mk ?_) | (refine AsAgg.mk ?_) | (refine AsTup.mk ?_) | (refine AsFn.mk ?_)
    | (refine NotNil.ptr ?_) | (refine NotNil.ifc ?_) | (refine NotNil.fnc ?_) | (refine IsNil.ptr ?_) | (refine IsNil.ptr0 ?_) | (refine IsNil.slc ?_) | (refine IsNil.slc0 ?_) | (refine IsNil.ifc ?_) | (refine IsNil.ifc0 ?_)
    | (refine Sc.mk rfl ?_) | (refine Same.slc ?_) | (refine Same.ptr ?_) | (refine Same.int ?_) | (refine Same.bool ?_) | (refine Cd.t rfl ?_) | (refine Cd.f rfl ?_) | (refine Cd.t (by decide +kernel) ?_) | (refine Cd.f (by decide +kernel) ?_) | (refine AsWant.mk ?_) | (refine AsStr.mk ?_)
    | (refine ld (by assumption) rfl ?_)
    | (refine nw (by assumption) fun _ _ _ => ?_)
    | (refine stB (by assumption) rfl rfl fun _ _ => ?_))
    by_cases h3 : a ≤ l.getD i 0
    · refine Cd.t (leN_t h3) ?_
      repeat (first
    | (refine AsInt.mk ?_) | (refine AsNat.mk ?_) | (refine AsBool.mk ?_) | (refine AsPtr.mk ?_) | (refine AsSlc.mk ?_) | (refine AsLen.mk ?_) | (refine AsCnt.mk ?_) | (refine AsAgg.mk ?_) | (refine AsTup.mk ?_) | (refine AsFn.mk ?_)
    | (refine NotNil.ptr ?_) | (refine NotNil.ifc ?_) | (refine NotNil.fnc ?_) | (refine IsNil.ptr ?_) | (refine IsNil.ptr0 ?_) | (refine IsNil.slc ?_) | (refine IsNil.slc0 ?_) | (refine IsNil.ifc ?_) | (refine IsNil.ifc0 ?_)
    | (refine Sc.mk rfl ?_) | (refine Same.slc ?_) | (refine Same.ptr ?_) | (refine Same.int ?_) | (refine Same.bool ?_) | (refine Cd.t rfl ?_) | (refine Cd.f rfl ?_) | (refine Cd.t (by decide +kernel) ?_) | (refine Cd.f (by decide +kernel) ?_) | (refine AsWant.mk ?_) | (refine AsStr.mk ?_)
    | (refine ld (by assumption) rfl ?_)
    | (refine nw (by assumption) fun _ _ _ => ?_)
    | (refine stB (by assumption) rfl rfl fun _ _ => ?_))
      refine Must.mk (ltN_t hlt) ?_
      refine ldSrc h1 (Src.skip (hq.src rfl)) (by rw [show Nat.mul i 1 = i from Nat.mul_one i]; rfl) (map_get _ hlt) ?_
      repeat (first
    | (refine AsInt.mk ?_) | (refine AsNat.mk ?_) | (refine AsBool.mk ?_) | (refine AsPtr.mk ?_) | (refine AsSlc.mk ?_) | (refine AsLen.mk ?_) | (refine AsCnt.mk ?_) | (refine AsAgg.mk ?_) | (refine AsTup.mk ?_) | (refine AsFn.mk ?_)
    | (refine NotNil.ptr ?_) | (refine NotNil.ifc ?_) | (refine NotNil.fnc ?_) | (refine IsNil.ptr ?_) | (refine IsNil.ptr0 ?_) | (refine IsNil.slc ?_) | (refine IsNil.slc0 ?_) | (refine IsNil.ifc ?_) | (refine IsNil.ifc0 ?_)
    | (refine Sc.mk rfl ?_) | (refine Same.slc ?_) | (refine Same.ptr ?_) | (refine Same.int ?_) | (refine Same.bool ?_) | (refine Cd.t rfl ?_) | (refine Cd.f rfl ?_) | (refine Cd.t (by decide +kernel) ?_) | (refine Cd.f (by decide +kernel) ?_) | (refine AsWant.mk ?_) | (refine AsStr.mk ?_)
    | (refine ld (by assumption) rfl ?_)
    | (refine nw (by assumption) fun _ _ _ => ?_)
    | (refine stB (by assumption) rfl rfl fun _ _ => ?_))
      by_cases h4 : l.getD i 0 < b
      · refine Cd.t (ltN_t h4) ?_
        have ey : l.any (asksB a b) = true := any_at _ hlt (by unfold asksB; rw [decide_eq_true h3, decide_eq_true h4]; rfl)
        rw [e, ey] at k
        exact k _ h1.drop
      · refine Cd.f (ltN_f (by omega)) ?_
        repeat (first
    | (refine AsInt.mk ?_) | (refine AsNat.mk ?_) | (refine AsBool.mk ?_) | (refine AsPtr.mk ?_) | (refine AsSlc.mk ?_) | (refine AsLen.mk ?_) | (refine AsCnt.mk ?_) | (refine AsAgg.mk ?_) | (refine AsTup.mk ?_) | (refine AsFn.mk ?_)
    | (refine NotNil.ptr ?_) | (refine NotNil.ifc ?_) | (refine NotNil.fnc ?_) | (refine IsNil.ptr ?_) | (refine IsNil.ptr0 ?_) | (refine IsNil.slc ?_) | (refine IsNil.slc0 ?_) | (refine IsNil.ifc ?_) | (refine IsNil.ifc0 ?_)
    | (refine Sc.mk rfl ?_) | (refine Same.slc ?_) | (refine Same.ptr ?_) | (refine Same.int ?_) | (refine Same.bool ?_) | (refine Cd.t rfl ?_) | (refine Cd.f rfl ?_) | (refine Cd.t (by decide +kernel) ?_) | (refine Cd.f (by decide +kernel) ?_) | (refine AsWant.mk ?_) | (refine AsStr.mk ?_)
    | (refine ld (by assumption) rfl ?_)
    | (refine nw (by assumption) fun _ _ _ => ?_)
    | (refine stB (by assumption) rfl rfl fun _ _ => ?_))
        refine inR_nat (n := i + 1) (by omega) ?_
        show ∃ y, _ ∧ _
        exact ⟨i + 1, by omega, e1, e2, e3, rfl, hlt, by rw [any_take_succ _ hlt, hno]; unfold asksB; rw [decide_eq_false h4, Bool.and_false]; rfl, rfl⟩
    · refine Cd.f (leN_f (by omega)) ?_
      repeat (first
    | (refine AsInt.mk ?_) | (refine AsNat.mk ?_) | (refine AsBool.mk ?_) | (refine AsPtr.mk ?_) | (refine AsSlc.mk ?_) | (refine AsLen.mk ?_) | (refine AsCnt.mk ?_) | (refine AsAgg.mk ?_) | (refine AsTup.mk ?_) | (refine AsFn.mk ?_)
    | (refine NotNil.ptr ?_) | (refine NotNil.ifc ?_) | (refine NotNil.fnc ?_) | (refine IsNil.ptr ?_) | (refine IsNil.ptr0 ?_) | (refine IsNil.slc ?_) | (refine IsNil.slc0 ?_) | (refine IsNil.ifc ?_) | (refine IsNil.ifc0 ?_)
    | (refine Sc.mk rfl ?_) | (refine Same.slc ?_) | (refine Same.ptr ?_) | (refine Same.int ?_) | (refine Same.bool ?_) | (refine Cd.t rfl ?_) | (refine Cd.f rfl ?_) | (refine Cd.t (by decide +kernel) ?_) | (refine Cd.f (by decide +kernel) ?_) | (refine AsWant.mk ?_) | (refine AsStr.mk ?_)
    | (refine ld (by assumption) rfl ?_)
    | (refine nw (by assumption) fun _ _ _ => ?_)
    | (refine stB (by assumption) rfl rfl fun _ _ => ?_))
      refine inR_nat (n := i + 1) (by omega) ?_
      show ∃ y, _ ∧ _
      exact ⟨i + 1, by omega, e1, e2, e3, rfl, hlt, by rw [any_take_succ _ hlt, hno]; unfold asksB; rw [decide_eq_false h3]; rfl, rfl⟩
  · refine Cd.f (ltZ_f (by omega)) ?_
    show Cd _ _ _
    refine Cd.t (eqN_self 0) ?_
    rw [List.take_of_length_le hge] at hno
    rw [e, hno] at k
    exact k _ h1.drop
end Go.Proofs.Ytipbbnoepphdkaa

namespace Go.Proofs.Ytipbbnoepphdkaa
open Go Go.CM
attribute [local irreducible] AsBool AsWant AsNat AsInt AsCnt AsPtr AsSlc AsLen AsStr AsAgg AsTup AsFn AsIfc Nth Sc NotNil IsNil Must Cd codeW funW Sat SatL wrapN subM mkRow ltZ leZ ltN leN
variable {con : CallT}

/-! ### a cut -/
structure CutS where
  obj : Nat
  fl : Nat
  st : List Nat
  at_ : Nat
  x : Nat
  sx : Nat
  y : Nat
  y0 : Nat
  sy : Nat
  found : Nat
  head : Nat
  told : Nat

abbrev addM (a b : Nat) : Nat := Nat.mod (Nat.add a b) 18446744073709551616
def CutS.further (s : CutS) : CutS := if s.y = 0 then { s with at_ := 7 } else { s with x := s.y, sx := s.sy, at_ := 3 }
def CutS.stay (s : CutS) : CutS := if s.y = s.y0 then s.further else { s with at_ := 6 }
def CutS.on (s : CutS) : CutS := if s.y = 0 then ({ s with at_ := 4 } : CutS).stay else { s with at_ := 4 }
def CutS.fin (s : CutS) : CutS := if s.at_ = 7 then { s with head := s.told } else s
def CutS.go (s : CutS) (M : Mem) (th : Int) : CutS × Mem :=
  if s.at_ = 0 then ({ s with x := M.peek s.obj, at_ := if M.peek s.obj = 0 then 7 else 1 }, M.load th s.obj)
  else if s.at_ = 1 then ({ s with sx := if M.peek (addM s.x 1) = 0 then 18446744073709551615 else M.peek (addM s.x 1), at_ := 2 }, M.load th (addM s.x 1))
  else if s.at_ = 2 then ({ s with told := M.peek s.x, at_ := 3 }, M.load th s.x)
  else if s.at_ = 3 then (({ s with y0 := M.peek (addM s.x 2), y := M.peek (addM s.x 2) } : CutS).on, M.load th (addM s.x 2))
  else if s.at_ = 4 then (if needed s.fl s.st (M.peek (addM s.y 1)) s.sx then ({ s with sy := M.peek (addM s.y 1) } : CutS).stay else { s with sy := M.peek (addM s.y 1), found := addM s.found 1, at_ := 5 }, M.load th (addM s.y 1))
  else if s.at_ = 5 then (({ s with y := M.peek (addM s.y 2) } : CutS).on, M.load th (addM s.y 2))
  else (s.further, M.store th (addM s.x 2) s.y)
def CutS.step (s : CutS) (M : Mem) (th : Int) : CutS × Mem := ((s.go M th).1.fin, (s.go M th).2)

def cutC (s : CutS) (v : Value) : List Value := [u64 s.obj, u64 s.fl, v, iN s.at_, u64 s.x, u64 s.sx, u64 s.y, u64 s.y0, u64 s.sy, u64 s.found, u64 s.head, u64 s.told]


theorem cutFurther_ok (hc : Con con lives) (s : CutS) {L R : List HP} {H : CH} {p : Nat} {v : Value} {K : KP} (hs : Sat L H) (hp : Pull L (Own p (cutC s v)) R) (k : ∀ H1, Sat (Own p (cutC s.further v) :: R) H1 → K unit H1) : Call1 Try.prog con 77 [ptr p 0] H K := by
  refine call_of (hc _ _ _ rfl) ?_
  rw [cutFurther_W]
  have hs0 := hs.pull hp
  unfold CutS.further at k
  repeat (first
    | (refine AsInt.mk ?_) | (refine AsNat.mk ?_) | (refine AsBool.mk ?_) | (refine AsPtr.mk ?_) | (refine AsSlc.mk ?_) | (refine AsLen.mk ?_) | (refine AsCnt.mk ?_) | (refine AsAgg.mk ?_) | (refine AsTup.mk ?_) | (refine AsFn.mk ?_)
    | (refine NotNil.ptr ?_) | (refine NotNil.ifc ?_) | (refine NotNil.fnc ?_) | (refine IsNil.ptr ?_) | (refine IsNil.ptr0 ?_) | (refine IsNil.slc ?_) | (refine IsNil.slc0 ?_) | (refine IsNil.ifc ?_) | (refine IsNil.ifc0 ?_)
    | (refine Sc.mk rfl ?_) | (refine Same.slc ?_) | (refine Same.ptr ?_) | (refine Same.int ?_) | (refine Same.bool ?_) | (refine Cd.t rfl ?_) | (refine Cd.f rfl ?_) | (refine Cd.t (by decide +kernel) ?_) | (refine Cd.f (by decide +kernel) ?_) | (refine AsWant.mk ?_) | (refine AsStr.mk ?_)
    | (refine ld (by assumption) rfl ?_)
    | (refine nw (by assumption) fun _ _ _ => ?_)
    | (refine stB (by assumption) rfl rfl fun _ _ => ?_))
  by_cases h : s.y = 0
  · refine Cd.f (by rw [eqN_t h]; rfl) ?_
    rw [if_pos h] at k
    exact k _ (by assumption)
  · refine Cd.t (by rw [eqN_f h]; rfl) ?_
    rw [if_neg h] at k
    repeat (first
    | (refine AsInt.mk ?_) | (refine AsNat.mk ?_) | (refine AsBool.mk ?_) | (refine AsPtr.mk ?_) | (refine AsSlc.mk ?_) | (refine AsLen.mk ?_) | (refine AsCnt.mk ?_) | (refine AsAgg.mk ?_) | (refine AsTup.mk ?_) | (refine AsFn.mk ?_)
    | (refine NotNil.ptr ?_) | (refine NotNil.ifc ?_) | (refine NotNil.fnc ?_) | (refine IsNil.ptr ?_) | (refine IsNil.ptr0 ?_) | (refine IsNil.slc ?_) | (refine IsNil.slc0 ?_) | (refine IsNil.ifc ?_) | (refine IsNil.ifc0 ?_)
    | (refine Sc.mk rfl ?_) | (refine Same.slc ?_) | (refine Same.ptr ?_) | (refine Same.int ?_) | (refine Same.bool ?_) | (refine Cd.t rfl ?_) | (refine Cd.f rfl ?_) | (refine Cd.t (by decide +kernel) ?_) | (refine Cd.f (by decide +kernel) ?_) | (refine AsWant.mk ?_) | (refine AsStr.mk ?_)
    | (refine ld (by assumption) rfl ?_)
    | (refine nw (by assumption) fun _ _ _ => ?_)
    | (refine stB (by assumption) rfl rfl fun _ _ => ?_))
    exact k _ (by assumption)

theorem cutStay_ok (hc : Con con lives) (s : CutS) {L R : List HP} {H : CH} {p : Nat} {v : Value} {K : KP} (hs : Sat L H) (hp : Pull L (Own p (cutC s v)) R) (k : ∀ H1, Sat (Own p (cutC s.stay v) :: R) H1 → K unit H1) : Call1 Try.prog con 76 [ptr p 0] H K := by
  refine call_of (hc _ _ _ rfl) ?_
  rw [cutStay_W]
  have hs0 := hs.pull hp
  unfold CutS.stay at k
  repeat (first
    | (refine AsInt.mk ?_) | (refine AsNat.mk ?_) | (refine AsBool.mk ?_) | (refine AsPtr.mk ?_) | (refine AsSlc.mk ?_) | (refine AsLen.mk ?_) | (refine AsCnt.mk ?_) | (refine AsAgg.mk ?_) | (refine AsTup.mk ?_) | (refine AsFn.mk ?_)
    | (refine NotNil.ptr ?_) | (refine NotNil.ifc ?_) | (refine NotNil.fnc ?_) | (refine IsNil.ptr ?_) | (refine IsNil.ptr0 ?_) | (refine IsNil.slc ?_) | (refine IsNil.slc0 ?_) | (refine IsNil.ifc ?_) | (refine IsNil.ifc0 ?_)
    | (refine Sc.mk rfl ?_) | (refine Same.slc ?_) | (refine Same.ptr ?_) | (refine Same.int ?_) | (refine Same.bool ?_) | (refine Cd.t rfl ?_) | (refine Cd.f rfl ?_) | (refine Cd.t (by decide +kernel) ?_) | (refine Cd.f (by decide +kernel) ?_) | (refine AsWant.mk ?_) | (refine AsStr.mk ?_)
    | (refine ld (by assumption) rfl ?_)
    | (refine nw (by assumption) fun _ _ _ => ?_)
    | (refine stB (by assumption) rfl rfl fun _ _ => ?_))
  by_cases h : s.y = s.y0
  · refine Cd.f (by rw [eqN_t h]; rfl) ?_
    rw [if_pos h] at k
    exact cutFurther_ok hc s hs0 (by repeat (first | exact Pull.here | apply Pull.there)) k
  · refine Cd.t (by rw [eqN_f h]; rfl) ?_
    rw [if_neg h] at k
    repeat (first
    | (refine AsInt.mk ?_) | (refine AsNat.mk ?_) | (refine AsBool.mk ?_) | (refine AsPtr.mk ?_) | (refine AsSlc.mk ?_) | (refine AsLen.mk ?_) | (refine AsCnt.mk ?_) | (refine AsAgg.mk ?_) | (refine AsTup.mk ?_) | (refine AsFn.mk ?_)
    | (refine NotNil.ptr ?_) | (refine NotNil.ifc ?_) | (refine NotNil.fnc ?_) | (refine IsNil.ptr ?_) | (refine IsNil.ptr0 ?_) | (refine IsNil.slc ?_) | (refine IsNil.slc0 ?_) | (refine IsNil.ifc ?_) | (refine IsNil.ifc0 ?_)
    | (refine Sc.mk rfl ?_) | (refine Same.slc ?_) | (refine Same.ptr ?_) | (refine Same.int ?_) | (refine Same.bool ?_) | (refine Cd.t rfl ?_) | (refine Cd.f rfl ?_) | (refine Cd.t (by decide +kernel) ?_) | (refine Cd.f (by decide +kernel) ?_) | (refine AsWant.mk ?_) | (refine AsStr.mk ?_)
    | (refine ld (by assumption) rfl ?_)
    | (refine nw (by assumption) fun _ _ _ => ?_)
    | (refine stB (by assumption) rfl rfl fun _ _ => ?_))
    exact k _ (by assumption)

theorem cutOn_ok (hc : Con con lives) (s : CutS) {L R : List HP} {H : CH} {p : Nat} {v : Value} {K : KP} (hs : Sat L H) (hp : Pull L (Own p (cutC s v)) R) (k : ∀ H1, Sat (Own p (cutC s.on v) :: R) H1 → K unit H1) : Call1 Try.prog con 75 [ptr p 0] H K := by
  refine call_of (hc _ _ _ rfl) ?_
  rw [cutOn_W]
  have hs0 := hs.pull hp
  unfold CutS.on at k
  repeat (first
    | (refine AsInt.mk ?_) | (refine AsNat.mk ?_) | (refine AsBool.mk ?_) | (refine AsPtr.mk ?_) | (refine AsSlc.mk ?_) | (refine AsLen.mk ?_) | (refine AsCnt.mk ?_) | (refine AsAgg.mk ?_) | (refine AsTup.mk ?_) | (refine AsFn.mk ?_)
    | (refine NotNil.ptr ?_) | (refine NotNil.ifc ?_) | (refine NotNil.fnc ?_) | (refine IsNil.ptr ?_) | (refine IsNil.ptr0 ?_) | (refine IsNil.slc ?_) | (refine IsNil.slc0 ?_) | (refine IsNil.ifc ?_) | (refine IsNil.ifc0 ?_)
    | (refine Sc.mk rfl ?_) | (refine Same.slc ?_) | (refine Same.ptr ?_) | (refine Same.int ?_) | (refine Same.bool ?_) | (refine Cd.t rfl ?_) | (refine Cd.f rfl ?_) | (refine Cd.t (by decide +kernel) ?_) | (refine Cd.f (by decide +kernel) ?_) | (refine AsWant.mk ?_) | (refine AsStr.mk ?_)
    | (refine ld (by assumption) rfl ?_)
    | (refine nw (by assumption) fun _ _ _ => ?_)
    | (refine stB (by assumption) rfl rfl fun _ _ => ?_))
  by_cases h : s.y = 0
  · refine Cd.t (eqN_t h) ?_
    rw [if_pos h] at k
    exact cutStay_ok hc { s with at_ := 4 } (by assumption) (by repeat (first | exact Pull.here | apply Pull.there)) k
  · refine Cd.f (eqN_f h) ?_
    rw [if_neg h] at k
    exact k _ (by assumption)

theorem cutTail (s : CutS) {L R : List HP} {H : CH} {p : Nat} {v : Value} {K : KP} (hs : Sat L H) (hp : Pull L (Own p (cutC s v)) R) (k : ∀ H1, Sat (Own p (cutC s.fin v) :: R) H1 → K (.bool (eqZ (Int.ofNat s.fin.at_) (Int.ofNat 7))) H1) :
    Ld H p 3 fun v => AsInt .i64 v fun z => Cd (eqZ z (Int.ofNat 7)) (Ld H p 11 fun v13 => Sc v13 (St H p 10 [v13] fun H14 => Ld H14 p 3 fun v15 => AsInt .i64 v15 fun z16 => K (.bool (eqZ z16 (Int.ofNat 7))) H14)) (Ld H p 3 fun v17 => AsInt .i64 v17 fun z18 => K (.bool (eqZ z18 (Int.ofNat 7))) H) := by
  have hs0 := hs.pull hp
  unfold CutS.fin at k
  repeat (first
    | (refine AsInt.mk ?_) | (refine AsNat.mk ?_) | (refine AsBool.mk ?_) | (refine AsPtr.mk ?_) | (refine AsSlc.mk ?_) | (refine AsLen.mk ?_) | (refine AsCnt.mk ?_) | (refine AsAgg.mk ?_) | (refine AsTup.mk ?_) | (refine AsFn.mk ?_)
    | (refine NotNil.ptr ?_) | (refine NotNil.ifc ?_) | (refine NotNil.fnc ?_) | (refine IsNil.ptr ?_) | (refine IsNil.ptr0 ?_) | (refine IsNil.slc ?_) | (refine IsNil.slc0 ?_) | (refine IsNil.ifc ?_) | (refine IsNil.ifc0 ?_)
    | (refine Sc.mk rfl ?_) | (refine Same.slc ?_) | (refine Same.ptr ?_) | (refine Same.int ?_) | (refine Same.bool ?_) | (refine Cd.t rfl ?_) | (refine Cd.f rfl ?_) | (refine Cd.t (by decide +kernel) ?_) | (refine Cd.f (by decide +kernel) ?_) | (refine AsWant.mk ?_) | (refine AsStr.mk ?_)
    | (refine ld (by assumption) rfl ?_)
    | (refine nw (by assumption) fun _ _ _ => ?_)
    | (refine stB (by assumption) rfl rfl fun _ _ => ?_))
  by_cases h : s.at_ = 7
  · refine Cd.t (eqZ_t h) ?_
    rw [if_pos h] at k
    repeat (first
    | (refine AsInt.mk ?_) | (refine AsNat.mk ?_) | (refine AsBool.mk ?_) | (refine AsPtr.mk ?_) | (refine AsSlc.mk ?_) | (refine AsLen.mk ?_) | (refine AsCnt.mk ?_) | (refine AsAgg.mk ?_) | (refine AsTup.mk ?_) | (refine AsFn.mk ?_)
    | (refine NotNil.ptr ?_) | (refine NotNil.ifc ?_) | (refine NotNil.fnc ?_) | (refine IsNil.ptr ?_) | (refine IsNil.ptr0 ?_) | (refine IsNil.slc ?_) | (refine IsNil.slc0 ?_) | (refine IsNil.ifc ?_) | (refine IsNil.ifc0 ?_)
    | (refine Sc.mk rfl ?_) | (refine Same.slc ?_) | (refine Same.ptr ?_) | (refine Same.int ?_) | (refine Same.bool ?_) | (refine Cd.t rfl ?_) | (refine Cd.f rfl ?_) | (refine Cd.t (by decide +kernel) ?_) | (refine Cd.f (by decide +kernel) ?_) | (refine AsWant.mk ?_) | (refine AsStr.mk ?_)
    | (refine ld (by assumption) rfl ?_)
    | (refine nw (by assumption) fun _ _ _ => ?_)
    | (refine stB (by assumption) rfl rfl fun _ _ => ?_))
    exact k _ (by assumption)
  · refine Cd.f (eqZ_f h) ?_
    rw [if_neg h] at k
    repeat (first
    | (refine AsInt.mk ?_) | (refine AsNat.mk ?_) | (refine AsBool.mk ?_) | (refine AsPtr.mk ?_) | (refine AsSlc.mk ?_) | (refine AsLen.mk ?_) | (refine AsCnt.mk ?_) | (refine AsAgg.mk ?_) | (refine AsTup.mk ?_) | (refine AsFn.mk ?_)
    | (refine NotNil.ptr ?_) | (refine NotNil.ifc ?_) | (refine NotNil.fnc ?_) | (refine IsNil.ptr ?_) | (refine IsNil.ptr0 ?_) | (refine IsNil.slc ?_) | (refine IsNil.slc0 ?_) | (refine IsNil.ifc ?_) | (refine IsNil.ifc0 ?_)
    | (refine Sc.mk rfl ?_) | (refine Same.slc ?_) | (refine Same.ptr ?_) | (refine Same.int ?_) | (refine Same.bool ?_) | (refine Cd.t rfl ?_) | (refine Cd.f rfl ?_) | (refine Cd.t (by decide +kernel) ?_) | (refine Cd.f (by decide +kernel) ?_) | (refine AsWant.mk ?_) | (refine AsStr.mk ?_)
    | (refine ld (by assumption) rfl ?_)
    | (refine nw (by assumption) fun _ _ _ => ?_)
    | (refine stB (by assumption) rfl rfl fun _ _ => ?_))
    exact k _ hs0

theorem go0 {s : CutS} {M : Mem} {th : Int} (h : s.at_ = 0) : s.go M th = ({ s with x := M.peek s.obj, at_ := if M.peek s.obj = 0 then 7 else 1 }, M.load th s.obj) := by unfold CutS.go; rw [if_pos h]
theorem go1 {s : CutS} {M : Mem} {th : Int} (h : s.at_ = 1) : s.go M th = ({ s with sx := if M.peek (addM s.x 1) = 0 then 18446744073709551615 else M.peek (addM s.x 1), at_ := 2 }, M.load th (addM s.x 1)) := by unfold CutS.go; rw [if_neg (by omega), if_pos h]
theorem go2 {s : CutS} {M : Mem} {th : Int} (h : s.at_ = 2) : s.go M th = ({ s with told := M.peek s.x, at_ := 3 }, M.load th s.x) := by unfold CutS.go; rw [if_neg (by omega), if_neg (by omega), if_pos h]
theorem go3 {s : CutS} {M : Mem} {th : Int} (h : s.at_ = 3) : s.go M th = (({ s with y0 := M.peek (addM s.x 2), y := M.peek (addM s.x 2) } : CutS).on, M.load th (addM s.x 2)) := by unfold CutS.go; rw [if_neg (by omega), if_neg (by omega), if_neg (by omega), if_pos h]
theorem go4 {s : CutS} {M : Mem} {th : Int} (h : s.at_ = 4) : s.go M th = (if needed s.fl s.st (M.peek (addM s.y 1)) s.sx then ({ s with sy := M.peek (addM s.y 1) } : CutS).stay else { s with sy := M.peek (addM s.y 1), found := addM s.found 1, at_ := 5 }, M.load th (addM s.y 1)) := by unfold CutS.go; rw [if_neg (by omega), if_neg (by omega), if_neg (by omega), if_neg (by omega), if_pos h]
theorem go5 {s : CutS} {M : Mem} {th : Int} (h : s.at_ = 5) : s.go M th = (({ s with y := M.peek (addM s.y 2) } : CutS).on, M.load th (addM s.y 2)) := by unfold CutS.go; rw [if_neg (by omega), if_neg (by omega), if_neg (by omega), if_neg (by omega), if_neg (by omega), if_pos h]
theorem go6 {s : CutS} {M : Mem} {th : Int} (h : s.at_ = 6) : s.go M th = (s.further, M.store th (addM s.x 2) s.y) := by unfold CutS.go; rw [if_neg (by omega), if_neg (by omega), if_neg (by omega), if_neg (by omega), if_neg (by omega), if_neg (by omega)]

theorem cutStep_ok (hc : Con con lives) (s : CutS) {L R1 R2 R3 : List HP} {H : CH} {p q m n : Nat} {th : Int} {M : Mem} {v : Value} {K : KP} (hs : Sat L H) (hm : Pull L (MemP m M) R1) (hv : Pull R1 (ViewAt q m th n) R2) (hp : Pull R2 (Own p (cutC s v)) R3) (hq : Has R3 (Nums v s.st)) (hl : s.st.length ≤ 1000000000)
    (hn : n < 1000000000) (ht : M.tr.length < 1000000000) (hat : s.at_ < 7) (k : ∀ H1, Sat (Own p (cutC (s.step M th).1 v) :: MemP m (s.step M th).2 :: ViewAt q m th (n + 1) :: R3) H1 → K (.bool (eqZ (Int.ofNat (s.step M th).1.at_) (Int.ofNat 7))) H1) :
    Call1 Try.prog con 14 [ptr p 0, ptr q 0] H K := by
  refine call_of (hc _ _ _ rfl) ?_
  rw [cutStep_W]
  have hs0 := hs.takes (.cons hm (.cons hv (.cons hp .nil)))
  simp only [List.cons_append, List.nil_append] at hs0
  obtain ⟨obj, fl, st, at_, x, sx, y, y0, sy, found, head, told⟩ := s
  simp only at hat hq hl
  rcases (by omega : at_ = 0 ∨ at_ = 1 ∨ at_ = 2 ∨ at_ = 3 ∨ at_ = 4 ∨ at_ = 5 ∨ at_ = 6) with rfl | rfl | rfl | rfl | rfl | rfl | rfl
  · simp only [CutS.step, go0] at k
    repeat (first
    | (refine AsInt.mk ?_) | (refine AsNat.mk ?_) | (refine AsBool.mk ?_) | (refine AsPtr.mk ?_) | (refine AsSlc.mk ?_) | (refine AsLen.mk ?_) | (refine AsCnt.mk ?_) | (refine AsAgg.mk ?_) | (refine AsTup.mk ?_) | (refine AsFn.mk ?_)
    | (refine NotNil.ptr ?_) | (refine NotNil.ifc ?_) | (refine NotNil.fnc ?_) | (refine IsNil.ptr ?_) | (refine IsNil.ptr0 ?_) | (refine IsNil.slc ?_) | (refine IsNil.slc0 ?_) | (refine IsNil.ifc ?_) | (refine IsNil.ifc0 ?_)
    | (refine Sc.mk rfl ?_) | (refine Same.slc ?_) | (refine Same.ptr ?_) | (refine Same.int ?_) | (refine Same.bool ?_) | (refine Cd.t rfl ?_) | (refine Cd.f rfl ?_) | (refine Cd.t (by decide +kernel) ?_) | (refine Cd.f (by decide +kernel) ?_) | (refine AsWant.mk ?_) | (refine AsStr.mk ?_)
    | (refine ld (by assumption) rfl ?_)
    | (refine nw (by assumption) fun _ _ _ => ?_)
    | (refine stB (by assumption) rfl rfl fun _ _ => ?_))
    refine viewLoad_ok hc hs0 (by repeat (first | exact Pull.here | apply Pull.there)) (by repeat (first | exact Pull.here | apply Pull.there)) hn ht fun H1 h1 => ?_
    repeat (first
    | (refine AsInt.mk ?_) | (refine AsNat.mk ?_) | (refine AsBool.mk ?_) | (refine AsPtr.mk ?_) | (refine AsSlc.mk ?_) | (refine AsLen.mk ?_) | (refine AsCnt.mk ?_) | (refine AsAgg.mk ?_) | (refine AsTup.mk ?_) | (refine AsFn.mk ?_)
    | (refine NotNil.ptr ?_) | (refine NotNil.ifc ?_) | (refine NotNil.fnc ?_) | (refine IsNil.ptr ?_) | (refine IsNil.ptr0 ?_) | (refine IsNil.slc ?_) | (refine IsNil.slc0 ?_) | (refine IsNil.ifc ?_) | (refine IsNil.ifc0 ?_)
    | (refine Sc.mk rfl ?_) | (refine Same.slc ?_) | (refine Same.ptr ?_) | (refine Same.int ?_) | (refine Same.bool ?_) | (refine Cd.t rfl ?_) | (refine Cd.f rfl ?_) | (refine Cd.t (by decide +kernel) ?_) | (refine Cd.f (by decide +kernel) ?_) | (refine AsWant.mk ?_) | (refine AsStr.mk ?_)
    | (refine ld (by assumption) rfl ?_)
    | (refine nw (by assumption) fun _ _ _ => ?_)
    | (refine stB (by assumption) rfl rfl fun _ _ => ?_))
    by_cases h : M.peek obj = 0
    · refine Cd.t (eqN_t h) (stB (by assumption) rfl rfl fun H9 h9 => ?_)
      simp only [if_pos h] at k
      exact cutTail ⟨obj, fl, st, 7, M.peek obj, sx, y, y0, sy, found, head, told⟩ h9 (by repeat (first | exact Pull.here | apply Pull.there)) k
    · refine Cd.f (eqN_f h) ?_
      simp only [if_neg h] at k
      exact cutTail ⟨obj, fl, st, 1, M.peek obj, sx, y, y0, sy, found, head, told⟩ (by assumption) (by repeat (first | exact Pull.here | apply Pull.there)) k
  · simp only [CutS.step, go1] at k
    repeat (first
    | (refine AsInt.mk ?_) | (refine AsNat.mk ?_) | (refine AsBool.mk ?_) | (refine AsPtr.mk ?_) | (refine AsSlc.mk ?_) | (refine AsLen.mk ?_) | (refine AsCnt.mk ?_) | (refine AsAgg.mk ?_) | (refine AsTup.mk ?_) | (refine AsFn.mk ?_)
    | (refine NotNil.ptr ?_) | (refine NotNil.ifc ?_) | (refine NotNil.fnc ?_) | (refine IsNil.ptr ?_) | (refine IsNil.ptr0 ?_) | (refine IsNil.slc ?_) | (refine IsNil.slc0 ?_) | (refine IsNil.ifc ?_) | (refine IsNil.ifc0 ?_)
    | (refine Sc.mk rfl ?_) | (refine Same.slc ?_) | (refine Same.ptr ?_) | (refine Same.int ?_) | (refine Same.bool ?_) | (refine Cd.t rfl ?_) | (refine Cd.f rfl ?_) | (refine Cd.t (by decide +kernel) ?_) | (refine Cd.f (by decide +kernel) ?_) | (refine AsWant.mk ?_) | (refine AsStr.mk ?_)
    | (refine ld (by assumption) rfl ?_)
    | (refine nw (by assumption) fun _ _ _ => ?_)
    | (refine stB (by assumption) rfl rfl fun _ _ => ?_))
    refine viewLoad_ok hc hs0 (by repeat (first | exact Pull.here | apply Pull.there)) (by repeat (first | exact Pull.here | apply Pull.there)) hn ht fun H1 h1 => ?_
    refine Sc.mk rfl (stB h1 rfl rfl fun H2 h2 => ?_)
    repeat (first
    | (refine AsInt.mk ?_) | (refine AsNat.mk ?_) | (refine AsBool.mk ?_) | (refine AsPtr.mk ?_) | (refine AsSlc.mk ?_) | (refine AsLen.mk ?_) | (refine AsCnt.mk ?_) | (refine AsAgg.mk ?_) | (refine AsTup.mk ?_) | (refine AsFn.mk ?_)
    | (refine NotNil.ptr ?_) | (refine NotNil.ifc ?_) | (refine NotNil.fnc ?_) | (refine IsNil.ptr ?_) | (refine IsNil.ptr0 ?_) | (refine IsNil.slc ?_) | (refine IsNil.slc0 ?_) | (refine IsNil.ifc ?_) | (refine IsNil.ifc0 ?_)
    | (refine Sc.mk rfl ?_) | (refine Same.slc ?_) | (refine Same.ptr ?_) | (refine Same.int ?_) | (refine Same.bool ?_) | (refine Cd.t rfl ?_) | (refine Cd.f rfl ?_) | (refine Cd.t (by decide +kernel) ?_) | (refine Cd.f (by decide +kernel) ?_) | (refine AsWant.mk ?_) | (refine AsStr.mk ?_)
    | (refine ld (by assumption) rfl ?_)
    | (refine nw (by assumption) fun _ _ _ => ?_)
    | (refine stB (by assumption) rfl rfl fun _ _ => ?_))
    by_cases h : M.peek (addM x 1) = 0
    · refine Cd.t (eqN_t h) (stB (by assumption) rfl rfl fun H8 h8 => stB h8 rfl rfl fun H9 h9 => ?_)
      simp only [if_pos h] at k
      exact cutTail ⟨obj, fl, st, 2, x, 18446744073709551615, y, y0, sy, found, head, told⟩ h9 (by repeat (first | exact Pull.here | apply Pull.there)) k
    · refine Cd.f (eqN_f h) (stB (by assumption) rfl rfl fun H9 h9 => ?_)
      simp only [if_neg h] at k
      exact cutTail ⟨obj, fl, st, 2, x, M.peek (addM x 1), y, y0, sy, found, head, told⟩ h9 (by repeat (first | exact Pull.here | apply Pull.there)) k
  · simp only [CutS.step, go2] at k
    repeat (first
    | (refine AsInt.mk ?_) | (refine AsNat.mk ?_) | (refine AsBool.mk ?_) | (refine AsPtr.mk ?_) | (refine AsSlc.mk ?_) | (refine AsLen.mk ?_) | (refine AsCnt.mk ?_) | (refine AsAgg.mk ?_) | (refine AsTup.mk ?_) | (refine AsFn.mk ?_)
    | (refine NotNil.ptr ?_) | (refine NotNil.ifc ?_) | (refine NotNil.fnc ?_) | (refine IsNil.ptr ?_) | (refine IsNil.ptr0 ?_) | (refine IsNil.slc ?_) | (refine IsNil.slc0 ?_) | (refine IsNil.ifc ?_) | (refine IsNil.ifc0 ?_)
    | (refine Sc.mk rfl ?_) | (refine Same.slc ?_) | (refine Same.ptr ?_) | (refine Same.int ?_) | (refine Same.bool ?_) | (refine Cd.t rfl ?_) | (refine Cd.f rfl ?_) | (refine Cd.t (by decide +kernel) ?_) | (refine Cd.f (by decide +kernel) ?_) | (refine AsWant.mk ?_) | (refine AsStr.mk ?_)
    | (refine ld (by assumption) rfl ?_)
    | (refine nw (by assumption) fun _ _ _ => ?_)
    | (refine stB (by assumption) rfl rfl fun _ _ => ?_))
    refine viewLoad_ok hc hs0 (by repeat (first | exact Pull.here | apply Pull.there)) (by repeat (first | exact Pull.here | apply Pull.there)) hn ht fun H1 h1 => ?_
    refine Sc.mk rfl (stB h1 rfl rfl fun H2 h2 => stB h2 rfl rfl fun H3 h3 => ?_)
    exact cutTail ⟨obj, fl, st, 3, x, sx, y, y0, sy, found, head, M.peek x⟩ h3 (by repeat (first | exact Pull.here | apply Pull.there)) k
  · simp only [CutS.step, go3] at k
    repeat (first
    | (refine AsInt.mk ?_) | (refine AsNat.mk ?_) | (refine AsBool.mk ?_) | (refine AsPtr.mk ?_) | (refine AsSlc.mk ?_) | (refine AsLen.mk ?_) | (refine AsCnt.mk ?_) | (refine AsAgg.mk ?_) | (refine AsTup.mk ?_) | (refine AsFn.mk ?_)
    | (refine NotNil.ptr ?_) | (refine NotNil.ifc ?_) | (refine NotNil.fnc ?_) | (refine IsNil.ptr ?_) | (refine IsNil.ptr0 ?_) | (refine IsNil.slc ?_) | (refine IsNil.slc0 ?_) | (refine IsNil.ifc ?_) | (refine IsNil.ifc0 ?_)
    | (refine Sc.mk rfl ?_) | (refine Same.slc ?_) | (refine Same.ptr ?_) | (refine Same.int ?_) | (refine Same.bool ?_) | (refine Cd.t rfl ?_) | (refine Cd.f rfl ?_) | (refine Cd.t (by decide +kernel) ?_) | (refine Cd.f (by decide +kernel) ?_) | (refine AsWant.mk ?_) | (refine AsStr.mk ?_)
    | (refine ld (by assumption) rfl ?_)
    | (refine nw (by assumption) fun _ _ _ => ?_)
    | (refine stB (by assumption) rfl rfl fun _ _ => ?_))
    refine viewLoad_ok hc hs0 (by repeat (first | exact Pull.here | apply Pull.there)) (by repeat (first | exact Pull.here | apply Pull.there)) hn ht fun H1 h1 => ?_
    repeat (first
    | (refine AsInt.mk ?_) | (refine AsNat.mk ?_) | (refine AsBool.mk ?_) | (refine AsPtr.mk ?_) | (refine AsSlc.mk ?_) | (refine AsLen.mk ?_) | (refine AsCnt.mk ?_) | (refine AsAgg.mk ?_) | (refine AsTup.mk ?_) | (refine AsFn.mk ?_)
    | (refine NotNil.ptr ?_) | (refine NotNil.ifc ?_) | (refine NotNil.fnc ?_) | (refine IsNil.ptr ?_) | (refine IsNil.ptr0 ?_) | (refine IsNil.slc ?_) | (refine IsNil.slc0 ?_) | (refine IsNil.ifc ?_) | (refine IsNil.ifc0 ?_)
    | (refine Sc.mk rfl ?_) | (refine Same.slc ?_) | (refine Same.ptr ?_) | (refine Same.int ?_) | (refine Same.bool ?_) | (refine Cd.t rfl ?_) | (refine Cd.f rfl ?_) | (refine Cd.t (by decide +kernel) ?_) | (refine Cd.f (by decide +kernel) ?_) | (refine AsWant.mk ?_) | (refine AsStr.mk ?_)
    | (refine ld (by assumption) rfl ?_)
    | (refine nw (by assumption) fun _ _ _ => ?_)
    | (refine stB (by assumption) rfl rfl fun _ _ => ?_))
    refine cutOn_ok hc ⟨obj, fl, st, 3, x, sx, M.peek (addM x 2), M.peek (addM x 2), sy, found, head, told⟩ (by assumption) (by repeat (first | exact Pull.here | apply Pull.there)) fun H4 h4 => ?_
    exact cutTail _ h4 (by repeat (first | exact Pull.here | apply Pull.there)) k
  · simp only [CutS.step, go4] at k
    repeat (first
    | (refine AsInt.mk ?_) | (refine AsNat.mk ?_) | (refine AsBool.mk ?_) | (refine AsPtr.mk ?_) | (refine AsSlc.mk ?_) | (refine AsLen.mk ?_) | (refine AsCnt.mk ?_) | (refine AsAgg.mk ?_) | (refine AsTup.mk ?_) | (refine AsFn.mk ?_)
    | (refine NotNil.ptr ?_) | (refine NotNil.ifc ?_) | (refine NotNil.fnc ?_) | (refine IsNil.ptr ?_) | (refine IsNil.ptr0 ?_) | (refine IsNil.slc ?_) | (refine IsNil.slc0 ?_) | (refine IsNil.ifc ?_) | (refine IsNil.ifc0 ?_)
    | (refine Sc.mk rfl ?_) | (refine Same.slc ?_) | (refine Same.ptr ?_) | (refine Same.int ?_) | (refine Same.bool ?_) | (refine Cd.t rfl ?_) | (refine Cd.f rfl ?_) | (refine Cd.t (by decide +kernel) ?_) | (refine Cd.f (by decide +kernel) ?_) | (refine AsWant.mk ?_) | (refine AsStr.mk ?_)
    | (refine ld (by assumption) rfl ?_)
    | (refine nw (by assumption) fun _ _ _ => ?_)
    | (refine stB (by assumption) rfl rfl fun _ _ => ?_))
    refine viewLoad_ok hc hs0 (by repeat (first | exact Pull.here | apply Pull.there)) (by repeat (first | exact Pull.here | apply Pull.there)) hn ht fun H1 h1 => ?_
    refine Sc.mk rfl (stB h1 rfl rfl fun H2 h2 => ?_)
    repeat (first
    | (refine AsInt.mk ?_) | (refine AsNat.mk ?_) | (refine AsBool.mk ?_) | (refine AsPtr.mk ?_) | (refine AsSlc.mk ?_) | (refine AsLen.mk ?_) | (refine AsCnt.mk ?_) | (refine AsAgg.mk ?_) | (refine AsTup.mk ?_) | (refine AsFn.mk ?_)
    | (refine NotNil.ptr ?_) | (refine NotNil.ifc ?_) | (refine NotNil.fnc ?_) | (refine IsNil.ptr ?_) | (refine IsNil.ptr0 ?_) | (refine IsNil.slc ?_) | (refine IsNil.slc0 ?_) | (refine IsNil.ifc ?_) | (refine IsNil.ifc0 ?_)
    | (refine Sc.mk rfl ?_) | (refine Same.slc ?_) | (refine Same.ptr ?_) | (refine Same.int ?_) | (refine Same.bool ?_) | (refine Cd.t rfl ?_) | (refine Cd.f rfl ?_) | (refine Cd.t (by decide +kernel) ?_) | (refine Cd.f (by decide +kernel) ?_) | (refine AsWant.mk ?_) | (refine AsStr.mk ?_)
    | (refine ld (by assumption) rfl ?_)
    | (refine nw (by assumption) fun _ _ _ => ?_)
    | (refine stB (by assumption) rfl rfl fun _ _ => ?_))
    refine needed_ok hc h2 (Has.skip (Has.skip (Has.skip hq))) hl fun H3 h3 => ?_
    repeat (first
    | (refine AsInt.mk ?_) | (refine AsNat.mk ?_) | (refine AsBool.mk ?_) | (refine AsPtr.mk ?_) | (refine AsSlc.mk ?_) | (refine AsLen.mk ?_) | (refine AsCnt.mk ?_) | (refine AsAgg.mk ?_) | (refine AsTup.mk ?_) | (refine AsFn.mk ?_)
    | (refine NotNil.ptr ?_) | (refine NotNil.ifc ?_) | (refine NotNil.fnc ?_) | (refine IsNil.ptr ?_) | (refine IsNil.ptr0 ?_) | (refine IsNil.slc ?_) | (refine IsNil.slc0 ?_) | (refine IsNil.ifc ?_) | (refine IsNil.ifc0 ?_)
    | (refine Sc.mk rfl ?_) | (refine Same.slc ?_) | (refine Same.ptr ?_) | (refine Same.int ?_) | (refine Same.bool ?_) | (refine Cd.t rfl ?_) | (refine Cd.f rfl ?_) | (refine Cd.t (by decide +kernel) ?_) | (refine Cd.f (by decide +kernel) ?_) | (refine AsWant.mk ?_) | (refine AsStr.mk ?_)
    | (refine ld (by assumption) rfl ?_)
    | (refine nw (by assumption) fun _ _ _ => ?_)
    | (refine stB (by assumption) rfl rfl fun _ _ => ?_))
    cases hnd : needed fl st (M.peek (addM y 1)) sx with
    | true =>
      simp only [hnd, if_true] at k
      refine Cd.t rfl ?_
      refine cutStay_ok hc ⟨obj, fl, st, 4, x, sx, y, y0, M.peek (addM y 1), found, head, told⟩ h3 (by repeat (first | exact Pull.here | apply Pull.there)) fun H4 h4 => ?_
      exact cutTail _ h4 (by repeat (first | exact Pull.here | apply Pull.there)) k
    | false =>
      simp only [hnd] at k
      refine Cd.f rfl (ld h3 rfl (AsNat.mk (stB h3 rfl rfl fun H4 h4 => stB h4 rfl rfl fun H5 h5 => ?_)))
      exact cutTail ⟨obj, fl, st, 5, x, sx, y, y0, M.peek (addM y 1), addM found 1, head, told⟩ h5 (by repeat (first | exact Pull.here | apply Pull.there)) k
  · simp only [CutS.step, go5] at k
    repeat (first
    | (refine AsInt.mk ?_) | (refine AsNat.mk ?_) | (refine AsBool.mk ?_) | (refine AsPtr.mk ?_) | (refine AsSlc.mk ?_) | (refine AsLen.mk ?_) | (refine AsCnt.mk ?_) | (refine AsAgg.mk ?_) | (refine AsTup.mk ?_) | (refine AsFn.mk ?_)
    | (refine NotNil.ptr ?_) | (refine NotNil.ifc ?_) | (refine NotNil.fnc ?_) | (refine IsNil.ptr ?_) | (refine IsNil.ptr0 ?_) | (refine IsNil.slc ?_) | (refine IsNil.slc0 ?_) | (refine IsNil.ifc ?_) | (refine IsNil.ifc0 ?_)
    | (refine Sc.mk rfl ?_) | (refine Same.slc ?_) | (refine Same.ptr ?_) | (refine Same.int ?_) | (refine Same.bool ?_) | (refine Cd.t rfl ?_) | (refine Cd.f rfl ?_) | (refine Cd.t (by decide +kernel) ?_) | (refine Cd.f (by decide +kernel) ?_) | (refine AsWant.mk ?_) | (refine AsStr.mk ?_)
    | (refine ld (by assumption) rfl ?_)
    | (refine nw (by assumption) fun _ _ _ => ?_)
    | (refine stB (by assumption) rfl rfl fun _ _ => ?_))
    refine viewLoad_ok hc hs0 (by repeat (first | exact Pull.here | apply Pull.there)) (by repeat (first | exact Pull.here | apply Pull.there)) hn ht fun H1 h1 => ?_
    repeat (first
    | (refine AsInt.mk ?_) | (refine AsNat.mk ?_) | (refine AsBool.mk ?_) | (refine AsPtr.mk ?_) | (refine AsSlc.mk ?_) | (refine AsLen.mk ?_) | (refine AsCnt.mk ?_) | (refine AsAgg.mk ?_) | (refine AsTup.mk ?_) | (refine AsFn.mk ?_)
    | (refine NotNil.ptr ?_) | (refine NotNil.ifc ?_) | (refine NotNil.fnc ?_) | (refine IsNil.ptr ?_) | (refine IsNil.ptr0 ?_) | (refine IsNil.slc ?_) | (refine IsNil.slc0 ?_) | (refine IsNil.ifc ?_) | (refine IsNil.ifc0 ?_)
    | (refine Sc.mk rfl ?_) | (refine Same.slc ?_) | (refine Same.ptr ?_) | (refine Same.int ?_) | (refine Same.bool ?_) | (refine Cd.t rfl ?_) | (refine Cd.f rfl ?_) | (refine Cd.t (by decide +kernel) ?_) | (refine Cd.f (by decide +kernel) ?_) | (refine AsWant.mk ?_) | (refine AsStr.mk ?_)
    | (refine ld (by assumption) rfl ?_)
    | (refine nw (by assumption) fun _ _ _ => ?_)
    | (refine stB (by assumption) rfl rfl fun _ _ => ?_))
    refine cutOn_ok hc ⟨obj, fl, st, 5, x, sx, M.peek (addM y 2), y0, sy, found, head, told⟩ (by assumption) (by repeat (first | exact Pull.here | apply Pull.there)) fun H4 h4 => ?_
    exact cutTail _ h4 (by repeat (first | exact Pull.here | apply Pull.there)) k
  · simp only [CutS.step, go6] at k
    repeat (first
    | (refine AsInt.mk ?_) | (refine AsNat.mk ?_) | (refine AsBool.mk ?_) | (refine AsPtr.mk ?_) | (refine AsSlc.mk ?_) | (refine AsLen.mk ?_) | (refine AsCnt.mk ?_) | (refine AsAgg.mk ?_) | (refine AsTup.mk ?_) | (refine AsFn.mk ?_)
    | (refine NotNil.ptr ?_) | (refine NotNil.ifc ?_) | (refine NotNil.fnc ?_) | (refine IsNil.ptr ?_) | (refine IsNil.ptr0 ?_) | (refine IsNil.slc ?_) | (refine IsNil.slc0 ?_) | (refine IsNil.ifc ?_) | (refine IsNil.ifc0 ?_)
    | (refine Sc.mk rfl ?_) | (refine Same.slc ?_) | (refine Same.ptr ?_) | (refine Same.int ?_) | (refine Same.bool ?_) | (refine Cd.t rfl ?_) | (refine Cd.f rfl ?_) | (refine Cd.t (by decide +kernel) ?_) | (refine Cd.f (by decide +kernel) ?_) | (refine AsWant.mk ?_) | (refine AsStr.mk ?_)
    | (refine ld (by assumption) rfl ?_)
    | (refine nw (by assumption) fun _ _ _ => ?_)
    | (refine stB (by assumption) rfl rfl fun _ _ => ?_))
    refine viewStore_ok hc hs0 (by repeat (first | exact Pull.here | apply Pull.there)) (by repeat (first | exact Pull.here | apply Pull.there)) hn ht fun H1 h1 => ?_
    refine cutFurther_ok hc ⟨obj, fl, st, 6, x, sx, y, y0, sy, found, head, told⟩ h1 (by repeat (first | exact Pull.here | apply Pull.there)) fun H4 h4 => ?_
    exact cutTail _ h4 (by repeat (first | exact Pull.here | apply Pull.there)) k
end Go.Proofs.Ytipbbnoepphdkaa

namespace Go.Proofs.Ytipbbnoepphdkaa
open Go Go.CM
attribute [local irreducible] AsBool AsWant AsNat AsInt AsCnt AsPtr AsSlc AsLen AsStr AsAgg AsTup AsFn AsIfc Nth Sc NotNil IsNil Must Cd codeW funW Sat SatL wrapN subM mkRow ltZ leZ ltN leN
variable {con : CallT}

/-! ### the document's cut -/
def ratN (a : Nat) : Nat := if a = 7 then 9 else a
def rcutC (s : CutS) (nx : Nat) (v : Value) : List Value := [iN (ratN s.at_), u64 s.obj, u64 s.fl, v, u64 s.x, u64 s.sx, u64 s.y, u64 s.y0, u64 nx, u64 s.found, u64 s.told, u64 (if s.at_ = 7 then s.found else 0), u64 s.head]
/-- What is to be kept next, where it matters. -/
def NxOk (s : CutS) (nx : Nat) : Prop := s.at_ = 6 → s.y ≠ 0 → nx = s.sy

theorem rcutEnd_ok (hc : Con con lives) (s : CutS) (nx : Nat) {L R : List HP} {H : CH} {p : Nat} {v : Value} {K : KP} (h7 : s.at_ < 7) (hs : Sat L H) (hp : Pull L (Own p (rcutC s nx v)) R) (k : ∀ H1, Sat (Own p (rcutC ({ s with at_ := 7 } : CutS).fin nx v) :: R) H1 → K unit H1) : Call1 Try.prog con 89 [ptr p 0] H K := by
  refine call_of (hc _ _ _ rfl) ?_
  rw [rcutEnd_W]
  have hs0 := hs.pull hp
  have e : ({ s with at_ := 7 } : CutS).fin = { s with at_ := 7, head := s.told } := rfl
  rw [e] at k
  repeat (first
    | (refine AsInt.mk ?_) | (refine AsNat.mk ?_) | (refine AsBool.mk ?_) | (refine AsPtr.mk ?_) | (refine AsSlc.mk ?_) | (refine AsLen.mk ?_) | (refine AsCnt.mk ?_) | (refine AsAgg.mk ?_) | (refine AsTup.mk ?_) | (refine AsFn.mk ?_)
    | (refine NotNil.ptr ?_) | (refine NotNil.ifc ?_) | (refine NotNil.fnc ?_) | (refine IsNil.ptr ?_) | (refine IsNil.ptr0 ?_) | (refine IsNil.slc ?_) | (refine IsNil.slc0 ?_) | (refine IsNil.ifc ?_) | (refine IsNil.ifc0 ?_)
    | (refine Sc.mk rfl ?_) | (refine Same.slc ?_) | (refine Same.ptr ?_) | (refine Same.int ?_) | (refine Same.bool ?_) | (refine Cd.t rfl ?_) | (refine Cd.f rfl ?_) | (refine Cd.t (by decide +kernel) ?_) | (refine Cd.f (by decide +kernel) ?_) | (refine AsWant.mk ?_) | (refine AsStr.mk ?_)
    | (refine ld (by assumption) rfl ?_)
    | (refine nw (by assumption) fun _ _ _ => ?_)
    | (refine stB (by assumption) rfl rfl fun _ _ => ?_))
  exact k _ (by assumption)

theorem ratN_lt {a : Nat} (h : a < 7) : ratN a = a := by unfold ratN; rw [if_neg (by omega)]

theorem rcutEnough_ok (hc : Con con lives) (s : CutS) (nx a : Nat) {L R : List HP} {H : CH} {p : Nat} {v : Value} {K : KP} (h7 : s.at_ < 7) (ha : s.y ≠ 0 → a = s.sy) (hs : Sat L H) (hp : Pull L (Own p (rcutC s nx v)) R) (k : ∀ H1, Sat (Own p (rcutC s.stay.fin a v) :: R) H1 → K unit H1) : Call1 Try.prog con 90 [ptr p 0, u64 a] H K := by
  refine call_of (hc _ _ _ rfl) ?_
  rw [rcutEnough_W]
  have hs0 := hs.pull hp
  have c11 : (if s.at_ = 7 then s.found else 0) = 0 := if_neg (by omega)
  unfold CutS.stay CutS.further at k
  repeat (first
    | (refine AsInt.mk ?_) | (refine AsNat.mk ?_) | (refine AsBool.mk ?_) | (refine AsPtr.mk ?_) | (refine AsSlc.mk ?_) | (refine AsLen.mk ?_) | (refine AsCnt.mk ?_) | (refine AsAgg.mk ?_) | (refine AsTup.mk ?_) | (refine AsFn.mk ?_)
    | (refine NotNil.ptr ?_) | (refine NotNil.ifc ?_) | (refine NotNil.fnc ?_) | (refine IsNil.ptr ?_) | (refine IsNil.ptr0 ?_) | (refine IsNil.slc ?_) | (refine IsNil.slc0 ?_) | (refine IsNil.ifc ?_) | (refine IsNil.ifc0 ?_)
    | (refine Sc.mk rfl ?_) | (refine Same.slc ?_) | (refine Same.ptr ?_) | (refine Same.int ?_) | (refine Same.bool ?_) | (refine Cd.t rfl ?_) | (refine Cd.f rfl ?_) | (refine Cd.t (by decide +kernel) ?_) | (refine Cd.f (by decide +kernel) ?_) | (refine AsWant.mk ?_) | (refine AsStr.mk ?_)
    | (refine ld (by assumption) rfl ?_)
    | (refine nw (by assumption) fun _ _ _ => ?_)
    | (refine stB (by assumption) rfl rfl fun _ _ => ?_))
  by_cases h : s.y = s.y0
  · refine Cd.f (by rw [eqN_t h]; rfl) ?_
    rw [if_pos h] at k
    repeat (first
    | (refine AsInt.mk ?_) | (refine AsNat.mk ?_) | (refine AsBool.mk ?_) | (refine AsPtr.mk ?_) | (refine AsSlc.mk ?_) | (refine AsLen.mk ?_) | (refine AsCnt.mk ?_) | (refine AsAgg.mk ?_) | (refine AsTup.mk ?_) | (refine AsFn.mk ?_)
    | (refine NotNil.ptr ?_) | (refine NotNil.ifc ?_) | (refine NotNil.fnc ?_) | (refine IsNil.ptr ?_) | (refine IsNil.ptr0 ?_) | (refine IsNil.slc ?_) | (refine IsNil.slc0 ?_) | (refine IsNil.ifc ?_) | (refine IsNil.ifc0 ?_)
    | (refine Sc.mk rfl ?_) | (refine Same.slc ?_) | (refine Same.ptr ?_) | (refine Same.int ?_) | (refine Same.bool ?_) | (refine Cd.t rfl ?_) | (refine Cd.f rfl ?_) | (refine Cd.t (by decide +kernel) ?_) | (refine Cd.f (by decide +kernel) ?_) | (refine AsWant.mk ?_) | (refine AsStr.mk ?_)
    | (refine ld (by assumption) rfl ?_)
    | (refine nw (by assumption) fun _ _ _ => ?_)
    | (refine stB (by assumption) rfl rfl fun _ _ => ?_))
    by_cases h0 : s.y = 0
    · rw [if_pos h0] at k
      refine Cd.t (eqN_t h0) ?_
      exact rcutEnd_ok hc s a h7 (by assumption) (by repeat (first | exact Pull.here | apply Pull.there)) k
    · rw [if_neg h0] at k
      refine Cd.f (eqN_f h0) ?_
      rw [ha h0] at *
      have e : ({ s with x := s.y, sx := s.sy, at_ := 3 } : CutS).fin = { s with x := s.y, sx := s.sy, at_ := 3 } := rfl
      rw [e] at k
      have hf : (if s.at_ = 7 then s.found else 0) = (if (3 : Nat) = 7 then s.found else 0) := by rw [c11]; rfl
      repeat (first
    | (refine AsInt.mk ?_) | (refine AsNat.mk ?_) | (refine AsBool.mk ?_) | (refine AsPtr.mk ?_) | (refine AsSlc.mk ?_) | (refine AsLen.mk ?_) | (refine AsCnt.mk ?_) | (refine AsAgg.mk ?_) | (refine AsTup.mk ?_) | (refine AsFn.mk ?_)
    | (refine NotNil.ptr ?_) | (refine NotNil.ifc ?_) | (refine NotNil.fnc ?_) | (refine IsNil.ptr ?_) | (refine IsNil.ptr0 ?_) | (refine IsNil.slc ?_) | (refine IsNil.slc0 ?_) | (refine IsNil.ifc ?_) | (refine IsNil.ifc0 ?_)
    | (refine Sc.mk rfl ?_) | (refine Same.slc ?_) | (refine Same.ptr ?_) | (refine Same.int ?_) | (refine Same.bool ?_) | (refine Cd.t rfl ?_) | (refine Cd.f rfl ?_) | (refine Cd.t (by decide +kernel) ?_) | (refine Cd.f (by decide +kernel) ?_) | (refine AsWant.mk ?_) | (refine AsStr.mk ?_)
    | (refine ld (by assumption) rfl ?_)
    | (refine nw (by assumption) fun _ _ _ => ?_)
    | (refine stB (by assumption) rfl rfl fun _ _ => ?_))
      refine k _ ?_
      unfold rcutC
      rw [← hf]
      assumption
  · refine Cd.t (by rw [eqN_f h]; rfl) ?_
    rw [if_neg h] at k
    have e : ({ s with at_ := 6 } : CutS).fin = { s with at_ := 6 } := rfl
    rw [e] at k
    have hf : (if s.at_ = 7 then s.found else 0) = (if (6 : Nat) = 7 then s.found else 0) := by rw [c11]; rfl
    repeat (first
    | (refine AsInt.mk ?_) | (refine AsNat.mk ?_) | (refine AsBool.mk ?_) | (refine AsPtr.mk ?_) | (refine AsSlc.mk ?_) | (refine AsLen.mk ?_) | (refine AsCnt.mk ?_) | (refine AsAgg.mk ?_) | (refine AsTup.mk ?_) | (refine AsFn.mk ?_)
    | (refine NotNil.ptr ?_) | (refine NotNil.ifc ?_) | (refine NotNil.fnc ?_) | (refine IsNil.ptr ?_) | (refine IsNil.ptr0 ?_) | (refine IsNil.slc ?_) | (refine IsNil.slc0 ?_) | (refine IsNil.ifc ?_) | (refine IsNil.ifc0 ?_)
    | (refine Sc.mk rfl ?_) | (refine Same.slc ?_) | (refine Same.ptr ?_) | (refine Same.int ?_) | (refine Same.bool ?_) | (refine Cd.t rfl ?_) | (refine Cd.f rfl ?_) | (refine Cd.t (by decide +kernel) ?_) | (refine Cd.f (by decide +kernel) ?_) | (refine AsWant.mk ?_) | (refine AsStr.mk ?_)
    | (refine ld (by assumption) rfl ?_)
    | (refine nw (by assumption) fun _ _ _ => ?_)
    | (refine stB (by assumption) rfl rfl fun _ _ => ?_))
    refine k _ ?_
    unfold rcutC
    rw [← hf]
    assumption

theorem rcutTail (s : CutS) (nx : Nat) {L R : List HP} {H : CH} {p : Nat} {v : Value} {K : KP} (hs : Sat L H) (hp : Pull L (Own p (rcutC s nx v)) R) (k : Sat (Own p (rcutC s nx v) :: R) H → K (.bool (eqZ (Int.ofNat s.at_) (Int.ofNat 7))) H) (h : s.at_ ≤ 7) :
    Ld H p 0 fun v => AsInt .i64 v fun z => K (.bool (eqZ z (Int.ofNat 9))) H := by
  have hs0 := hs.pull hp
  have e : eqZ (Int.ofNat (ratN s.at_)) (Int.ofNat 9) = eqZ (Int.ofNat s.at_) (Int.ofNat 7) := by
    unfold ratN
    by_cases h7 : s.at_ = 7
    · rw [if_pos h7, eqZ_t rfl, eqZ_t h7]
    · rw [if_neg h7, eqZ_f (by omega), eqZ_f h7]
  repeat (first
    | (refine AsInt.mk ?_) | (refine AsNat.mk ?_) | (refine AsBool.mk ?_) | (refine AsPtr.mk ?_) | (refine AsSlc.mk ?_) | (refine AsLen.mk ?_) | (refine AsCnt.mk ?_) | (refine AsAgg.mk ?_) | (refine AsTup.mk ?_) | (refine AsFn.mk ?_)
    | (refine NotNil.ptr ?_) | (refine NotNil.ifc ?_) | (refine NotNil.fnc ?_) | (refine IsNil.ptr ?_) | (refine IsNil.ptr0 ?_) | (refine IsNil.slc ?_) | (refine IsNil.slc0 ?_) | (refine IsNil.ifc ?_) | (refine IsNil.ifc0 ?_)
    | (refine Sc.mk rfl ?_) | (refine Same.slc ?_) | (refine Same.ptr ?_) | (refine Same.int ?_) | (refine Same.bool ?_) | (refine Cd.t rfl ?_) | (refine Cd.f rfl ?_) | (refine Cd.t (by decide +kernel) ?_) | (refine Cd.f (by decide +kernel) ?_) | (refine AsWant.mk ?_) | (refine AsStr.mk ?_)
    | (refine ld (by assumption) rfl ?_)
    | (refine nw (by assumption) fun _ _ _ => ?_)
    | (refine stB (by assumption) rfl rfl fun _ _ => ?_))
  rw [e]
  exact k hs0

theorem further_le (s : CutS) : s.further.at_ ≤ 7 := by unfold CutS.further; split <;> simp
theorem stay_le (s : CutS) : s.stay.at_ ≤ 7 := by unfold CutS.stay; split; exact further_le s; simp
theorem fin_at (s : CutS) : s.fin.at_ = s.at_ := by unfold CutS.fin; split <;> rfl
theorem fin_nx {s : CutS} {nx : Nat} (h : NxOk s nx) : NxOk s.fin nx := by
  unfold CutS.fin; split
  · intro h6; simp_all
  · exact h
theorem stay_nx {s : CutS} (nx : Nat) (h : s.y ≠ 0 → nx = s.sy) : NxOk s.stay nx := by
  unfold CutS.stay CutS.further
  split
  · split <;> (intro h6; simp at h6)
  · exact fun _ h1 => h h1

theorem rcutStep_ok (hc : Con con lives) (s : CutS) (nx : Nat) {L R1 R3 : List HP} {H : CH} {p m : Nat} {th : Int} {M : Mem} {v : Value} {K : KP} (hnx : NxOk s nx) (hs : Sat L H) (hm : Pull L (RefP m M) R1) (hp : Pull R1 (Own p (rcutC s nx v)) R3) (hq : Has R3 (Nums v s.st)) (hl : s.st.length ≤ 1000000000)
    (ht : M.tr.length < 1000000000) (hat : s.at_ < 7) (k : ∀ nx' H1, NxOk (s.step M th).1 nx' → Sat (Own p (rcutC (s.step M th).1 nx' v) :: RefP m (s.step M th).2 :: R3) H1 → K (.bool (eqZ (Int.ofNat (s.step M th).1.at_) (Int.ofNat 7))) H1) :
    Call1 Try.prog con 26 [ptr p 0, ptr m 0, i64 th] H K := by
  refine call_of (hc _ _ _ rfl) ?_
  rw [rcutStep_W]
  have hs0 := hs.takes (.cons hm (.cons hp .nil))
  simp only [List.cons_append, List.nil_append] at hs0
  obtain ⟨obj, fl, st, at_, x, sx, y, y0, sy, found, head, told⟩ := s
  simp only at hat hq hl
  rcases (by omega : at_ = 0 ∨ at_ = 1 ∨ at_ = 2 ∨ at_ = 3 ∨ at_ = 4 ∨ at_ = 5 ∨ at_ = 6) with rfl | rfl | rfl | rfl | rfl | rfl | rfl
  · simp only [CutS.step, go0] at k
    repeat (first
    | (refine AsInt.mk ?_) | (refine AsNat.mk ?_) | (refine AsBool.mk ?_) | (refine AsPtr.mk ?_) | (refine AsSlc.mk ?_) | (refine AsLen.mk ?_) | (refine AsCnt.mk ?_) | (refine AsAgg.mk ?_) | (refine AsTup.mk ?_) | (refine AsFn.mk ?_)
    | (refine NotNil.ptr ?_) | (refine NotNil.ifc ?_) | (refine NotNil.fnc ?_) | (refine IsNil.ptr ?_) | (refine IsNil.ptr0 ?_) | (refine IsNil.slc ?_) | (refine IsNil.slc0 ?_) | (refine IsNil.ifc ?_) | (refine IsNil.ifc0 ?_)
    | (refine Sc.mk rfl ?_) | (refine Same.slc ?_) | (refine Same.ptr ?_) | (refine Same.int ?_) | (refine Same.bool ?_) | (refine Cd.t rfl ?_) | (refine Cd.f rfl ?_) | (refine Cd.t (by decide +kernel) ?_) | (refine Cd.f (by decide +kernel) ?_) | (refine AsWant.mk ?_) | (refine AsStr.mk ?_)
    | (refine ld (by assumption) rfl ?_)
    | (refine nw (by assumption) fun _ _ _ => ?_)
    | (refine stB (by assumption) rfl rfl fun _ _ => ?_))
    refine refLoad_ok hc hs0 (by repeat (first | exact Pull.here | apply Pull.there)) ht fun H1 h1 => ?_
    repeat (first
    | (refine AsInt.mk ?_) | (refine AsNat.mk ?_) | (refine AsBool.mk ?_) | (refine AsPtr.mk ?_) | (refine AsSlc.mk ?_) | (refine AsLen.mk ?_) | (refine AsCnt.mk ?_) | (refine AsAgg.mk ?_) | (refine AsTup.mk ?_) | (refine AsFn.mk ?_)
    | (refine NotNil.ptr ?_) | (refine NotNil.ifc ?_) | (refine NotNil.fnc ?_) | (refine IsNil.ptr ?_) | (refine IsNil.ptr0 ?_) | (refine IsNil.slc ?_) | (refine IsNil.slc0 ?_) | (refine IsNil.ifc ?_) | (refine IsNil.ifc0 ?_)
    | (refine Sc.mk rfl ?_) | (refine Same.slc ?_) | (refine Same.ptr ?_) | (refine Same.int ?_) | (refine Same.bool ?_) | (refine Cd.t rfl ?_) | (refine Cd.f rfl ?_) | (refine Cd.t (by decide +kernel) ?_) | (refine Cd.f (by decide +kernel) ?_) | (refine AsWant.mk ?_) | (refine AsStr.mk ?_)
    | (refine ld (by assumption) rfl ?_)
    | (refine nw (by assumption) fun _ _ _ => ?_)
    | (refine stB (by assumption) rfl rfl fun _ _ => ?_))
    by_cases h : M.peek obj = 0
    · simp only [if_pos h] at k
      refine Cd.t (eqN_t h) ?_
      refine rcutEnd_ok hc ⟨obj, fl, st, 1, M.peek obj, sx, y, y0, sy, found, head, told⟩ nx (by simp) (by assumption) (by repeat (first | exact Pull.here | apply Pull.there)) fun H2 h2 => ?_
      exact rcutTail _ nx h2 (by repeat (first | exact Pull.here | apply Pull.there)) (k nx H2 (fun h6 => by simp [CutS.fin] at h6)) (by simp [CutS.fin])
    · simp only [if_neg h] at k
      refine Cd.f (eqN_f h) ?_
      exact rcutTail ⟨obj, fl, st, 1, M.peek obj, sx, y, y0, sy, found, head, told⟩ nx (by assumption) (by repeat (first | exact Pull.here | apply Pull.there)) (k nx _ (fun h6 => by simp [CutS.fin] at h6)) (by simp)
  · simp only [CutS.step, go1] at k
    repeat (first
    | (refine AsInt.mk ?_) | (refine AsNat.mk ?_) | (refine AsBool.mk ?_) | (refine AsPtr.mk ?_) | (refine AsSlc.mk ?_) | (refine AsLen.mk ?_) | (refine AsCnt.mk ?_) | (refine AsAgg.mk ?_) | (refine AsTup.mk ?_) | (refine AsFn.mk ?_)
    | (refine NotNil.ptr ?_) | (refine NotNil.ifc ?_) | (refine NotNil.fnc ?_) | (refine IsNil.ptr ?_) | (refine IsNil.ptr0 ?_) | (refine IsNil.slc ?_) | (refine IsNil.slc0 ?_) | (refine IsNil.ifc ?_) | (refine IsNil.ifc0 ?_)
    | (refine Sc.mk rfl ?_) | (refine Same.slc ?_) | (refine Same.ptr ?_) | (refine Same.int ?_) | (refine Same.bool ?_) | (refine Cd.t rfl ?_) | (refine Cd.f rfl ?_) | (refine Cd.t (by decide +kernel) ?_) | (refine Cd.f (by decide +kernel) ?_) | (refine AsWant.mk ?_) | (refine AsStr.mk ?_)
    | (refine ld (by assumption) rfl ?_)
    | (refine nw (by assumption) fun _ _ _ => ?_)
    | (refine stB (by assumption) rfl rfl fun _ _ => ?_))
    refine refLoad_ok hc hs0 (by repeat (first | exact Pull.here | apply Pull.there)) ht fun H1 h1 => ?_
    refine Sc.mk rfl (stB h1 rfl rfl fun H2 h2 => ?_)
    repeat (first
    | (refine AsInt.mk ?_) | (refine AsNat.mk ?_) | (refine AsBool.mk ?_) | (refine AsPtr.mk ?_) | (refine AsSlc.mk ?_) | (refine AsLen.mk ?_) | (refine AsCnt.mk ?_) | (refine AsAgg.mk ?_) | (refine AsTup.mk ?_) | (refine AsFn.mk ?_)
    | (refine NotNil.ptr ?_) | (refine NotNil.ifc ?_) | (refine NotNil.fnc ?_) | (refine IsNil.ptr ?_) | (refine IsNil.ptr0 ?_) | (refine IsNil.slc ?_) | (refine IsNil.slc0 ?_) | (refine IsNil.ifc ?_) | (refine IsNil.ifc0 ?_)
    | (refine Sc.mk rfl ?_) | (refine Same.slc ?_) | (refine Same.ptr ?_) | (refine Same.int ?_) | (refine Same.bool ?_) | (refine Cd.t rfl ?_) | (refine Cd.f rfl ?_) | (refine Cd.t (by decide +kernel) ?_) | (refine Cd.f (by decide +kernel) ?_) | (refine AsWant.mk ?_) | (refine AsStr.mk ?_)
    | (refine ld (by assumption) rfl ?_)
    | (refine nw (by assumption) fun _ _ _ => ?_)
    | (refine stB (by assumption) rfl rfl fun _ _ => ?_))
    by_cases h : M.peek (addM x 1) = 0
    · simp only [if_pos h] at k
      refine Cd.t (eqN_t h) (stB (by assumption) rfl rfl fun H8 h8 => stB h8 rfl rfl fun H9 h9 => ?_)
      exact rcutTail ⟨obj, fl, st, 2, x, 18446744073709551615, y, y0, sy, found, head, told⟩ nx h9 (by repeat (first | exact Pull.here | apply Pull.there)) (k nx _ (fun h6 => by simp [CutS.fin] at h6)) (by simp)
    · simp only [if_neg h] at k
      refine Cd.f (eqN_f h) (stB (by assumption) rfl rfl fun H9 h9 => ?_)
      exact rcutTail ⟨obj, fl, st, 2, x, M.peek (addM x 1), y, y0, sy, found, head, told⟩ nx h9 (by repeat (first | exact Pull.here | apply Pull.there)) (k nx _ (fun h6 => by simp [CutS.fin] at h6)) (by simp)
  · simp only [CutS.step, go2] at k
    repeat (first
    | (refine AsInt.mk ?_) | (refine AsNat.mk ?_) | (refine AsBool.mk ?_) | (refine AsPtr.mk ?_) | (refine AsSlc.mk ?_) | (refine AsLen.mk ?_) | (refine AsCnt.mk ?_) | (refine AsAgg.mk ?_) | (refine AsTup.mk ?_) | (refine AsFn.mk ?_)
    | (refine NotNil.ptr ?_) | (refine NotNil.ifc ?_) | (refine NotNil.fnc ?_) | (refine IsNil.ptr ?_) | (refine IsNil.ptr0 ?_) | (refine IsNil.slc ?_) | (refine IsNil.slc0 ?_) | (refine IsNil.ifc ?_) | (refine IsNil.ifc0 ?_)
    | (refine Sc.mk rfl ?_) | (refine Same.slc ?_) | (refine Same.ptr ?_) | (refine Same.int ?_) | (refine Same.bool ?_) | (refine Cd.t rfl ?_) | (refine Cd.f rfl ?_) | (refine Cd.t (by decide +kernel) ?_) | (refine Cd.f (by decide +kernel) ?_) | (refine AsWant.mk ?_) | (refine AsStr.mk ?_)
    | (refine ld (by assumption) rfl ?_)
    | (refine nw (by assumption) fun _ _ _ => ?_)
    | (refine stB (by assumption) rfl rfl fun _ _ => ?_))
    refine refLoad_ok hc hs0 (by repeat (first | exact Pull.here | apply Pull.there)) ht fun H1 h1 => ?_
    refine Sc.mk rfl (stB h1 rfl rfl fun H2 h2 => stB h2 rfl rfl fun H3 h3 => ?_)
    exact rcutTail ⟨obj, fl, st, 3, x, sx, y, y0, sy, found, head, M.peek x⟩ nx h3 (by repeat (first | exact Pull.here | apply Pull.there)) (k nx _ (fun h6 => by simp [CutS.fin] at h6)) (by simp)
  · simp only [CutS.step, go3, CutS.on] at k
    repeat (first
    | (refine AsInt.mk ?_) | (refine AsNat.mk ?_) | (refine AsBool.mk ?_) | (refine AsPtr.mk ?_) | (refine AsSlc.mk ?_) | (refine AsLen.mk ?_) | (refine AsCnt.mk ?_) | (refine AsAgg.mk ?_) | (refine AsTup.mk ?_) | (refine AsFn.mk ?_)
    | (refine NotNil.ptr ?_) | (refine NotNil.ifc ?_) | (refine NotNil.fnc ?_) | (refine IsNil.ptr ?_) | (refine IsNil.ptr0 ?_) | (refine IsNil.slc ?_) | (refine IsNil.slc0 ?_) | (refine IsNil.ifc ?_) | (refine IsNil.ifc0 ?_)
    | (refine Sc.mk rfl ?_) | (refine Same.slc ?_) | (refine Same.ptr ?_) | (refine Same.int ?_) | (refine Same.bool ?_) | (refine Cd.t rfl ?_) | (refine Cd.f rfl ?_) | (refine Cd.t (by decide +kernel) ?_) | (refine Cd.f (by decide +kernel) ?_) | (refine AsWant.mk ?_) | (refine AsStr.mk ?_)
    | (refine ld (by assumption) rfl ?_)
    | (refine nw (by assumption) fun _ _ _ => ?_)
    | (refine stB (by assumption) rfl rfl fun _ _ => ?_))
    refine refLoad_ok hc hs0 (by repeat (first | exact Pull.here | apply Pull.there)) ht fun H1 h1 => ?_
    repeat (first
    | (refine AsInt.mk ?_) | (refine AsNat.mk ?_) | (refine AsBool.mk ?_) | (refine AsPtr.mk ?_) | (refine AsSlc.mk ?_) | (refine AsLen.mk ?_) | (refine AsCnt.mk ?_) | (refine AsAgg.mk ?_) | (refine AsTup.mk ?_) | (refine AsFn.mk ?_)
    | (refine NotNil.ptr ?_) | (refine NotNil.ifc ?_) | (refine NotNil.fnc ?_) | (refine IsNil.ptr ?_) | (refine IsNil.ptr0 ?_) | (refine IsNil.slc ?_) | (refine IsNil.slc0 ?_) | (refine IsNil.ifc ?_) | (refine IsNil.ifc0 ?_)
    | (refine Sc.mk rfl ?_) | (refine Same.slc ?_) | (refine Same.ptr ?_) | (refine Same.int ?_) | (refine Same.bool ?_) | (refine Cd.t rfl ?_) | (refine Cd.f rfl ?_) | (refine Cd.t (by decide +kernel) ?_) | (refine Cd.f (by decide +kernel) ?_) | (refine AsWant.mk ?_) | (refine AsStr.mk ?_)
    | (refine ld (by assumption) rfl ?_)
    | (refine nw (by assumption) fun _ _ _ => ?_)
    | (refine stB (by assumption) rfl rfl fun _ _ => ?_))
    by_cases h : M.peek (addM x 2) = 0
    · refine Cd.t (eqN_t h) ?_
      refine rcutEnd_ok hc ⟨obj, fl, st, 4, x, sx, M.peek (addM x 2), M.peek (addM x 2), sy, found, head, told⟩ nx (by simp) (by assumption) (by repeat (first | exact Pull.here | apply Pull.there)) fun H2 h2 => ?_
      simp only [if_pos h, CutS.stay, CutS.further, if_true] at k
      exact rcutTail _ nx h2 (by repeat (first | exact Pull.here | apply Pull.there)) (k nx H2 (fun h6 => by simp [CutS.fin] at h6)) (by simp [CutS.fin])
    · simp only [if_neg h] at k
      refine Cd.f (eqN_f h) ?_
      exact rcutTail ⟨obj, fl, st, 4, x, sx, M.peek (addM x 2), M.peek (addM x 2), sy, found, head, told⟩ nx (by assumption) (by repeat (first | exact Pull.here | apply Pull.there)) (k nx _ (fun h6 => by simp [CutS.fin] at h6)) (by simp)
  · simp only [CutS.step, go4] at k
    repeat (first
    | (refine AsInt.mk ?_) | (refine AsNat.mk ?_) | (refine AsBool.mk ?_) | (refine AsPtr.mk ?_) | (refine AsSlc.mk ?_) | (refine AsLen.mk ?_) | (refine AsCnt.mk ?_) | (refine AsAgg.mk ?_) | (refine AsTup.mk ?_) | (refine AsFn.mk ?_)
    | (refine NotNil.ptr ?_) | (refine NotNil.ifc ?_) | (refine NotNil.fnc ?_) | (refine IsNil.ptr ?_) | (refine IsNil.ptr0 ?_) | (refine IsNil.slc ?_) | (refine IsNil.slc0 ?_) | (refine IsNil.ifc ?_) | (refine IsNil.ifc0 ?_)
    | (refine Sc.mk rfl ?_) | (refine Same.slc ?_) | (refine Same.ptr ?_) | (refine Same.int ?_) | (refine Same.bool ?_) | (refine Cd.t rfl ?_) | (refine Cd.f rfl ?_) | (refine Cd.t (by decide +kernel) ?_) | (refine Cd.f (by decide +kernel) ?_) | (refine AsWant.mk ?_) | (refine AsStr.mk ?_)
    | (refine ld (by assumption) rfl ?_)
    | (refine nw (by assumption) fun _ _ _ => ?_)
    | (refine stB (by assumption) rfl rfl fun _ _ => ?_))
    refine refLoad_ok hc hs0 (by repeat (first | exact Pull.here | apply Pull.there)) ht fun H1 h1 => ?_
    repeat (first
    | (refine AsInt.mk ?_) | (refine AsNat.mk ?_) | (refine AsBool.mk ?_) | (refine AsPtr.mk ?_) | (refine AsSlc.mk ?_) | (refine AsLen.mk ?_) | (refine AsCnt.mk ?_) | (refine AsAgg.mk ?_) | (refine AsTup.mk ?_) | (refine AsFn.mk ?_)
    | (refine NotNil.ptr ?_) | (refine NotNil.ifc ?_) | (refine NotNil.fnc ?_) | (refine IsNil.ptr ?_) | (refine IsNil.ptr0 ?_) | (refine IsNil.slc ?_) | (refine IsNil.slc0 ?_) | (refine IsNil.ifc ?_) | (refine IsNil.ifc0 ?_)
    | (refine Sc.mk rfl ?_) | (refine Same.slc ?_) | (refine Same.ptr ?_) | (refine Same.int ?_) | (refine Same.bool ?_) | (refine Cd.t rfl ?_) | (refine Cd.f rfl ?_) | (refine Cd.t (by decide +kernel) ?_) | (refine Cd.f (by decide +kernel) ?_) | (refine AsWant.mk ?_) | (refine AsStr.mk ?_)
    | (refine ld (by assumption) rfl ?_)
    | (refine nw (by assumption) fun _ _ _ => ?_)
    | (refine stB (by assumption) rfl rfl fun _ _ => ?_))
    refine refNeeded_ok hc h1 (Has.skip (Has.skip hq)) hl fun H3 h3 => ?_
    repeat (first
    | (refine AsInt.mk ?_) | (refine AsNat.mk ?_) | (refine AsBool.mk ?_) | (refine AsPtr.mk ?_) | (refine AsSlc.mk ?_) | (refine AsLen.mk ?_) | (refine AsCnt.mk ?_) | (refine AsAgg.mk ?_) | (refine AsTup.mk ?_) | (refine AsFn.mk ?_)
    | (refine NotNil.ptr ?_) | (refine NotNil.ifc ?_) | (refine NotNil.fnc ?_) | (refine IsNil.ptr ?_) | (refine IsNil.ptr0 ?_) | (refine IsNil.slc ?_) | (refine IsNil.slc0 ?_) | (refine IsNil.ifc ?_) | (refine IsNil.ifc0 ?_)
    | (refine Sc.mk rfl ?_) | (refine Same.slc ?_) | (refine Same.ptr ?_) | (refine Same.int ?_) | (refine Same.bool ?_) | (refine Cd.t rfl ?_) | (refine Cd.f rfl ?_) | (refine Cd.t (by decide +kernel) ?_) | (refine Cd.f (by decide +kernel) ?_) | (refine AsWant.mk ?_) | (refine AsStr.mk ?_)
    | (refine ld (by assumption) rfl ?_)
    | (refine nw (by assumption) fun _ _ _ => ?_)
    | (refine stB (by assumption) rfl rfl fun _ _ => ?_))
    cases hnd : needed fl st (M.peek (addM y 1)) sx with
    | true =>
      simp only [hnd, if_true] at k
      refine Cd.t rfl ?_
      have h4 : Sat (Own p (rcutC ⟨obj, fl, st, 4, x, sx, y, y0, M.peek (addM y 1), found, head, told⟩ nx v) :: RefP m (M.load th (addM y 1)) :: R3) H3 := h3.ent (by repeat (first | exact Ent.refl _ | exact Ent.none | apply Ent.cons (by repeat (first | exact Pull.here | apply Pull.there)) | refine Ent.drop ?_))
      refine rcutEnough_ok hc ⟨obj, fl, st, 4, x, sx, y, y0, M.peek (addM y 1), found, head, told⟩ nx (M.peek (addM y 1)) (by simp) (fun _ => rfl) h4 (by repeat (first | exact Pull.here | apply Pull.there)) fun H4 h5 => ?_
      exact rcutTail _ _ h5 (by repeat (first | exact Pull.here | apply Pull.there)) (k _ _ (fin_nx (stay_nx _ fun _ => rfl))) (by rw [fin_at]; exact stay_le _)
    | false =>
      simp only [hnd] at k
      have h4 : Sat (Own p (rcutC ⟨obj, fl, st, 4, x, sx, y, y0, M.peek (addM y 1), found, head, told⟩ nx v) :: RefP m (M.load th (addM y 1)) :: R3) H3 := h3.ent (by repeat (first | exact Ent.refl _ | exact Ent.none | apply Ent.cons (by repeat (first | exact Pull.here | apply Pull.there)) | refine Ent.drop ?_))
      refine Cd.f rfl (ld h4 rfl (AsNat.mk (stB h4 rfl rfl fun H4 h4 => stB h4 rfl rfl fun H5 h5 => ?_)))
      exact rcutTail ⟨obj, fl, st, 5, x, sx, y, y0, M.peek (addM y 1), addM found 1, head, told⟩ nx h5 (by repeat (first | exact Pull.here | apply Pull.there)) (k nx _ (fun h6 => by simp [CutS.fin] at h6)) (by simp)
  · simp only [CutS.step, go5, CutS.on] at k
    repeat (first
    | (refine AsInt.mk ?_) | (refine AsNat.mk ?_) | (refine AsBool.mk ?_) | (refine AsPtr.mk ?_) | (refine AsSlc.mk ?_) | (refine AsLen.mk ?_) | (refine AsCnt.mk ?_) | (refine AsAgg.mk ?_) | (refine AsTup.mk ?_) | (refine AsFn.mk ?_)
    | (refine NotNil.ptr ?_) | (refine NotNil.ifc ?_) | (refine NotNil.fnc ?_) | (refine IsNil.ptr ?_) | (refine IsNil.ptr0 ?_) | (refine IsNil.slc ?_) | (refine IsNil.slc0 ?_) | (refine IsNil.ifc ?_) | (refine IsNil.ifc0 ?_)
    | (refine Sc.mk rfl ?_) | (refine Same.slc ?_) | (refine Same.ptr ?_) | (refine Same.int ?_) | (refine Same.bool ?_) | (refine Cd.t rfl ?_) | (refine Cd.f rfl ?_) | (refine Cd.t (by decide +kernel) ?_) | (refine Cd.f (by decide +kernel) ?_) | (refine AsWant.mk ?_) | (refine AsStr.mk ?_)
    | (refine ld (by assumption) rfl ?_)
    | (refine nw (by assumption) fun _ _ _ => ?_)
    | (refine stB (by assumption) rfl rfl fun _ _ => ?_))
    refine refLoad_ok hc hs0 (by repeat (first | exact Pull.here | apply Pull.there)) ht fun H1 h1 => ?_
    repeat (first
    | (refine AsInt.mk ?_) | (refine AsNat.mk ?_) | (refine AsBool.mk ?_) | (refine AsPtr.mk ?_) | (refine AsSlc.mk ?_) | (refine AsLen.mk ?_) | (refine AsCnt.mk ?_) | (refine AsAgg.mk ?_) | (refine AsTup.mk ?_) | (refine AsFn.mk ?_)
    | (refine NotNil.ptr ?_) | (refine NotNil.ifc ?_) | (refine NotNil.fnc ?_) | (refine IsNil.ptr ?_) | (refine IsNil.ptr0 ?_) | (refine IsNil.slc ?_) | (refine IsNil.slc0 ?_) | (refine IsNil.ifc ?_) | (refine IsNil.ifc0 ?_)
    | (refine Sc.mk rfl ?_) | (refine Same.slc ?_) | (refine Same.ptr ?_) | (refine Same.int ?_) | (refine Same.bool ?_) | (refine Cd.t rfl ?_) | (refine Cd.f rfl ?_) | (refine Cd.t (by decide +kernel) ?_) | (refine Cd.f (by decide +kernel) ?_) | (refine AsWant.mk ?_) | (refine AsStr.mk ?_)
    | (refine ld (by assumption) rfl ?_)
    | (refine nw (by assumption) fun _ _ _ => ?_)
    | (refine stB (by assumption) rfl rfl fun _ _ => ?_))
    by_cases h : M.peek (addM y 2) = 0
    · simp only [if_pos h] at k
      refine Cd.t (eqN_t h) ?_
      refine rcutEnough_ok hc ⟨obj, fl, st, 4, x, sx, M.peek (addM y 2), y0, sy, found, head, told⟩ nx 0 (by simp) (fun hh => absurd h hh) (by assumption) (by repeat (first | exact Pull.here | apply Pull.there)) fun H4 h5 => ?_
      exact rcutTail _ _ h5 (by repeat (first | exact Pull.here | apply Pull.there)) (k _ _ (fin_nx (stay_nx _ fun hh => absurd h hh))) (by rw [fin_at]; exact stay_le _)
    · simp only [if_neg h] at k
      refine Cd.f (eqN_f h) ?_
      exact rcutTail ⟨obj, fl, st, 4, x, sx, M.peek (addM y 2), y0, sy, found, head, told⟩ nx (by assumption) (by repeat (first | exact Pull.here | apply Pull.there)) (k nx _ (fun h6 => by simp [CutS.fin] at h6)) (by simp)
  · simp only [CutS.step, go6, CutS.further] at k
    repeat (first
    | (refine AsInt.mk ?_) | (refine AsNat.mk ?_) | (refine AsBool.mk ?_) | (refine AsPtr.mk ?_) | (refine AsSlc.mk ?_) | (refine AsLen.mk ?_) | (refine AsCnt.mk ?_) | (refine AsAgg.mk ?_) | (refine AsTup.mk ?_) | (refine AsFn.mk ?_)
    | (refine NotNil.ptr ?_) | (refine NotNil.ifc ?_) | (refine NotNil.fnc ?_) | (refine IsNil.ptr ?_) | (refine IsNil.ptr0 ?_) | (refine IsNil.slc ?_) | (refine IsNil.slc0 ?_) | (refine IsNil.ifc ?_) | (refine IsNil.ifc0 ?_)
    | (refine Sc.mk rfl ?_) | (refine Same.slc ?_) | (refine Same.ptr ?_) | (refine Same.int ?_) | (refine Same.bool ?_) | (refine Cd.t rfl ?_) | (refine Cd.f rfl ?_) | (refine Cd.t (by decide +kernel) ?_) | (refine Cd.f (by decide +kernel) ?_) | (refine AsWant.mk ?_) | (refine AsStr.mk ?_)
    | (refine ld (by assumption) rfl ?_)
    | (refine nw (by assumption) fun _ _ _ => ?_)
    | (refine stB (by assumption) rfl rfl fun _ _ => ?_))
    refine refStore_ok hc hs0 (by repeat (first | exact Pull.here | apply Pull.there)) ht fun H1 h1 => ?_
    repeat (first
    | (refine AsInt.mk ?_) | (refine AsNat.mk ?_) | (refine AsBool.mk ?_) | (refine AsPtr.mk ?_) | (refine AsSlc.mk ?_) | (refine AsLen.mk ?_) | (refine AsCnt.mk ?_) | (refine AsAgg.mk ?_) | (refine AsTup.mk ?_) | (refine AsFn.mk ?_)
    | (refine NotNil.ptr ?_) | (refine NotNil.ifc ?_) | (refine NotNil.fnc ?_) | (refine IsNil.ptr ?_) | (refine IsNil.ptr0 ?_) | (refine IsNil.slc ?_) | (refine IsNil.slc0 ?_) | (refine IsNil.ifc ?_) | (refine IsNil.ifc0 ?_)
    | (refine Sc.mk rfl ?_) | (refine Same.slc ?_) | (refine Same.ptr ?_) | (refine Same.int ?_) | (refine Same.bool ?_) | (refine Cd.t rfl ?_) | (refine Cd.f rfl ?_) | (refine Cd.t (by decide +kernel) ?_) | (refine Cd.f (by decide +kernel) ?_) | (refine AsWant.mk ?_) | (refine AsStr.mk ?_)
    | (refine ld (by assumption) rfl ?_)
    | (refine nw (by assumption) fun _ _ _ => ?_)
    | (refine stB (by assumption) rfl rfl fun _ _ => ?_))
    by_cases h : y = 0
    · simp only [if_pos h] at k
      refine Cd.t (eqN_t h) ?_
      refine rcutEnd_ok hc ⟨obj, fl, st, 3, x, sx, y, y0, sy, found, head, told⟩ nx (by simp) (by assumption) (by repeat (first | exact Pull.here | apply Pull.there)) fun H2 h2 => ?_
      exact rcutTail _ nx h2 (by repeat (first | exact Pull.here | apply Pull.there)) (k nx H2 (fun h6 => by simp [CutS.fin] at h6)) (by simp [CutS.fin])
    · simp only [if_neg h] at k
      have enx : nx = sy := hnx rfl h
      subst enx
      refine Cd.f (eqN_f h) ?_
      repeat (first
    | (refine AsInt.mk ?_) | (refine AsNat.mk ?_) | (refine AsBool.mk ?_) | (refine AsPtr.mk ?_) | (refine AsSlc.mk ?_) | (refine AsLen.mk ?_) | (refine AsCnt.mk ?_) | (refine AsAgg.mk ?_) | (refine AsTup.mk ?_) | (refine AsFn.mk ?_)
    | (refine NotNil.ptr ?_) | (refine NotNil.ifc ?_) | (refine NotNil.fnc ?_) | (refine IsNil.ptr ?_) | (refine IsNil.ptr0 ?_) | (refine IsNil.slc ?_) | (refine IsNil.slc0 ?_) | (refine IsNil.ifc ?_) | (refine IsNil.ifc0 ?_)
    | (refine Sc.mk rfl ?_) | (refine Same.slc ?_) | (refine Same.ptr ?_) | (refine Same.int ?_) | (refine Same.bool ?_) | (refine Cd.t rfl ?_) | (refine Cd.f rfl ?_) | (refine Cd.t (by decide +kernel) ?_) | (refine Cd.f (by decide +kernel) ?_) | (refine AsWant.mk ?_) | (refine AsStr.mk ?_)
    | (refine ld (by assumption) rfl ?_)
    | (refine nw (by assumption) fun _ _ _ => ?_)
    | (refine stB (by assumption) rfl rfl fun _ _ => ?_))
      exact k _ _ (fun h6 => by simp [CutS.fin] at h6) (Sat.ent (by assumption) (by repeat (first | exact Ent.refl _ | exact Ent.none | apply Ent.cons (by repeat (first | exact Pull.here | apply Pull.there)) | refine Ent.drop ?_)))
end Go.Proofs.Ytipbbnoepphdkaa

namespace Go.Proofs.Ytipbbnoepphdkaa
open Go Go.CM
attribute [local irreducible] AsBool AsWant AsNat AsInt AsCnt AsPtr AsSlc AsLen AsStr AsAgg AsTup AsFn AsIfc Nth Sc NotNil IsNil Must Cd codeW funW Sat SatL wrapN subM mkRow ltZ leZ ltN leN
variable {con : CallT}

/-- A call that is answered ahead. -/
theorem call_con {f : FuncId} {args : List Value} {H H1 : CH} {v : Value} {K : KP} (h : con f ⟨args⟩ H = some (v, H1)) (k : K v H1) : Call1 Try.prog con f args H K := ⟨⟨0, v, H1, h, k⟩⟩

theorem newCut_ok (hc : Con con lives) {L : List HP} {H : CH} {obj fl ca : Nat} {v : Value} {st : List Nat} {K : KP} (hs : Sat L H) (hq : Has L (Nums v st)) (hl : st.length ≤ 1000000000)
    (k : ∀ p v' H1, Sat (Own p (cutC ⟨obj, fl, st, 0, 0, 0, 0, 0, 0, 0, 0, 0⟩ v') :: Nums v' st :: L) H1 → K (ptr p 0) H1) : Call1 Try.prog con 25 [u64 ca, u64 obj, .agg ⟨[u64 fl, v]⟩] H K := by
  refine call_of (hc _ _ _ rfl) ?_
  rw [newCut_W]
  refine nw hs fun p1 H1 h1 => ?_
  repeat (first
    | (refine AsInt.mk ?_) | (refine AsNat.mk ?_) | (refine AsBool.mk ?_) | (refine AsPtr.mk ?_) | (refine AsSlc.mk ?_) | (refine AsLen.mk ?_) | (refine AsCnt.mk ?_) | (refine AsAgg.mk ?_) | (refine AsTup.mk ?_) | (refine AsFn.mk ?_)
    | (refine NotNil.ptr ?_) | (refine NotNil.ifc ?_) | (refine NotNil.fnc ?_) | (refine IsNil.ptr ?_) | (refine IsNil.ptr0 ?_) | (refine IsNil.slc ?_) | (refine IsNil.slc0 ?_) | (refine IsNil.ifc ?_) | (refine IsNil.ifc0 ?_)
    | (refine Sc.mk rfl ?_) | (refine Same.slc ?_) | (refine Same.ptr ?_) | (refine Same.int ?_) | (refine Same.bool ?_) | (refine Cd.t rfl ?_) | (refine Cd.f rfl ?_) | (refine Cd.t (by decide +kernel) ?_) | (refine Cd.f (by decide +kernel) ?_) | (refine AsWant.mk ?_) | (refine AsStr.mk ?_)
    | (refine ld (by assumption) rfl ?_)
    | (refine nw (by assumption) fun _ _ _ => ?_)
    | (refine stB (by assumption) rfl rfl fun _ _ => ?_))
  refine cloneN_ok hc h1 (Has.skip hq) hl fun v' H2 hv h2 => ?_
  refine Sc.mk rfl (Sc.mk hv ?_)
  refine nw h2 fun p H3 h3 => ?_
  repeat (first
    | (refine AsInt.mk ?_) | (refine AsNat.mk ?_) | (refine AsBool.mk ?_) | (refine AsPtr.mk ?_) | (refine AsSlc.mk ?_) | (refine AsLen.mk ?_) | (refine AsCnt.mk ?_) | (refine AsAgg.mk ?_) | (refine AsTup.mk ?_) | (refine AsFn.mk ?_)
    | (refine NotNil.ptr ?_) | (refine NotNil.ifc ?_) | (refine NotNil.fnc ?_) | (refine IsNil.ptr ?_) | (refine IsNil.ptr0 ?_) | (refine IsNil.slc ?_) | (refine IsNil.slc0 ?_) | (refine IsNil.ifc ?_) | (refine IsNil.ifc0 ?_)
    | (refine Sc.mk rfl ?_) | (refine Same.slc ?_) | (refine Same.ptr ?_) | (refine Same.int ?_) | (refine Same.bool ?_) | (refine Cd.t rfl ?_) | (refine Cd.f rfl ?_) | (refine Cd.t (by decide +kernel) ?_) | (refine Cd.f (by decide +kernel) ?_) | (refine AsWant.mk ?_) | (refine AsStr.mk ?_)
    | (refine ld (by assumption) rfl ?_)
    | (refine nw (by assumption) fun _ _ _ => ?_)
    | (refine stB (by assumption) rfl rfl fun _ _ => ?_))
  exact k p v' _ (h3.ent (by repeat (first | exact Ent.refl _ | exact Ent.none | apply Ent.cons (by repeat (first | exact Pull.here | apply Pull.there)) | refine Ent.drop ?_)))

theorem cutCount_ok (hc : Con con lives) (s : CutS) {L : List HP} {H : CH} {p : Nat} {v : Value} {K : KP} (hs : Sat L H) [HasCell L p (cutC s v)] (k : K (u64 (if s.at_ = 7 then s.found else 0)) H) : Call1 Try.prog con 16 [ptr p 0] H K := by
  refine call_of (hc _ _ _ rfl) ?_
  rw [cutCount_W]
  repeat (first
    | (refine AsInt.mk ?_) | (refine AsNat.mk ?_) | (refine AsBool.mk ?_) | (refine AsPtr.mk ?_) | (refine AsSlc.mk ?_) | (refine AsLen.mk ?_) | (refine AsCnt.mk ?_) | (refine AsAgg.mk ?_) | (refine AsTup.mk ?_) | (refine AsFn.mk ?_)
    | (refine NotNil.ptr ?_) | (refine NotNil.ifc ?_) | (refine NotNil.fnc ?_) | (refine IsNil.ptr ?_) | (refine IsNil.ptr0 ?_) | (refine IsNil.slc ?_) | (refine IsNil.slc0 ?_) | (refine IsNil.ifc ?_) | (refine IsNil.ifc0 ?_)
    | (refine Sc.mk rfl ?_) | (refine Same.slc ?_) | (refine Same.ptr ?_) | (refine Same.int ?_) | (refine Same.bool ?_) | (refine Cd.t rfl ?_) | (refine Cd.f rfl ?_) | (refine Cd.t (by decide +kernel) ?_) | (refine Cd.f (by decide +kernel) ?_) | (refine AsWant.mk ?_) | (refine AsStr.mk ?_)
    | (refine ld (by assumption) rfl ?_)
    | (refine nw (by assumption) fun _ _ _ => ?_)
    | (refine stB (by assumption) rfl rfl fun _ _ => ?_))
  by_cases h : s.at_ = 7
  · refine Cd.f (by rw [eqZ_t h]; rfl) ?_
    rw [if_pos h] at k
    repeat (first
    | (refine AsInt.mk ?_) | (refine AsNat.mk ?_) | (refine AsBool.mk ?_) | (refine AsPtr.mk ?_) | (refine AsSlc.mk ?_) | (refine AsLen.mk ?_) | (refine AsCnt.mk ?_) | (refine AsAgg.mk ?_) | (refine AsTup.mk ?_) | (refine AsFn.mk ?_)
    | (refine NotNil.ptr ?_) | (refine NotNil.ifc ?_) | (refine NotNil.fnc ?_) | (refine IsNil.ptr ?_) | (refine IsNil.ptr0 ?_) | (refine IsNil.slc ?_) | (refine IsNil.slc0 ?_) | (refine IsNil.ifc ?_) | (refine IsNil.ifc0 ?_)
    | (refine Sc.mk rfl ?_) | (refine Same.slc ?_) | (refine Same.ptr ?_) | (refine Same.int ?_) | (refine Same.bool ?_) | (refine Cd.t rfl ?_) | (refine Cd.f rfl ?_) | (refine Cd.t (by decide +kernel) ?_) | (refine Cd.f (by decide +kernel) ?_) | (refine AsWant.mk ?_) | (refine AsStr.mk ?_)
    | (refine ld (by assumption) rfl ?_)
    | (refine nw (by assumption) fun _ _ _ => ?_)
    | (refine stB (by assumption) rfl rfl fun _ _ => ?_))
    exact k
  · refine Cd.t (by rw [eqZ_f h]; rfl) ?_
    rw [if_neg h] at k
    exact k

theorem cutHead_ok (hc : Con con lives) (s : CutS) {L : List HP} {H : CH} {p : Nat} {v : Value} {K : KP} (hs : Sat L H) [HasCell L p (cutC s v)] (k : K (u64 s.head) H) : Call1 Try.prog con 17 [ptr p 0] H K := by
  refine call_of (hc _ _ _ rfl) ?_
  rw [cutHead_W]
  repeat (first
    | (refine AsInt.mk ?_) | (refine AsNat.mk ?_) | (refine AsBool.mk ?_) | (refine AsPtr.mk ?_) | (refine AsSlc.mk ?_) | (refine AsLen.mk ?_) | (refine AsCnt.mk ?_) | (refine AsAgg.mk ?_) | (refine AsTup.mk ?_) | (refine AsFn.mk ?_)
    | (refine NotNil.ptr ?_) | (refine NotNil.ifc ?_) | (refine NotNil.fnc ?_) | (refine IsNil.ptr ?_) | (refine IsNil.ptr0 ?_) | (refine IsNil.slc ?_) | (refine IsNil.slc0 ?_) | (refine IsNil.ifc ?_) | (refine IsNil.ifc0 ?_)
    | (refine Sc.mk rfl ?_) | (refine Same.slc ?_) | (refine Same.ptr ?_) | (refine Same.int ?_) | (refine Same.bool ?_) | (refine Cd.t rfl ?_) | (refine Cd.f rfl ?_) | (refine Cd.t (by decide +kernel) ?_) | (refine Cd.f (by decide +kernel) ?_) | (refine AsWant.mk ?_) | (refine AsStr.mk ?_)
    | (refine ld (by assumption) rfl ?_)
    | (refine nw (by assumption) fun _ _ _ => ?_)
    | (refine stB (by assumption) rfl rfl fun _ _ => ?_))
  exact k

/-- Short traces, without allotments. -/
def Calm (M : Mem) (n : Nat) : Prop := M.tr.length ≤ n ∧ ∀ a ∈ M.tr, a.vals.length ≤ 1000000000
theorem Calm.note {M : Mem} {n : Nat} {c : Acs} (h : Calm M n) (hc : c.vals = []) : Calm (M.note c) (n + 1) := by
  refine ⟨by simp [Mem.note]; exact h.1, fun a ha => ?_⟩
  simp only [Mem.note, List.mem_append, List.mem_singleton] at ha
  rcases ha with ha | rfl
  · exact h.2 a ha
  · rw [hc]; simp
theorem Calm.load {M : Mem} {n a : Nat} {th : Int} (h : Calm M n) : Calm (M.load th a) (n + 1) := h.note rfl
theorem Calm.store {M : Mem} {n a x : Nat} {th : Int} (h : Calm M n) : Calm (M.store th a x) (n + 1) := Calm.note (M := M.put a x) h rfl
theorem Calm.step {M : Mem} {n : Nat} {s : CutS} {th : Int} (h : Calm M n) : Calm (s.step M th).2 (n + 1) := by
  unfold CutS.step CutS.go
  simp only
  repeat' split
  all_goals first | exact h.load | exact h.store
theorem further_st (s : CutS) : s.further.st = s.st := by unfold CutS.further; split <;> rfl
theorem stay_st (s : CutS) : s.stay.st = s.st := by unfold CutS.stay; split; exact further_st s; rfl
theorem on_st (s : CutS) : s.on.st = s.st := by unfold CutS.on; split; exact stay_st _; rfl
theorem fin_st (s : CutS) : s.fin.st = s.st := by unfold CutS.fin; split <;> rfl
theorem step_st (s : CutS) (M : Mem) (th : Int) : (s.step M th).1.st = s.st := by
  unfold CutS.step
  rw [fin_st]
  unfold CutS.go
  repeat' split
  all_goals first | rfl | exact on_st _ | exact stay_st _ | exact further_st _
theorem on_le (s : CutS) : s.on.at_ ≤ 7 := by unfold CutS.on; split; exact stay_le _; simp
theorem step_le (s : CutS) (M : Mem) (th : Int) : (s.step M th).1.at_ ≤ 7 := by
  unfold CutS.step
  rw [fin_at]
  unfold CutS.go
  repeat' split
  all_goals first | exact on_le _ | exact stay_le _ | exact further_le _ | simp

theorem cutAny_ok (hc : Con con lives) (hlive : ∀ H, con 11 ⟨[]⟩ H = some (.bool true, H)) {L : List HP} {H : CH} {xa xb : Value} {obj fl : Nat} {cells st : List Nat} (hs : Sat L H) (h1 : Has L (Nums xa cells)) (h2 : Has L (Nums xb st)) (hl1 : cells.length ≤ 1000000000) (hl2 : st.length ≤ 1000000000) :
    Call1 Try.prog con 5 [xa, u64 obj, .agg ⟨[u64 fl, xb]⟩] H (fun v _ => v = .bool true) := by
  refine call_of (hc _ _ _ rfl) ?_
  rw [cutAny_W]
  refine nw hs fun p1 H1 g1 => ?_
  refine arenaNew_ok hc g1 (by omega) (by omega) fun m H2 g2 => ?_
  refine AsTup.mk (Nth.mk rfl (AsTup.mk (Nth.mk rfl (AsInt.mk (Cd.f rfl ?_)))))
  refine refNew_ok hc g2 (by omega) (by omega) fun r H3 g3 => ?_
  refine AsTup.mk (Nth.mk rfl (AsTup.mk (Nth.mk rfl ?_)))
  refine memView_ok hc g3 fun q H4 g4 => ?_
  obtain ⟨px, cx, rfl⟩ := (hs.has h1).len
  refine LoopC.indP (n := 300) (id := 0) (fun σ H => σ 1 = u64 obj ∧ σ 5 = ptr p1 0 ∧ σ 7 = ptr m 0 ∧ σ 9 = ptr r 0 ∧ σ 11 = ptr q 0 ∧ ∃ M i, i ≤ 256 ∧ Calm M i ∧ Sat (MemP m M :: ViewAt q m 0 i :: RefP r M :: Own p1 [u64 fl, xb] :: L) H) (by kernel_rfl)
    (fun (i : Nat) σ H => σ 0 = .slice px cells.length cx ∧ σ 1 = u64 obj ∧ σ 5 = ptr p1 0 ∧ σ 7 = ptr m 0 ∧ σ 9 = ptr r 0 ∧ σ 11 = ptr q 0 ∧ σ 12 = iN i ∧ i ≤ cells.length ∧ i ≤ 256 ∧
      ∃ M, Calm M i ∧ Sat (MemP m M :: ViewAt q m 0 i :: RefP r M :: Own p1 [u64 fl, xb] :: L) H) (fun i => 256 - i) (fun i σ H hI => ?_) (fun σ H hP => ?_) 0 _ _ ⟨rfl, rfl, rfl, rfl, rfl, rfl, rfl, Nat.zero_le _, Nat.zero_le _, mem0 256, ⟨Nat.le_refl _, fun a ha => nomatch ha⟩, g4.ent (by repeat (first | exact Ent.refl _ | exact Ent.none | apply Ent.cons (by repeat (first | exact Pull.here | apply Pull.there)) | refine Ent.drop ?_))⟩
  · obtain ⟨e0, e1, e5, e7, e9, e11, e12, hi, hi2, M, hM, hs1⟩ := hI
    rw [cutAnyF_W]
    simp only [e0, e1, e5, e7, e9, e11, e12]
    repeat (first
    | (refine AsInt.mk ?_) | (refine AsNat.mk ?_) | (refine AsBool.mk ?_) | (refine AsPtr.mk ?_) | (refine AsSlc.mk ?_) | (refine AsLen.mk ?_) | (refine AsCnt.mk ?_) | (refine AsAgg.mk ?_) | (refine AsTup.mk ?_) | (refine AsFn.mk ?_)
    | (refine NotNil.ptr ?_) | (refine NotNil.ifc ?_) | (refine NotNil.fnc ?_) | (refine IsNil.ptr ?_) | (refine IsNil.ptr0 ?_) | (refine IsNil.slc ?_) | (refine IsNil.slc0 ?_) | (refine IsNil.ifc ?_) | (refine IsNil.ifc0 ?_)
    | (refine Sc.mk rfl ?_) | (refine Same.slc ?_) | (refine Same.ptr ?_) | (refine Same.int ?_) | (refine Same.bool ?_) | (refine Cd.t rfl ?_) | (refine Cd.f rfl ?_) | (refine Cd.t (by decide +kernel) ?_) | (refine Cd.f (by decide +kernel) ?_) | (refine AsWant.mk ?_) | (refine AsStr.mk ?_)
    | (refine ld (by assumption) rfl ?_)
    | (refine nw (by assumption) fun _ _ _ => ?_)
    | (refine stB (by assumption) rfl rfl fun _ _ => ?_))
    by_cases hlt : i < cells.length
    · refine Cd.t (ltZ_t (by omega)) ?_
      repeat (first
    | (refine AsInt.mk ?_) | (refine AsNat.mk ?_) | (refine AsBool.mk ?_) | (refine AsPtr.mk ?_) | (refine AsSlc.mk ?_) | (refine AsLen.mk ?_) | (refine AsCnt.mk ?_) | (refine AsAgg.mk ?_) | (refine AsTup.mk ?_) | (refine AsFn.mk ?_)
    | (refine NotNil.ptr ?_) | (refine NotNil.ifc ?_) | (refine NotNil.fnc ?_) | (refine IsNil.ptr ?_) | (refine IsNil.ptr0 ?_) | (refine IsNil.slc ?_) | (refine IsNil.slc0 ?_) | (refine IsNil.ifc ?_) | (refine IsNil.ifc0 ?_)
    | (refine Sc.mk rfl ?_) | (refine Same.slc ?_) | (refine Same.ptr ?_) | (refine Same.int ?_) | (refine Same.bool ?_) | (refine Cd.t rfl ?_) | (refine Cd.f rfl ?_) | (refine Cd.t (by decide +kernel) ?_) | (refine Cd.f (by decide +kernel) ?_) | (refine AsWant.mk ?_) | (refine AsStr.mk ?_)
    | (refine ld (by assumption) rfl ?_)
    | (refine nw (by assumption) fun _ _ _ => ?_)
    | (refine stB (by assumption) rfl rfl fun _ _ => ?_))
      by_cases hlt2 : i < 256
      · refine Cd.t (ltZ_t (by omega)) ?_
        repeat (first
    | (refine AsInt.mk ?_) | (refine AsNat.mk ?_) | (refine AsBool.mk ?_) | (refine AsPtr.mk ?_) | (refine AsSlc.mk ?_) | (refine AsLen.mk ?_) | (refine AsCnt.mk ?_) | (refine AsAgg.mk ?_) | (refine AsTup.mk ?_) | (refine AsFn.mk ?_)
    | (refine NotNil.ptr ?_) | (refine NotNil.ifc ?_) | (refine NotNil.fnc ?_) | (refine IsNil.ptr ?_) | (refine IsNil.ptr0 ?_) | (refine IsNil.slc ?_) | (refine IsNil.slc0 ?_) | (refine IsNil.ifc ?_) | (refine IsNil.ifc0 ?_)
    | (refine Sc.mk rfl ?_) | (refine Same.slc ?_) | (refine Same.ptr ?_) | (refine Same.int ?_) | (refine Same.bool ?_) | (refine Cd.t rfl ?_) | (refine Cd.f rfl ?_) | (refine Cd.t (by decide +kernel) ?_) | (refine Cd.f (by decide +kernel) ?_) | (refine AsWant.mk ?_) | (refine AsStr.mk ?_)
    | (refine ld (by assumption) rfl ?_)
    | (refine nw (by assumption) fun _ _ _ => ?_)
    | (refine stB (by assumption) rfl rfl fun _ _ => ?_))
        refine Must.mk (cv_small (by omega)) ?_
        rw [wrapN_small (by omega)]
        rcases (hs1.has (Has.skip (Has.skip (Has.skip (Has.skip h1))))).shape with ⟨h3, h4⟩ | ⟨b', o, c', h3⟩
        · rw [h4] at hlt; simp at hlt
        cases h3
        repeat (first
    | (refine AsInt.mk ?_) | (refine AsNat.mk ?_) | (refine AsBool.mk ?_) | (refine AsPtr.mk ?_) | (refine AsSlc.mk ?_) | (refine AsLen.mk ?_) | (refine AsCnt.mk ?_) | (refine AsAgg.mk ?_) | (refine AsTup.mk ?_) | (refine AsFn.mk ?_)
    | (refine NotNil.ptr ?_) | (refine NotNil.ifc ?_) | (refine NotNil.fnc ?_) | (refine IsNil.ptr ?_) | (refine IsNil.ptr0 ?_) | (refine IsNil.slc ?_) | (refine IsNil.slc0 ?_) | (refine IsNil.ifc ?_) | (refine IsNil.ifc0 ?_)
    | (refine Sc.mk rfl ?_) | (refine Same.slc ?_) | (refine Same.ptr ?_) | (refine Same.int ?_) | (refine Same.bool ?_) | (refine Cd.t rfl ?_) | (refine Cd.f rfl ?_) | (refine Cd.t (by decide +kernel) ?_) | (refine Cd.f (by decide +kernel) ?_) | (refine AsWant.mk ?_) | (refine AsStr.mk ?_)
    | (refine ld (by assumption) rfl ?_)
    | (refine nw (by assumption) fun _ _ _ => ?_)
    | (refine stB (by assumption) rfl rfl fun _ _ => ?_))
        refine Must.mk (ltN_t hlt) ?_
        refine ldSrc hs1 (Src.skip (Src.skip (Src.skip (Src.skip (h1.src rfl))))) (by rw [show Nat.mul i 1 = i from Nat.mul_one i]; rfl) (map_get _ hlt) ?_
        refine viewStore_ok hc hs1 (by repeat (first | exact Pull.here | apply Pull.there)) (by repeat (first | exact Pull.here | apply Pull.there)) (by omega) (by have := hM.1; omega) fun H5 h5 => ?_
        repeat (first
    | (refine AsInt.mk ?_) | (refine AsNat.mk ?_) | (refine AsBool.mk ?_) | (refine AsPtr.mk ?_) | (refine AsSlc.mk ?_) | (refine AsLen.mk ?_) | (refine AsCnt.mk ?_) | (refine AsAgg.mk ?_) | (refine AsTup.mk ?_) | (refine AsFn.mk ?_)
    | (refine NotNil.ptr ?_) | (refine NotNil.ifc ?_) | (refine NotNil.fnc ?_) | (refine IsNil.ptr ?_) | (refine IsNil.ptr0 ?_) | (refine IsNil.slc ?_) | (refine IsNil.slc0 ?_) | (refine IsNil.ifc ?_) | (refine IsNil.ifc0 ?_)
    | (refine Sc.mk rfl ?_) | (refine Same.slc ?_) | (refine Same.ptr ?_) | (refine Same.int ?_) | (refine Same.bool ?_) | (refine Cd.t rfl ?_) | (refine Cd.f rfl ?_) | (refine Cd.t (by decide +kernel) ?_) | (refine Cd.f (by decide +kernel) ?_) | (refine AsWant.mk ?_) | (refine AsStr.mk ?_)
    | (refine ld (by assumption) rfl ?_)
    | (refine nw (by assumption) fun _ _ _ => ?_)
    | (refine stB (by assumption) rfl rfl fun _ _ => ?_))
        refine Must.mk (cv_small (by omega)) ?_
        repeat (first
    | (refine AsInt.mk ?_) | (refine AsNat.mk ?_) | (refine AsBool.mk ?_) | (refine AsPtr.mk ?_) | (refine AsSlc.mk ?_) | (refine AsLen.mk ?_) | (refine AsCnt.mk ?_) | (refine AsAgg.mk ?_) | (refine AsTup.mk ?_) | (refine AsFn.mk ?_)
    | (refine NotNil.ptr ?_) | (refine NotNil.ifc ?_) | (refine NotNil.fnc ?_) | (refine IsNil.ptr ?_) | (refine IsNil.ptr0 ?_) | (refine IsNil.slc ?_) | (refine IsNil.slc0 ?_) | (refine IsNil.ifc ?_) | (refine IsNil.ifc0 ?_)
    | (refine Sc.mk rfl ?_) | (refine Same.slc ?_) | (refine Same.ptr ?_) | (refine Same.int ?_) | (refine Same.bool ?_) | (refine Cd.t rfl ?_) | (refine Cd.f rfl ?_) | (refine Cd.t (by decide +kernel) ?_) | (refine Cd.f (by decide +kernel) ?_) | (refine AsWant.mk ?_) | (refine AsStr.mk ?_)
    | (refine ld (by assumption) rfl ?_)
    | (refine nw (by assumption) fun _ _ _ => ?_)
    | (refine stB (by assumption) rfl rfl fun _ _ => ?_))
        refine Must.mk (ltN_t hlt) ?_
        refine ldSrc h5 (Src.skip (Src.skip (Src.skip (Src.skip (h1.src rfl))))) (by rw [show Nat.mul i 1 = i from Nat.mul_one i]; rfl) (map_get _ hlt) ?_
        rw [wrapN_small (by omega)]
        refine refStore_ok hc h5 (by repeat (first | exact Pull.here | apply Pull.there)) (by have := hM.1; omega) fun H6 h6 => ?_
        repeat (first
    | (refine AsInt.mk ?_) | (refine AsNat.mk ?_) | (refine AsBool.mk ?_) | (refine AsPtr.mk ?_) | (refine AsSlc.mk ?_) | (refine AsLen.mk ?_) | (refine AsCnt.mk ?_) | (refine AsAgg.mk ?_) | (refine AsTup.mk ?_) | (refine AsFn.mk ?_)
    | (refine NotNil.ptr ?_) | (refine NotNil.ifc ?_) | (refine NotNil.fnc ?_) | (refine IsNil.ptr ?_) | (refine IsNil.ptr0 ?_) | (refine IsNil.slc ?_) | (refine IsNil.slc0 ?_) | (refine IsNil.ifc ?_) | (refine IsNil.ifc0 ?_)
    | (refine Sc.mk rfl ?_) | (refine Same.slc ?_) | (refine Same.ptr ?_) | (refine Same.int ?_) | (refine Same.bool ?_) | (refine Cd.t rfl ?_) | (refine Cd.f rfl ?_) | (refine Cd.t (by decide +kernel) ?_) | (refine Cd.f (by decide +kernel) ?_) | (refine AsWant.mk ?_) | (refine AsStr.mk ?_)
    | (refine ld (by assumption) rfl ?_)
    | (refine nw (by assumption) fun _ _ _ => ?_)
    | (refine stB (by assumption) rfl rfl fun _ _ => ?_))
        refine inR_nat (n := i + 1) (by omega) ?_
        show ∃ y, _ ∧ _
        exact ⟨i + 1, by omega, e0, e1, e5, e7, e9, e11, rfl, hlt, hlt2, M.store 0 i (cells.getD i 0), hM.store, h6.ent (by repeat (first | exact Ent.refl _ | exact Ent.none | apply Ent.cons (by repeat (first | exact Pull.here | apply Pull.there)) | refine Ent.drop ?_))⟩
      · refine Cd.f (ltZ_f (by omega)) ?_
        show _ = _ ∧ _
        exact ⟨rfl, e1, e5, e7, e9, e11, M, i, hi2, hM, hs1⟩
    · refine Cd.f (ltZ_f (by omega)) ?_
      show _ = _ ∧ _
      exact ⟨rfl, e1, e5, e7, e9, e11, M, i, hi2, hM, hs1⟩
  · obtain ⟨e1, e5, e7, e9, e11, M, i, hi, hM, hs1⟩ := hP
    show Cd _ _ _
    refine Cd.t (eqN_self 0) ?_
    simp only [e1, e5, e7, e9, e11]
    repeat (first
    | (refine AsInt.mk ?_) | (refine AsNat.mk ?_) | (refine AsBool.mk ?_) | (refine AsPtr.mk ?_) | (refine AsSlc.mk ?_) | (refine AsLen.mk ?_) | (refine AsCnt.mk ?_) | (refine AsAgg.mk ?_) | (refine AsTup.mk ?_) | (refine AsFn.mk ?_)
    | (refine NotNil.ptr ?_) | (refine NotNil.ifc ?_) | (refine NotNil.fnc ?_) | (refine IsNil.ptr ?_) | (refine IsNil.ptr0 ?_) | (refine IsNil.slc ?_) | (refine IsNil.slc0 ?_) | (refine IsNil.ifc ?_) | (refine IsNil.ifc0 ?_)
    | (refine Sc.mk rfl ?_) | (refine Same.slc ?_) | (refine Same.ptr ?_) | (refine Same.int ?_) | (refine Same.bool ?_) | (refine Cd.t rfl ?_) | (refine Cd.f rfl ?_) | (refine Cd.t (by decide +kernel) ?_) | (refine Cd.f (by decide +kernel) ?_) | (refine AsWant.mk ?_) | (refine AsStr.mk ?_)
    | (refine ld (by assumption) rfl ?_)
    | (refine nw (by assumption) fun _ _ _ => ?_)
    | (refine stB (by assumption) rfl rfl fun _ _ => ?_))
    refine newCut_ok hc hs1 (Has.skip (Has.skip (Has.skip (Has.skip h2)))) hl2 fun p v' H5 h5 => ?_
    refine AsPtr.mk (ld h5 rfl (ld h5 rfl (Sc.mk rfl ?_)))
    refine nw h5 fun q' H6 h6 => ?_
    refine LoopC.indP (n := 300) (id := 2) (fun σ H => σ 7 = ptr m 0 ∧ σ 9 = ptr r 0 ∧ ∃ M, Calm M 1000 ∧ Sat (MemP m M :: RefP r M :: L) H) (by kernel_rfl)
      (fun (j : Nat) σ H => σ 7 = ptr m 0 ∧ σ 9 = ptr r 0 ∧ σ 11 = ptr q 0 ∧ σ 13 = ptr p 0 ∧ σ 14 = ptr q' 0 ∧ σ 15 = iN j ∧ j ≤ 300 ∧
        ∃ s nx M, s.st = st ∧ s.at_ < 7 ∧ NxOk s nx ∧ Calm M (256 + j) ∧ Sat (Own p (cutC s v') :: Own q' (rcutC s nx xb) :: Nums v' st :: MemP m M :: ViewAt q m 0 (i + j) :: RefP r M :: L) H) (fun j => 300 - j) (fun j σ H hI => ?_) (fun σ H hP => ?_) 0 _ _
      ⟨e7, e9, e11, rfl, rfl, rfl, Nat.zero_le _, ⟨obj, fl, st, 0, 0, 0, 0, 0, 0, 0, 0, 0⟩, 0, M, rfl, by simp, (fun h => nomatch h), ⟨by have := hM.1; omega, hM.2⟩, h6.ent (by repeat (first | exact Ent.refl _ | exact Ent.none | apply Ent.cons (by repeat (first | exact Pull.here | apply Pull.there)) | refine Ent.drop ?_))⟩
    · obtain ⟨e7, e9, e11, e13, e14, e15, hj, s, nx, M, hst, hat, hnx, hM, hs2⟩ := hI
      rw [cutAnyS_W]
      simp only [e7, e9, e11, e13, e14, e15]
      repeat (first
    | (refine AsInt.mk ?_) | (refine AsNat.mk ?_) | (refine AsBool.mk ?_) | (refine AsPtr.mk ?_) | (refine AsSlc.mk ?_) | (refine AsLen.mk ?_) | (refine AsCnt.mk ?_) | (refine AsAgg.mk ?_) | (refine AsTup.mk ?_) | (refine AsFn.mk ?_)
    | (refine NotNil.ptr ?_) | (refine NotNil.ifc ?_) | (refine NotNil.fnc ?_) | (refine IsNil.ptr ?_) | (refine IsNil.ptr0 ?_) | (refine IsNil.slc ?_) | (refine IsNil.slc0 ?_) | (refine IsNil.ifc ?_) | (refine IsNil.ifc0 ?_)
    | (refine Sc.mk rfl ?_) | (refine Same.slc ?_) | (refine Same.ptr ?_) | (refine Same.int ?_) | (refine Same.bool ?_) | (refine Cd.t rfl ?_) | (refine Cd.f rfl ?_) | (refine Cd.t (by decide +kernel) ?_) | (refine Cd.f (by decide +kernel) ?_) | (refine AsWant.mk ?_) | (refine AsStr.mk ?_)
    | (refine ld (by assumption) rfl ?_)
    | (refine nw (by assumption) fun _ _ _ => ?_)
    | (refine stB (by assumption) rfl rfl fun _ _ => ?_))
      by_cases hlt : j < 300
      · refine Cd.t (ltZ_t hlt) ?_
        subst hst
        refine cutStep_ok hc s hs2 (by repeat (first | exact Pull.here | apply Pull.there)) (by repeat (first | exact Pull.here | apply Pull.there)) (by repeat (first | exact Pull.here | apply Pull.there)) (Has.skip Has.nums) hl2 (by omega) (by have := hM.1; omega) hat fun H7 h7 => ?_
        refine rcutStep_ok (th := 0) hc s nx hnx h7 (by repeat (first | exact Pull.here | apply Pull.there)) (by repeat (first | exact Pull.here | apply Pull.there)) (Has.skip (Has.skip (Has.skip (Has.skip h2)))) hl2 (by have := hM.1; omega) hat fun nx' H8 hnx' h8 => ?_
        repeat (first
    | (refine AsInt.mk ?_) | (refine AsNat.mk ?_) | (refine AsBool.mk ?_) | (refine AsPtr.mk ?_) | (refine AsSlc.mk ?_) | (refine AsLen.mk ?_) | (refine AsCnt.mk ?_) | (refine AsAgg.mk ?_) | (refine AsTup.mk ?_) | (refine AsFn.mk ?_)
    | (refine NotNil.ptr ?_) | (refine NotNil.ifc ?_) | (refine NotNil.fnc ?_) | (refine IsNil.ptr ?_) | (refine IsNil.ptr0 ?_) | (refine IsNil.slc ?_) | (refine IsNil.slc0 ?_) | (refine IsNil.ifc ?_) | (refine IsNil.ifc0 ?_)
    | (refine Sc.mk rfl ?_) | (refine Same.slc ?_) | (refine Same.ptr ?_) | (refine Same.int ?_) | (refine Same.bool ?_) | (refine Cd.t rfl ?_) | (refine Cd.f rfl ?_) | (refine Cd.t (by decide +kernel) ?_) | (refine Cd.f (by decide +kernel) ?_) | (refine AsWant.mk ?_) | (refine AsStr.mk ?_)
    | (refine ld (by assumption) rfl ?_)
    | (refine nw (by assumption) fun _ _ _ => ?_)
    | (refine stB (by assumption) rfl rfl fun _ _ => ?_))
        refine Cd.f (by rw [eqB_self]; rfl) ?_
        refine cutCount_ok hc (s.step M 0).1 h8 ?_
        repeat (first
    | (refine AsInt.mk ?_) | (refine AsNat.mk ?_) | (refine AsBool.mk ?_) | (refine AsPtr.mk ?_) | (refine AsSlc.mk ?_) | (refine AsLen.mk ?_) | (refine AsCnt.mk ?_) | (refine AsAgg.mk ?_) | (refine AsTup.mk ?_) | (refine AsFn.mk ?_)
    | (refine NotNil.ptr ?_) | (refine NotNil.ifc ?_) | (refine NotNil.fnc ?_) | (refine IsNil.ptr ?_) | (refine IsNil.ptr0 ?_) | (refine IsNil.slc ?_) | (refine IsNil.slc0 ?_) | (refine IsNil.ifc ?_) | (refine IsNil.ifc0 ?_)
    | (refine Sc.mk rfl ?_) | (refine Same.slc ?_) | (refine Same.ptr ?_) | (refine Same.int ?_) | (refine Same.bool ?_) | (refine Cd.t rfl ?_) | (refine Cd.f rfl ?_) | (refine Cd.t (by decide +kernel) ?_) | (refine Cd.f (by decide +kernel) ?_) | (refine AsWant.mk ?_) | (refine AsStr.mk ?_)
    | (refine ld (by assumption) rfl ?_)
    | (refine nw (by assumption) fun _ _ _ => ?_)
    | (refine stB (by assumption) rfl rfl fun _ _ => ?_))
        refine Cd.f (by rw [eqN_self]; rfl) ?_
        refine cutHead_ok hc (s.step M 0).1 h8 ?_
        repeat (first
    | (refine AsInt.mk ?_) | (refine AsNat.mk ?_) | (refine AsBool.mk ?_) | (refine AsPtr.mk ?_) | (refine AsSlc.mk ?_) | (refine AsLen.mk ?_) | (refine AsCnt.mk ?_) | (refine AsAgg.mk ?_) | (refine AsTup.mk ?_) | (refine AsFn.mk ?_)
    | (refine NotNil.ptr ?_) | (refine NotNil.ifc ?_) | (refine NotNil.fnc ?_) | (refine IsNil.ptr ?_) | (refine IsNil.ptr0 ?_) | (refine IsNil.slc ?_) | (refine IsNil.slc0 ?_) | (refine IsNil.ifc ?_) | (refine IsNil.ifc0 ?_)
    | (refine Sc.mk rfl ?_) | (refine Same.slc ?_) | (refine Same.ptr ?_) | (refine Same.int ?_) | (refine Same.bool ?_) | (refine Cd.t rfl ?_) | (refine Cd.f rfl ?_) | (refine Cd.t (by decide +kernel) ?_) | (refine Cd.f (by decide +kernel) ?_) | (refine AsWant.mk ?_) | (refine AsStr.mk ?_)
    | (refine ld (by assumption) rfl ?_)
    | (refine nw (by assumption) fun _ _ _ => ?_)
    | (refine stB (by assumption) rfl rfl fun _ _ => ?_))
        refine Cd.f (by rw [eqN_self]; rfl) ?_
        repeat (first
    | (refine AsInt.mk ?_) | (refine AsNat.mk ?_) | (refine AsBool.mk ?_) | (refine AsPtr.mk ?_) | (refine AsSlc.mk ?_) | (refine AsLen.mk ?_) | (refine AsCnt.mk ?_) | (refine AsAgg.mk ?_) | (refine AsTup.mk ?_) | (refine AsFn.mk ?_)
    | (refine NotNil.ptr ?_) | (refine NotNil.ifc ?_) | (refine NotNil.fnc ?_) | (refine IsNil.ptr ?_) | (refine IsNil.ptr0 ?_) | (refine IsNil.slc ?_) | (refine IsNil.slc0 ?_) | (refine IsNil.ifc ?_) | (refine IsNil.ifc0 ?_)
    | (refine Sc.mk rfl ?_) | (refine Same.slc ?_) | (refine Same.ptr ?_) | (refine Same.int ?_) | (refine Same.bool ?_) | (refine Cd.t rfl ?_) | (refine Cd.f rfl ?_) | (refine Cd.t (by decide +kernel) ?_) | (refine Cd.f (by decide +kernel) ?_) | (refine AsWant.mk ?_) | (refine AsStr.mk ?_)
    | (refine ld (by assumption) rfl ?_)
    | (refine nw (by assumption) fun _ _ _ => ?_)
    | (refine stB (by assumption) rfl rfl fun _ _ => ?_))
        by_cases h7 : (s.step M 0).1.at_ = 7
        · refine Cd.t (eqZ_t h7) ?_
          show _ = _ ∧ _
          exact ⟨rfl, e7, e9, (s.step M 0).2, ⟨by have := hM.step (s := s) (th := 0); have := this.1; omega, (hM.step (s := s) (th := 0)).2⟩, h8.ent (by repeat (first | exact Ent.refl _ | exact Ent.none | apply Ent.cons (by repeat (first | exact Pull.here | apply Pull.there)) | refine Ent.drop ?_))⟩
        · refine Cd.f (eqZ_f h7) ?_
          repeat (first
    | (refine AsInt.mk ?_) | (refine AsNat.mk ?_) | (refine AsBool.mk ?_) | (refine AsPtr.mk ?_) | (refine AsSlc.mk ?_) | (refine AsLen.mk ?_) | (refine AsCnt.mk ?_) | (refine AsAgg.mk ?_) | (refine AsTup.mk ?_) | (refine AsFn.mk ?_)
    | (refine NotNil.ptr ?_) | (refine NotNil.ifc ?_) | (refine NotNil.fnc ?_) | (refine IsNil.ptr ?_) | (refine IsNil.ptr0 ?_) | (refine IsNil.slc ?_) | (refine IsNil.slc0 ?_) | (refine IsNil.ifc ?_) | (refine IsNil.ifc0 ?_)
    | (refine Sc.mk rfl ?_) | (refine Same.slc ?_) | (refine Same.ptr ?_) | (refine Same.int ?_) | (refine Same.bool ?_) | (refine Cd.t rfl ?_) | (refine Cd.f rfl ?_) | (refine Cd.t (by decide +kernel) ?_) | (refine Cd.f (by decide +kernel) ?_) | (refine AsWant.mk ?_) | (refine AsStr.mk ?_)
    | (refine ld (by assumption) rfl ?_)
    | (refine nw (by assumption) fun _ _ _ => ?_)
    | (refine stB (by assumption) rfl rfl fun _ _ => ?_))
          refine inR_nat (n := j + 1) (by omega) ?_
          show ∃ y, _ ∧ _
          exact ⟨j + 1, by omega, e7, e9, e11, e13, e14, rfl, hlt, (s.step M 0).1, nx', (s.step M 0).2, step_st _ _ _, by have := step_le s M 0; omega, hnx', hM.step, h8.ent (by repeat (first | exact Ent.refl _ | exact Ent.none | apply Ent.cons (by repeat (first | exact Pull.here | apply Pull.there)) | refine Ent.drop ?_))⟩
      · refine Cd.f (ltZ_f (by omega)) ?_
        show _ = _ ∧ _
        exact ⟨rfl, e7, e9, M, ⟨by have := hM.1; omega, hM.2⟩, hs2.ent (by repeat (first | exact Ent.refl _ | exact Ent.none | apply Ent.cons (by repeat (first | exact Pull.here | apply Pull.there)) | refine Ent.drop ?_))⟩
    · obtain ⟨e7, e9, M, hM, hs3⟩ := hP
      show Cd _ _ _
      refine Cd.t (eqN_self 2) ?_
      simp only [e7, e9]
      refine call_con (hlive _) ?_
      refine AsWant.mk (Cd.t rfl ?_)
      have hs4 : Sat (RefP r M :: MemP m M :: L) H := hs3.ent (by repeat (first | exact Ent.refl _ | exact Ent.none | apply Ent.cons (by repeat (first | exact Pull.here | apply Pull.there)) | refine Ent.drop ?_))
      obtain ⟨f1, f2, u1, u2, d, ⟨bl, tr, ⟨hn, hf⟩, hin⟩, hR⟩ := hs4.opens Pull.here
      have hs5 := Sat.merge u1 u2 d hin hR
      simp only [List.cons_append, List.nil_append] at hs5
      obtain ⟨g1, g2, t1, t2, d2, hT, _⟩ := hs5.opens (A := TrAt tr tA M.tr) (.there (.there .here))
      obtain ⟨pt, rfl⟩ := hT.shape
      refine memTrace_ok hc hs5 (by repeat (first | exact Pull.here | apply Pull.there)) (by have := hM.1; omega) hM.2 fun x H9 h9 => ?_
      repeat (first
    | (refine AsInt.mk ?_) | (refine AsNat.mk ?_) | (refine AsBool.mk ?_) | (refine AsPtr.mk ?_) | (refine AsSlc.mk ?_) | (refine AsLen.mk ?_) | (refine AsCnt.mk ?_) | (refine AsAgg.mk ?_) | (refine AsTup.mk ?_) | (refine AsFn.mk ?_)
    | (refine NotNil.ptr ?_) | (refine NotNil.ifc ?_) | (refine NotNil.fnc ?_) | (refine IsNil.ptr ?_) | (refine IsNil.ptr0 ?_) | (refine IsNil.slc ?_) | (refine IsNil.slc0 ?_) | (refine IsNil.ifc ?_) | (refine IsNil.ifc0 ?_)
    | (refine Sc.mk rfl ?_) | (refine Same.slc ?_) | (refine Same.ptr ?_) | (refine Same.int ?_) | (refine Same.bool ?_) | (refine Cd.t rfl ?_) | (refine Cd.f rfl ?_) | (refine Cd.t (by decide +kernel) ?_) | (refine Cd.f (by decide +kernel) ?_) | (refine AsWant.mk ?_) | (refine AsStr.mk ?_)
    | (refine ld (by assumption) rfl ?_)
    | (refine nw (by assumption) fun _ _ _ => ?_)
    | (refine stB (by assumption) rfl rfl fun _ _ => ?_))
      refine sameTrace_ok hc h9 (by repeat (first | exact Pull.here | apply Pull.there)) (by repeat (first | exact Pull.here | apply Pull.there)) (by have := hM.1; omega) hM.2 fun H10 h10 => ?_
      repeat (first
    | (refine AsInt.mk ?_) | (refine AsNat.mk ?_) | (refine AsBool.mk ?_) | (refine AsPtr.mk ?_) | (refine AsSlc.mk ?_) | (refine AsLen.mk ?_) | (refine AsCnt.mk ?_) | (refine AsAgg.mk ?_) | (refine AsTup.mk ?_) | (refine AsFn.mk ?_)
    | (refine NotNil.ptr ?_) | (refine NotNil.ifc ?_) | (refine NotNil.fnc ?_) | (refine IsNil.ptr ?_) | (refine IsNil.ptr0 ?_) | (refine IsNil.slc ?_) | (refine IsNil.slc0 ?_) | (refine IsNil.ifc ?_) | (refine IsNil.ifc0 ?_)
    | (refine Sc.mk rfl ?_) | (refine Same.slc ?_) | (refine Same.ptr ?_) | (refine Same.int ?_) | (refine Same.bool ?_) | (refine Cd.t rfl ?_) | (refine Cd.f rfl ?_) | (refine Cd.t (by decide +kernel) ?_) | (refine Cd.f (by decide +kernel) ?_) | (refine AsWant.mk ?_) | (refine AsStr.mk ?_)
    | (refine ld (by assumption) rfl ?_)
    | (refine nw (by assumption) fun _ _ _ => ?_)
    | (refine stB (by assumption) rfl rfl fun _ _ => ?_))
      rfl
end Go.Proofs.Ytipbbnoepphdkaa
