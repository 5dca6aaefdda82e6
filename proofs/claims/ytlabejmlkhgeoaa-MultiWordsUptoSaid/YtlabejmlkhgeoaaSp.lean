/- What the functions do to the memories and procs that they are given: their contracts. The conditions stand in each. -/
import Derived.Test.YtlabejmlkhgeoaaDec
import Derived.Test.YtlabejmlkhgeoaaCmF
set_option linter.unusedVariables false
set_option linter.unusedSimpArgs false

set_option linter.unusedVariables false
set_option linter.unusedSimpArgs false
namespace Go.Proofs.Ytlabejmlkhgeoaa
open Go Go.CM
abbrev lives : List Nat := [15, 18]
abbrev tPl : Nat := 74
abbrev tA : Nat := 105
abbrev tU : Nat := 22
abbrev tAS : Nat := 71
abbrev tUS : Nat := 23
abbrev MemP (m : Nat) (M : Mem) : HP := MemAt tPl tA tU m M
abbrev RefP (m : Nat) (M : Mem) : HP := RefAt tA tU m M
attribute [local irreducible] AsBool AsWant AsNat AsInt AsCnt AsPtr AsSlc AsLen AsStr AsAgg AsTup AsFn AsIfc Nth Sc NotNil IsNil Must Cd codeW funW Sat SatL wrapN subM mkRow ltZ leZ ltN leN
variable {con : CallT}
theorem el_acc : elemOk Try.prog tAS tA 8 80 = true := by kernel_rfl
theorem el_u64 : elemOk Try.prog tUS tU 1 8 = true := by kernel_rfl
theorem sl_acc : ∃ e, Try.prog.underlying tAS = some (.slice e) := ⟨tA, by kernel_rfl⟩
theorem sl_u64 : ∃ e, Try.prog.underlying tUS = some (.slice e) := ⟨tU, by kernel_rfl⟩
theorem off1 (a : Nat) : Nat.add 0 (Nat.mul a 1) = a := by show 0 + a * 1 = a; omega
theorem map_get (l : List Nat) {a : Nat} (h : a < l.length) : (l.map u64)[a]? = some (u64 (l.getD a 0)) := by
  rw [List.getElem?_map, List.getElem?_eq_getElem h, List.getD_eq_getElem?_getD, List.getElem?_eq_getElem h]; rfl
theorem plainSize_ok (hc : Con con lives) {L : List HP} {H : CH} {b x c n : Nat} {o : Nat} {f : Value} {K : KP} (hs : Sat L H) [HasCell L b [slc x o n c, f]] (k : K (iN n) H) : Call1 Try.prog con 91 [ptr b 0] H K := by
  refine call_of (hc _ _ _ rfl) ?_
  rw [plainSize_W]
  repeat (refine gO ?_; intros)
  exact k
theorem plainLoad_ok (hc : Con con lives) {L : List HP} {H : CH} {b x c n a : Nat} {f v : Value} {cs : List Value} {K : KP} (hs : Sat L H) [HasCell L b [slc x 0 n c, f]] [HasCell L x cs] (ha : a < n) (hv : cs[a]? = some v) (k : K v H) : Call1 Try.prog con 89 [ptr b 0, u64 a] H K := by
  refine call_of (hc _ _ _ rfl) ?_
  rw [plainLoad_W]
  repeat (refine gO ?_; intros)
  refine Must.mk (ltN_t ha) (ld hs (by rw [off1]; exact hv) k)
theorem memHas_ok (hc : Con con lives) {L R : List HP} {H : CH} {m a : Nat} {M : Mem} {K : KP} (hs : Sat L H) (hp : Pull L (MemP m M) R) (k : K (.bool (ltN a M.cells.length)) H) : Call1 Try.prog con 45 [ptr m 0, u64 a] H K := by
  refine call_of (hc _ _ _ rfl) ?_
  rw [memHas_W]
  obtain ⟨h1, h2, s1, s2, d, ⟨bp, bl, tr, ⟨hn, hf⟩, hin⟩, hR⟩ := hs.opens hp
  have hs1 := Sat.merge s1 s2 d hin hR
  simp only [List.cons_append, List.nil_append] at hs1
  repeat (refine gO ?_; intros)
  refine Mth.of (f := 91) (rc := ptr bp 0) (by kernel_rfl) (by kernel_rfl) ?_
  refine plainSize_ok hc hs1 ?_
  repeat (refine gO ?_; intros)
  refine Must.mk (cv_small (by omega)) ?_
  rw [wrapN_small (by omega)]
  exact k
theorem memPeek_ok (hc : Con con lives) {L R : List HP} {H : CH} {m a : Nat} {M : Mem} {K : KP} (hs : Sat L H) (hp : Pull L (MemP m M) R) (k : K (u64 (M.peek a)) H) : Call1 Try.prog con 31 [ptr m 0, u64 a] H K := by
  refine call_of (hc _ _ _ rfl) ?_
  rw [memPeek_W]
  refine memHas_ok hc hs hp ?_
  obtain ⟨h1, h2, s1, s2, d, ⟨bp, bl, tr, ⟨hn, hf⟩, hin⟩, hR⟩ := hs.opens hp
  have hs1 := Sat.merge s1 s2 d hin hR
  simp only [List.cons_append, List.nil_append] at hs1
  repeat (refine gO ?_; intros)
  by_cases h : a < M.cells.length
  · refine Cd.f (by rw [ltN_t h]; rfl) ?_
    repeat (refine gO ?_; intros)
    refine Mth.of (f := 89) (rc := ptr bp 0) (by kernel_rfl) (by kernel_rfl) ?_
    exact plainLoad_ok hc hs1 h (map_get _ h) k
  · refine Cd.t (by rw [ltN_f (by omega)]; rfl) ?_
    have e : M.peek a = 0 := by unfold Mem.peek; rw [List.getD_eq_getElem?_getD, List.getElem?_eq_none (by omega)]; rfl
    rw [e] at k
    exact k
theorem note_ok (hc : Con con lives) {L R1 R2 R3 : List HP} {H : CH} {p m n : Nat} {th : Int} {M : Mem} {v0 : Value} {c : Acs} {K : KP} (hs : Sat L H) (hm' : Pull L (MemP m M) R1) (hv : Pull R1 (ViewAt p m th n) R2) (hq : Pull R2 (Nums v0 c.vals) R3)
    (hn : n < 1000000000) (ht : M.tr.length < 1000000000) (hv0 : isCell v0 = true) (k : ∀ H1, Sat (MemP m (M.note { c with th := th }) :: ViewAt p m th (n + 1) :: R3) H1 → K unit H1) :
    Call1 Try.prog con 42 [ptr p 0, .agg ⟨[i64 (Int.ofNat 0), u8 c.kind, u64 c.a, u64 c.x, u64 c.y, v0, u64 c.got, .bool c.ok]⟩] H K := by
  refine call_of (hc _ _ _ rfl) ?_
  rw [viewNote_W]
  have hs0 := hs.takes (.cons hm' (.cons hv (.cons hq .nil)))
  simp only [List.cons_append, List.nil_append] at hs0
  obtain ⟨h1, h2, s1, s2, d, ⟨bp, bl, tr, ⟨hn1, hf⟩, hin⟩, hR⟩ := hs0.opens Pull.here
  have hs1 := Sat.merge s1 s2 d hin hR
  simp only [List.cons_append, List.nil_append] at hs1
  obtain ⟨g1, g2, t1, t2, d2, hT, _⟩ := hs1.opens (.there (.there (.there .here)))
  obtain ⟨q, rfl⟩ := hT.shape
  repeat (refine gO ?_; intros)
  refine inR_nat (n := n + 1) (by omega) ?_
  repeat (refine gO ?_; intros)
  refine app_trace (c := { c with th := th }) (v0 := v0) (by assumption) pp pp el_acc (by omega) sl_acc hv0 ht (fun q H1 hs2 => ?_)
  repeat (refine gO ?_; intros)
  refine k _ (Sat.close (L1 := [_, _, _, _]) (Sat.ent (by assumption) ee) fun g a => ⟨bp, bl, _, ⟨hn1, hf⟩, a⟩)
end Go.Proofs.Ytlabejmlkhgeoaa

set_option linter.unusedVariables false
set_option linter.unusedSimpArgs false
namespace Go.Proofs.Ytlabejmlkhgeoaa
open Go Go.CM
attribute [local irreducible] AsBool AsWant AsNat AsInt AsCnt AsPtr AsSlc AsLen AsStr AsAgg AsTup AsFn AsIfc Nth Sc NotNil IsNil Must Cd codeW funW Sat SatL wrapN subM mkRow ltZ leZ ltN leN
variable {con : CallT}
theorem memView_ok (hc : Con con lives) {L : List HP} {H : CH} {m : Nat} {th : Int} {K : KP} (hs : Sat L H) (k : ∀ p H1, Sat (ViewAt p m th 0 :: L) H1 → K (ptr p 0) H1) : Call1 Try.prog con 11 [ptr m 0, i64 th] H K := by
  refine call_of (hc _ _ _ rfl) ?_
  rw [memView_W]
  exact nw hs k
def mem0 (n : Nat) : Mem := { cells := List.replicate n 0, free := 1, tr := [] }
theorem zero_u : (zeroOf Try.prog tU).map cellsF = some [u64 0] := by kernel_rfl
theorem rep_u (n : Nat) : (List.replicate n [u64 0]).flatten = (List.replicate n 0).map u64 := by
  induction n with
  | zero => rfl
  | succ n ih => rw [List.replicate_succ, List.replicate_succ, List.flatten_cons, List.map_cons, ih]; rfl
theorem arenaNew_ok (hc : Con con lives) {L : List HP} {H : CH} {n : Nat} {K : KP} (hs : Sat L H) (h1 : 128 ≤ n) (h2 : n ≤ 4194304) (k : ∀ m H1, Sat (MemP m (mem0 n) :: L) H1 → K (.tuple ⟨[ptr m 0, iN 0]⟩) H1) : Call1 Try.prog con 7 [iN n, .bool false] H K := by
  refine call_of (hc _ _ _ rfl) ?_
  rw [arenaNew_W]
  refine Cd.f (ltZ_f (by omega)) ?_
  refine Cd.f (ltZ_f (by omega)) ?_
  repeat (refine gO ?_; intros)
  refine mkS hs el_u64 zero_u (Nat.le_refl n) (by omega) (by omega) fun b H1 h => ?_
  rw [rep_u] at h
  refine Sc.mk rfl ?_
  refine nw h fun bp H2 h2 => nw h2 fun m H3 h3 => ?_
  refine k _ _ (Sat.close (L1 := [Own m [.iface tPl (ptr bp 0), .bool false, snil], Own bp [slc b 0 n n, iN 1], Row b tU 0 true ((List.replicate n 0).map u64), TrAt snil tA []]) (Sat.ent (Sat.nilT (e := tA) h3) ee) fun g a => ⟨bp, b, snil, ⟨by simp [mem0]; omega, by simp [mem0]; omega⟩, by simpa only [mem0, List.length_replicate] using a⟩)
theorem refNew_ok (hc : Con con lives) {L : List HP} {H : CH} {n : Nat} {K : KP} (hs : Sat L H) (h1 : 128 ≤ n) (h2 : n ≤ 4194304) (k : ∀ m H1, Sat (RefP m (mem0 n) :: L) H1 → K (.tuple ⟨[ptr m 0, iN 0]⟩) H1) : Call1 Try.prog con 8 [iN n, .bool false] H K := by
  refine call_of (hc _ _ _ rfl) ?_
  rw [refNew_W]
  refine Cd.f (ltZ_f (by omega)) ?_
  refine Cd.f (ltZ_f (by omega)) ?_
  refine mkS hs el_u64 zero_u (Nat.le_refl n) (by omega) (by omega) fun b H1 h => ?_
  rw [rep_u] at h
  refine Sc.mk rfl ?_
  refine nw h fun m H3 h3 => ?_
  refine k _ _ (Sat.close (L1 := [Own m [slc b 0 n n, iN 1, snil, .bool false], Row b tU 0 true ((List.replicate n 0).map u64), TrAt snil tA []]) (Sat.ent (Sat.nilT (e := tA) h3) ee) fun g a => ⟨b, snil, ⟨by simp [mem0]; omega, by simp [mem0]; omega⟩, by simpa only [mem0, List.length_replicate] using a⟩)
theorem refPeek_ok (hc : Con con lives) {L R : List HP} {H : CH} {m a : Nat} {M : Mem} {K : KP} (hs : Sat L H) (hp : Pull L (RefP m M) R) (k : K (u64 (M.peek a)) H) : Call1 Try.prog con 32 [ptr m 0, u64 a] H K := by
  refine call_of (hc _ _ _ rfl) ?_
  rw [refPeek_W]
  obtain ⟨h1, h2, s1, s2, d, ⟨bl, tr, ⟨hn, hf⟩, hin⟩, hR⟩ := hs.opens hp
  have hs1 := Sat.merge s1 s2 d hin hR
  simp only [List.cons_append, List.nil_append] at hs1
  repeat (refine gO ?_; intros)
  refine Must.mk (cv_small (by omega)) ?_
  rw [wrapN_small (by omega)]
  by_cases h : a < M.cells.length
  · refine Cd.f (leN_f h) ?_
    repeat (refine gO ?_; intros)
    refine Must.mk (ltN_t h) (ld hs1 (by rw [off1]; exact map_get _ h) k)
  · refine Cd.t (leN_t (by omega)) ?_
    have e : M.peek a = 0 := by unfold Mem.peek; rw [List.getD_eq_getElem?_getD, List.getElem?_eq_none (by omega)]; rfl
    rw [e] at k
    exact k
theorem refNote_ok (hc : Con con lives) {L R2 R3 : List HP} {H : CH} {m : Nat} {M : Mem} {v0 : Value} {c : Acs} {K : KP} (hs : Sat L H) (hm' : Pull L (RefP m M) R2) (hq : Pull R2 (Nums v0 c.vals) R3)
    (ht : M.tr.length < 1000000000) (hv0 : isCell v0 = true) (k : ∀ H1, Sat (RefP m (M.note c) :: R3) H1 → K unit H1) :
    Call1 Try.prog con 44 [ptr m 0, .agg ⟨[i64 c.th, u8 c.kind, u64 c.a, u64 c.x, u64 c.y, v0, u64 c.got, .bool c.ok]⟩] H K := by
  refine call_of (hc _ _ _ rfl) ?_
  rw [refNote_W]
  have hs0 := hs.takes (.cons hm' (.cons hq .nil))
  simp only [List.cons_append, List.nil_append] at hs0
  obtain ⟨h1, h2, s1, s2, d, ⟨bl, tr, ⟨hn1, hf⟩, hin⟩, hR⟩ := hs0.opens Pull.here
  have hs1 := Sat.merge s1 s2 d hin hR
  simp only [List.cons_append, List.nil_append] at hs1
  obtain ⟨g1, g2, t1, t2, d2, hT, _⟩ := hs1.opens (A := TrAt tr tA M.tr) (.there (.there .here))
  obtain ⟨q, rfl⟩ := hT.shape
  repeat (refine gO ?_; intros)
  refine app_trace (c := c) (v0 := v0) (by assumption) pp pp el_acc (by omega) sl_acc hv0 ht (fun q H1 hs2 => ?_)
  repeat (refine gO ?_; intros)
  refine k _ (Sat.close (L1 := [_, _, _]) (Sat.ent (by assumption) ee) fun g a => ⟨bl, _, ⟨hn1, hf⟩, a⟩)
end Go.Proofs.Ytlabejmlkhgeoaa

set_option linter.unusedVariables false
set_option linter.unusedSimpArgs false
namespace Go.Proofs.Ytlabejmlkhgeoaa
open Go Go.CM
attribute [local irreducible] AsBool AsWant AsNat AsInt AsCnt AsPtr AsSlc AsLen AsStr AsAgg AsTup AsFn AsIfc Nth Sc NotNil IsNil Must Cd codeW funW Sat SatL wrapN subM mkRow ltZ leZ ltN leN
variable {con : CallT}
theorem cloneN_ok (hc : Con con lives) {L : List HP} {H : CH} {v : Value} {l : List Nat} {K : KP} (hs : Sat L H) (hq : Has L (Nums v l)) (hl : l.length ≤ 1000000000) (k : ∀ v' H1, isCell v' = true → Sat (Nums v' l :: L) H1 → K v' H1) : Call1 Try.prog con 40 [v] H K := by
  refine call_of (hc _ _ _ rfl) ?_
  rw [cloneN_W]
  rcases (hs.has hq).shape with ⟨rfl, rfl⟩ | ⟨b, o, c, rfl⟩
  · repeat (refine gO ?_; intros)
    exact k _ _ rfl hs.nil
  · refine IsNil.slc (Cd.f rfl ?_)
    refine nwR hs fun p H1 h1 => ?_
    rcases Nat.eq_zero_or_pos l.length with h0 | hpos
    · have hl0 : l = [] := List.eq_nil_of_length_eq_zero h0
      subst hl0
      refine app_none h1 el_u64 sl_u64 (Src.skip (hq.src rfl)) ?_
      exact k _ _ rfl (h1.imp fun g r => .inr ⟨p, 0, 0, tU, 0, true, [], rfl, Nat.le_refl _, Nat.le_refl _, rfl, r⟩)
    · refine app_clone (new := l.map fun x => [u64 x]) h1 el_u64 (by omega) sl_u64 (by rw [flat1]; exact hq.src rfl) (by simp) (by simp) hl hpos fun v' H2 h2 => ?_
      have h3 : Sat (Nums v' l :: L) H2 := h2.imp fun g a => a.nums
      refine k _ _ ?_ h3
      obtain ⟨p, c, rfl⟩ := (h3.has Has.nums).len
      rfl
end Go.Proofs.Ytlabejmlkhgeoaa

set_option linter.unusedVariables false
set_option linter.unusedSimpArgs false
namespace Go.Proofs.Ytlabejmlkhgeoaa
open Go Go.CM
attribute [local irreducible] AsBool AsWant AsNat AsInt AsCnt AsPtr AsSlc AsLen AsStr AsAgg AsTup AsFn AsIfc Nth Sc NotNil IsNil Must Cd codeW funW Sat SatL wrapN subM mkRow ltZ leZ ltN leN
variable {con : CallT}
theorem plainAlloc_ok (hc : Con con lives) {R : List HP} {H : CH} {bp bl fr : Nat} {cells vals : List Nat} {v : Value} {K : KP} (hs : Sat (Own bp [slc bl 0 cells.length cells.length, iN fr] :: Row bl tU 0 true (cells.map u64) :: R) H)
    (hn : cells.length ≤ 4194304) (hf : fr ≤ cells.length) (hv : Has R (Nums v vals)) (hl : vals.length ≤ 1000000000) (hp : 0 < vals.length)
    (k0 : cells.length - fr < vals.length → K (u64 0) H) (k1 : vals.length ≤ cells.length - fr → ∀ H1, Sat (Own bp [slc bl 0 cells.length cells.length, iN (fr + vals.length)] :: Row bl tU 0 true ((ovN vals cells fr).map u64) :: R) H1 → K (u64 fr) H1) :
    Call1 Try.prog con 86 [ptr bp 0, v] H K := by
  refine call_of (hc _ _ _ rfl) ?_
  rw [plainAlloc_W]
  rcases (hs.has (Has.skip (Has.skip hv))).shape with ⟨rfl, rfl⟩ | ⟨b, o, c, rfl⟩
  · simp at hp
  repeat (refine gO ?_; intros)
  rw [subInt hf]
  refine inR_nat (by omega) ?_
  refine Cd.of (fun h => ?_) (fun h => ?_)
  · refine k0 ?_
    exact ltZ_e h
  · have hle : vals.length ≤ cells.length - fr := ltZ_n h
    repeat (refine gO ?_; intros)
    have hs2 : Sat (Row bl tU 0 true (cells.map u64) :: Own bp [slc bl 0 cells.length cells.length, iN fr] :: R) H := hs.ent ee
    refine slcR hs2 el_u64 hf (Nat.le_refl _) fun o' ho' => ?_
    obtain rfl := ho' (by omega)
    refine cpy (n := vals.length) hs el_u64 (Nat.min_eq_left (by omega)) (Src.skip (Src.skip (hv.src rfl))) (by simp) (by simp; omega) (isCell_u64 _) fun H1 h1 => ?_
    rw [Nat.mul_one, ovw_map] at h1
    repeat (refine gO ?_; intros)
    rw [addInt]
    refine inR_nat (by omega) ?_
    refine stB h1 rfl rfl fun H2 h2 => ?_
    repeat (refine gO ?_; intros)
    refine Must.mk (cv_small (by omega)) ?_
    rw [wrapN_small (by omega)]
    exact k1 hle _ h2
theorem viewAlloc_ok (hc : Con con lives) {L R1 R2 : List HP} {H : CH} {p m n : Nat} {th : Int} {M : Mem} {v : Value} {vals : List Nat} {K : KP} (hs : Sat L H) (hm : Pull L (MemP m M) R1) (hv : Pull R1 (ViewAt p m th n) R2) (hq : Has R2 (Nums v vals)) (hl : vals.length ≤ 1000000000)
    (hn : n < 1000000000) (ht : M.tr.length < 1000000000) (k : ∀ H1, Sat (MemP m (M.alloc th vals) :: ViewAt p m th (n + 1) :: R2) H1 → K (u64 (M.room vals)) H1) : Call1 Try.prog con 29 [ptr p 0, v] H K := by
  refine call_of (hc _ _ _ rfl) ?_
  rw [viewAlloc_W]
  have hs0 := hs.takes (.cons hm (.cons hv .nil))
  simp only [List.cons_append, List.nil_append] at hs0
  have tail : ∀ {a : Nat} {M' : Mem} {H1 : CH} {K' : KP}, Sat (MemP m M' :: ViewAt p m th n :: R2) H1 → M'.tr.length < 1000000000 → (∀ H2, Sat (MemP m (M'.note (accNew th a vals)) :: ViewAt p m th (n + 1) :: R2) H2 → K' (u64 a) H2) →
      Call1 Try.prog con 40 [v] H1 fun v8 H9 => Sc (u64 a) (Sc v8 (Call1 Try.prog con 42 [ptr p 0, .agg ⟨[i64 (Int.ofNat 0), u8 5, u64 a, u64 0, u64 0, v8, u64 0, .bool false]⟩] H9 fun v10 H11 => K' (u64 a) H11)) := by
    intro a M' H1 K' h1 ht' k'
    refine cloneN_ok hc h1 (Has.skip (Has.skip hq)) hl fun v' H2 hc' h2 => ?_
    refine Sc.mk rfl (Sc.mk hc' ?_)
    exact note_ok (th := th) (M := M') (c := accNew 0 a vals) (v0 := v') hc h2 pp pp pp hn ht' hc' fun H3 h3 => k' _ h3
  obtain ⟨pv, cv, rfl⟩ := (hs0.has (Has.skip (Has.skip hq))).len
  repeat (refine gO ?_; intros)
  refine Cd.of (fun h => ?_) (fun h => ?_)
  · have hpos : 0 < vals.length := ltZ_e h
    obtain ⟨h1, h2, s1, s2, d, ⟨bp, bl, tr, ⟨hn1, hf1⟩, hin⟩, hR⟩ := hs0.opens Pull.here
    have hs1 := Sat.merge s1 s2 d hin hR
    simp only [List.cons_append, List.nil_append] at hs1
    repeat (refine gO ?_; intros)
    refine Mth.of (f := 86) (rc := ptr bp 0) (by kernel_rfl) (by kernel_rfl) ?_
    have hs2 : Sat (Own bp [slc bl 0 M.cells.length M.cells.length, iN M.free] :: Row bl tU 0 true (M.cells.map u64) :: Own m [.iface tPl (ptr bp 0), .bool false, tr] :: TrAt tr tA M.tr :: ViewAt p m th n :: R2) H := hs1.ent ee
    refine plainAlloc_ok hc hs2 hn1 hf1 (Has.skip (Has.skip (Has.skip hq))) hl hpos (fun hlt => ?_) (fun hle H3 h3 => ?_)
    · have hno : ¬ (0 < vals.length ∧ vals.length ≤ M.cells.length - M.free) := by omega
      have e1 := room_f hno
      rw [alloc_f hno, e1] at k
      exact tail hs0 ht k
    · rw [alloc_t hpos hle, room_t hpos hle] at k
      have h4 : Sat (MemP m (M.take vals) :: ViewAt p m th n :: R2) H3 := Sat.close (L1 := [Own m [.iface tPl (ptr bp 0), .bool false, tr], Own bp [slc bl 0 M.cells.length M.cells.length, iN (M.free + vals.length)], Row bl tU 0 true ((ovN vals M.cells M.free).map u64), TrAt tr tA M.tr]) (h3.ent ee) fun g a => ⟨bp, bl, tr, ⟨by show (ovN vals M.cells M.free).length ≤ _; rw [ovN_len]; exact hn1, by show M.free + vals.length ≤ (ovN vals M.cells M.free).length; rw [ovN_len]; omega⟩, by show SatL [_, Own bp [slc bl 0 (ovN vals M.cells M.free).length (ovN vals M.cells M.free).length, iN (M.free + vals.length)], _, _] g; rw [ovN_len]; exact a⟩
      exact tail h4 ht k
  · have h0 : vals.length = 0 := by
      have := ltZ_n h
      omega
    have hno : ¬ (0 < vals.length ∧ vals.length ≤ M.cells.length - M.free) := by omega
    rw [alloc_f hno, room_f hno] at k
    have := tail (a := 0) (K' := K) hs0 ht k
    refine cloneN_ok hc hs0 (Has.skip (Has.skip hq)) hl fun v' H2 hc' h2 => ?_
    refine Sc.mk hc' ?_
    exact note_ok (th := th) (M := M) (c := accNew 0 0 vals) (v0 := v') hc h2 pp pp pp hn ht hc' fun H3 h3 => k _ h3
theorem refLeft_ok (hc : Con con lives) {L R : List HP} {H : CH} {m : Nat} {M : Mem} {K : KP} (hs : Sat L H) (hp : Pull L (RefP m M) R) (k : M.free ≤ M.cells.length → M.cells.length ≤ 4194304 → K (iN (M.cells.length - M.free)) H) : Call1 Try.prog con 43 [ptr m 0] H K := by
  refine call_of (hc _ _ _ rfl) ?_
  rw [refLeft_W]
  obtain ⟨h1, h2, s1, s2, d, ⟨bl, tr, ⟨hn, hf⟩, hin⟩, hR⟩ := hs.opens hp
  have hs1 := Sat.merge s1 s2 d hin hR
  simp only [List.cons_append, List.nil_append] at hs1
  repeat (refine gO ?_; intros)
  rw [subInt hf]
  refine inR_nat (by omega) ?_
  exact k hf hn
theorem refAlloc_ok (hc : Con con lives) {L R : List HP} {H : CH} {m : Nat} {th : Int} {M : Mem} {v : Value} {vals : List Nat} {K : KP} (hs : Sat L H) (hp : Pull L (RefP m M) R) (hq : Has R (Nums v vals)) (hl : vals.length ≤ 1000000000)
    (ht : M.tr.length < 1000000000) (k : ∀ H1, Sat (RefP m (M.alloc th vals) :: R) H1 → K (u64 (M.room vals)) H1) : Call1 Try.prog con 30 [ptr m 0, i64 th, v] H K := by
  refine call_of (hc _ _ _ rfl) ?_
  rw [refAlloc_W]
  have hs0 := hs.pull hp
  have app : ∀ {M' : Mem} {H1 : CH} {K' : KP}, Sat (RefP m M' :: R) H1 → (∀ v' H2, isCell v' = true → Sat (Nums v' vals :: RefP m M' :: R) H2 → K' v' H2) → App Try.prog tUS tUS H1 (.slice none 0 0) v K' := by
    intro M' H1 K' h1 k'
    have h2 := h1.nilV (e := tU) (s := 1)
    rcases (h1.has (Has.skip hq)).shape with ⟨rfl, rfl⟩ | ⟨b, o, c, rfl⟩
    · exact App.of (v := snil) (H1 := H1) (by kernel_rfl) (k' _ _ rfl h1.nil)
    · refine app_vec (x := .slice none 0 0) (new := vals.map fun x => [u64 x]) h2 pp el_u64 (by omega) sl_u64 (by rw [flat1]; exact Src.skip (Src.skip (hq.src rfl))) (by simp) (by simp) (by simpa using hl) (by rw [flat1]; exact isCell_u64 _) fun v' H2 h3 => ?_
      rw [List.nil_append] at h3
      have h4 : Sat (Nums v' vals :: RefP m M' :: R) H2 := h3.imp fun g a => a.nums
      obtain ⟨p, c', rfl⟩ := (h4.has Has.nums).len
      exact k' _ _ rfl h4
  have tail : ∀ {a : Nat} {M' : Mem} {H1 : CH} {K' : KP}, a < 9223372036854775808 → Sat (RefP m M' :: R) H1 → M'.tr.length < 1000000000 → (∀ H2, Sat (RefP m (M'.note (accNew th a vals)) :: R) H2 → K' (u64 a) H2) →
      App Try.prog tUS tUS H1 (.slice none 0 0) v fun v26 H27 => Must (cvOk .i64 (Int.ofNat a)) (Sc v26 (Call1 Try.prog con 44 [ptr m 0, .agg ⟨[i64 th, u8 5, u64 (wrapN .u64 (Int.ofNat a)), u64 0, u64 0, v26, u64 0, .bool false]⟩] H27 fun v28 H29 => Must (cvOk .i64 (Int.ofNat a)) (K' (u64 (wrapN .u64 (Int.ofNat a))) H29))) := by
    intro a M' H1 K' ha h1 ht' k'
    refine app h1 fun v' H2 hc' h2 => ?_
    refine Must.mk (cv_small ha) (Sc.mk hc' ?_)
    rw [wrapN_small (by omega)]
    exact refNote_ok (M := M') (c := accNew th a vals) (v0 := v') hc h2 pp pp ht' hc' fun H3 h3 => Must.mk (cv_small ha) (k' _ h3)
  obtain ⟨pv, cv, ev⟩ := (hs0.has (Has.skip hq)).len
  have eL : ∀ {K : Nat → Prop}, K vals.length → AsLen v K := fun {K} h => by rw [ev]; exact AsLen.mk h
  refine eL ?_
  refine Cd.of (fun h => ?_) (fun h => ?_)
  · have hpos : 0 < vals.length := ltZ_e h
    refine eL ?_
    refine refLeft_ok hc hs0 pp fun hfree hcells => ?_
    repeat (refine gO ?_; intros)
    refine Cd.of (fun h => ?_) (fun h => ?_)
    · have hle : vals.length ≤ M.cells.length - M.free := leZ_e h
      rw [alloc_t hpos hle, room_t hpos hle] at k
      obtain ⟨h1, h2, s1, s2, d, ⟨bl, tr, ⟨hn1, hf1⟩, hin⟩, hR⟩ := hs0.opens Pull.here
      have hs1 := Sat.merge s1 s2 d hin hR
      simp only [List.cons_append, List.nil_append] at hs1
      refine ld hs1 rfl (ld hs1 rfl (eL (AsInt.mk ?_)))
      rw [addInt]
      refine inR_nat (by omega) ?_
      refine stB hs1 rfl rfl fun H2 h2 => ?_
      refine LoopC.indP (n := 100) (id := 0) (fun σ H => σ 0 = ptr m 0 ∧ σ 1 = i64 th ∧ σ 2 = v ∧ σ 7 = iN M.free ∧ Sat (RefP m (M.take vals) :: R) H) (by kernel_rfl)
        (fun (i : Nat) σ H => σ 0 = ptr m 0 ∧ σ 1 = i64 th ∧ σ 2 = v ∧ σ 7 = iN M.free ∧ σ 8 = iN i ∧ i ≤ vals.length ∧ ∃ cs : List Nat, cs.length = M.cells.length ∧ ovN (vals.drop i) cs (M.free + i) = ovN vals M.cells M.free ∧
          Sat (Own m [slc bl 0 M.cells.length M.cells.length, iN (M.free + vals.length), tr, .bool false] :: Row bl tU 0 true (cs.map u64) :: TrAt tr tA M.tr :: R) H) (fun i => vals.length - i) (fun i σ H hI => ?_) (fun σ H hP => ?_) 0 _ _
        ⟨rfl, rfl, rfl, rfl, rfl, Nat.zero_le _, M.cells, rfl, rfl, h2⟩
      · obtain ⟨e0, e1, e2, e7, e8, hi, cs, hcs, hov, hs2⟩ := hI
        rw [refAllocL_W]
        simp only [e0, e1, e2, e7, e8]
        refine eL ?_
        repeat (refine gO ?_; intros)
        by_cases hlt : i < vals.length
        · refine Cd.t (ltZ_t hlt) ?_
          repeat (refine gO ?_; intros)
          rw [addInt]
          refine inR_nat (by omega) ?_
          have eS : ∃ b o c, v = slc b o vals.length c := by
            rcases (hs2.has (Has.skip (Has.skip (Has.skip hq)))).shape with ⟨_, h4⟩ | ⟨b, o, c, h⟩
            · rw [h4] at hlt; simp at hlt
            · exact ⟨b, o, c, h⟩
          obtain ⟨b, o, c, e3⟩ := eS
          have hsrc := hq.src e3
          rw [e3]
          repeat (refine gO ?_; intros)
          refine Must.mk (ltN_t hlt) ?_
          refine ldSrc hs2 (Src.skip (Src.skip (Src.skip hsrc))) (by rw [show Nat.mul i 1 = i from Nat.mul_one i]; rfl) (map_get _ hlt) ?_
          repeat (refine gO ?_; intros)
          refine Must.mk (ltN_t (by omega)) ?_
          refine Sc.mk rfl (st hs2 (by rw [off1]; simp [hcs]; omega) rfl fun H5 h5 => ?_)
          rw [off1, ← List.map_set] at h5
          repeat (refine gO ?_; intros)
          rw [show Int.add (Int.ofNat i) (Int.ofNat 1) = Int.ofNat (i + 1) from rfl]
          refine inR_nat (n := i + 1) (by omega) ?_
          show ∃ y, _ ∧ _
          refine ⟨i + 1, by omega, e0, e1, e2.trans e3, e7, rfl, hlt, cs.set (M.free + i) (vals.getD i 0), by simp [hcs], ?_, h5⟩
          rw [← hov, List.drop_eq_getElem_cons hlt, ovN, List.getD_eq_getElem?_getD, List.getElem?_eq_getElem hlt]
          rfl
        · refine Cd.f (ltZ_f (by omega)) ?_
          show _ = _ ∧ _
          have : i = vals.length := by omega
          subst this
          rw [List.drop_of_length_le (Nat.le_refl _)] at hov
          simp only [ovN] at hov
          subst hov
          exact ⟨rfl, e0, e1, e2, e7, Sat.close (L1 := [_, _, _]) (hs2.ent ee) fun g a => ⟨bl, tr, ⟨by show (ovN vals M.cells M.free).length ≤ _; rw [ovN_len]; exact hn1, by show M.free + vals.length ≤ (ovN vals M.cells M.free).length; rw [ovN_len]; omega⟩, by show SatL [Own m [slc bl 0 (ovN vals M.cells M.free).length (ovN vals M.cells M.free).length, iN (M.free + vals.length), tr, .bool false], _, _] g; rw [ovN_len]; exact a⟩⟩
      · obtain ⟨e0, e1, e2, e7, hs2⟩ := hP
        show Cd _ _ _
        refine Cd.t (eqN_self 0) ?_
        simp only [e0, e1, e2, e7]
        refine app hs2 fun v' H2 hc' h2 => ?_
        refine AsInt.mk (Must.mk (cv_small (by omega)) (Sc.mk rfl (Sc.mk hc' ?_)))
        rw [wrapN_small (by omega)]
        exact refNote_ok (M := M.take vals) (c := accNew th M.free vals) (v0 := v') hc h2 pp pp ht hc' fun H3 h3 => AsInt.mk (Must.mk (cv_small (by omega)) (by rw [wrapN_small (by omega)]; exact k _ h3))
    · have hno : ¬ (0 < vals.length ∧ vals.length ≤ M.cells.length - M.free) := by
        have := leZ_n h
        omega
      rw [alloc_f hno, room_f hno] at k
      exact tail (a := 0) (by omega) hs0 ht k
  · have hno : ¬ (0 < vals.length ∧ vals.length ≤ M.cells.length - M.free) := by
      have := ltZ_n h
      omega
    rw [alloc_f hno, room_f hno] at k
    exact tail (a := 0) (by omega) hs0 ht k
end Go.Proofs.Ytlabejmlkhgeoaa

set_option linter.unusedVariables false
set_option linter.unusedSimpArgs false
namespace Go.Proofs.Ytlabejmlkhgeoaa
open Go Go.CM
attribute [local irreducible] AsBool AsWant AsNat AsInt AsCnt AsPtr AsSlc AsLen AsStr AsAgg AsTup AsFn AsIfc Nth Sc NotNil IsNil Must Cd codeW funW Sat SatL wrapN subM mkRow ltZ leZ ltN leN
variable {con : CallT}
theorem sameU_ok (hc : Con con lives) {L : List HP} {H : CH} {v w : Value} {l : List Nat} {K : KP} (hs : Sat L H) (hv : Has L (Nums v l)) (hw : Has L (Nums w l)) (hl : l.length ≤ 1000000000) (k : K (.bool true) H) :
    Call1 Try.prog con 16 [v, w] H K := by
  refine call_of (hc _ _ _ rfl) ?_
  rw [sameU_W]
  obtain ⟨pv, cv, rfl⟩ := (hs.has hv).len
  obtain ⟨pw, cw, rfl⟩ := (hs.has hw).len
  repeat (refine gO ?_; intros)
  refine Cd.f (by rw [eqZ_self]; rfl) ?_
  refine LoopC.ind (n := 100) (by kernel_rfl) (fun (i : Nat) σ H1 => σ 0 = .slice pv l.length cv ∧ σ 1 = .slice pw l.length cw ∧ σ 5 = iN i ∧ i ≤ l.length ∧ H1 = H) (fun i => l.length - i) (fun i σ H1 hI => ?_) 0 _ _ ⟨rfl, rfl, rfl, Nat.zero_le _, rfl⟩
  obtain ⟨e0, e1, e5, hi, rfl⟩ := hI
  rw [sameUL_W]
  simp only [e0, e1, e5]
  repeat (refine gO ?_; intros)
  rcases Nat.lt_or_ge i l.length with hlt | hge
  · refine Cd.t (ltZ_t (by omega)) ?_
    rcases (hs.has hv).shape with ⟨h3, h4⟩ | ⟨b, o, c', h3⟩
    · rw [h4] at hlt; simp at hlt
    rcases (hs.has hw).shape with ⟨h5, h6⟩ | ⟨b', o', c'', h5⟩
    · rw [h6] at hlt; simp at hlt
    cases h3
    cases h5
    repeat (refine gO ?_; intros)
    refine Must.mk (ltN_t hlt) ?_
    refine ldSrc hs (hv.src rfl) (by rw [show Nat.mul i 1 = i from Nat.mul_one i]; rfl) (map_get _ hlt) ?_
    repeat (refine gO ?_; intros)
    refine Must.mk (ltN_t hlt) ?_
    refine ldSrc hs (hw.src rfl) (by rw [show Nat.mul i 1 = i from Nat.mul_one i]; rfl) (map_get _ hlt) ?_
    repeat (refine gO ?_; intros)
    refine Cd.f (by rw [eqN_self]; rfl) ?_
    repeat (refine gO ?_; intros)
    refine inR_nat (n := i + 1) (by omega) ?_
    show ∃ y, _ ∧ _
    exact ⟨i + 1, by omega, e0, e1, rfl, hlt, rfl⟩
  · refine Cd.f (ltZ_f (by omega)) ?_
    show Cd _ _ _
    refine Cd.t (eqN_self 0) ?_
    exact k
end Go.Proofs.Ytlabejmlkhgeoaa

set_option linter.unusedVariables false
set_option linter.unusedSimpArgs false
namespace Go.Proofs.Ytlabejmlkhgeoaa
open Go Go.CM
theorem slcUp {P : Program} {L : List HP} {H : CH} {t e s by_ b m n hi : Nat} {w : Bool} {cs : List Value} {k' : IntKind} {K : Value → Prop} (hs : Sat (Row b e 0 w cs :: L) H) (ht : elemOk P t e s by_ = true) (h1 : hi ≤ m)
    (k : K (slc b 0 hi m)) : Slc P H t (slc b 0 n m) none (some (.int k' (Int.ofNat hi))) none K := by
  obtain ⟨hu, ⟨i, z, hi', hz, g1, g2, g3⟩, hs0⟩ := elemOk.out ht
  obtain ⟨s, rfl⟩ : ∃ x, s = x + 1 := ⟨s - 1, by omega⟩
  obtain ⟨q1, q2, t1, t2, dj, ⟨k0, k1, k2, k3, k4, k5, kf, k6, k7⟩, hR⟩ := hs
  obtain ⟨kn, kb⟩ := dom_some (t1 b k0 k1)
  have hsz : szOf P e = some (s + 1) := by unfold szOf; rw [hi']; simp [g1]
  have hop : open? H b 0 m (s + 1) = some false := by
    unfold open? CH.blk
    rw [kb]
    simp only [k3]
    rfl
  have hbd : cbounds n m none (some (.int k' (Int.ofNat hi))) none = some (0, hi, m) := by
    unfold cbounds cbound
    simp only
    rw [if_pos ⟨Int.natCast_nonneg hi, by show (hi : Int) ≤ (m : Int); omega⟩]
    rfl
  refine ⟨?_⟩
  show match cslice P H t (.slice (some ⟨b, 0, none⟩) n m) _ _ _ with | some v => K v | none => False
  unfold cslice
  simp only [hu, hbd, hsz, Nat.ble_eq_true_of_le h1, cond_true, hop, Bool.not_false, Bool.and_true, Nat.zero_mul, Nat.zero_add, Nat.sub_zero]
  have e1 : ∀ c : Bool, cond c (⟨b, 0, none⟩ : Addr) ⟨b, 0, none⟩ = ⟨b, 0, none⟩ := fun c => by cases c <;> rfl
  rw [e1]
  exact k
attribute [local irreducible] AsBool AsWant AsNat AsInt AsCnt AsPtr AsSlc AsLen AsStr AsAgg AsTup AsFn AsIfc Nth Sc NotNil IsNil Must Cd codeW funW Sat SatL wrapN subM mkRow ltZ leZ ltN leN
variable {con : CallT}
abbrev rowsU (l : List Nat) : List (List Value) := l.map fun x => [u64 x]
theorem fill_set {F : List Value} {i : Nat} {x z : Value} (h : F[i]? = some x) : (F.take i ++ List.replicate (F.length - i) z).set i x = F.take (i + 1) ++ List.replicate (F.length - (i + 1)) z := by
  have hi := (List.getElem?_eq_some_iff.1 h).1
  have hl : (F.take i).length = i := by simp; omega
  rw [show F.length - i = (F.length - (i + 1)) + 1 from by omega, List.replicate_succ, List.set_append_right _ _ (by omega), hl, Nat.sub_self, List.set_cons_zero, List.take_add_one, h]
  simp
def handF (l : List Nat) : List Value := l.map u64 ++ (List.range 9).map fun j => u64 (2305843009213693952 + j)
theorem handF_len (l : List Nat) : (handF l).length = l.length + 9 := by unfold handF; simp
theorem handF_lo {l : List Nat} {i : Nat} (h : i < l.length) : (handF l)[i]? = some (u64 (l.getD i 0)) := by
  unfold handF
  rw [List.getElem?_append_left (by simpa using h)]
  exact map_get l h
theorem handF_hi {l : List Nat} {i : Nat} (h : l.length ≤ i) (h2 : i < l.length + 9) : (handF l)[i]? = some (u64 (2305843009213693952 + i - l.length)) := by
  unfold handF
  rw [List.getElem?_append_right (by simpa using h), List.getElem?_map, List.length_map, List.getElem?_range (by omega)]
  simp only [Option.map_some]
  congr 3
  omega
theorem mark_eq {i n : Nat} (h : n ≤ i) (h2 : i < n + 9) (hn : n ≤ 1000000000) : wrapN .u64 (Int.ofNat (2305843009213693952 + i - n)) = 2305843009213693952 + i - n := wrapN_small (by omega)
theorem handU_ok (hc : Con con lives) {L : List HP} {H : CH} {v : Value} {l : List Nat} {K : KP} (hs : Sat L H) (hq : Has L (Nums v l)) (hl : l.length ≤ 1000000000)
    (k : ∀ b H1, Sat (Row b tU 0 true (handF l) :: L) H1 → K (slc b 0 l.length (l.length + 9)) H1) : Call1 Try.prog con 9 [v] H K := by
  refine call_of (hc _ _ _ rfl) ?_
  rw [handU_W]
  obtain ⟨pv, cv, ev⟩ := (hs.has hq).len
  have hF := handF_len l
  refine AsLen.eq ev ?_
  rw [show Int.add (Int.ofNat l.length) (Int.ofNat 9) = Int.ofNat (l.length + 9) from addInt _ _]
  refine inR_nat (by omega) ?_
  refine mkS hs el_u64 zero_u (Nat.le_refl _) (by omega) (by omega) fun b H1 h1 => ?_
  rw [rep_u, List.map_replicate] at h1
  have h2 : Sat (Row b tU 0 true ((handF l).take 0 ++ List.replicate ((handF l).length - 0) (u64 0)) :: L) H1 := by
    rw [hF]; exact h1
  refine LoopC.indP (n := 100) (id := 0) (fun σ1 H2 => σ1 0 = v ∧ σ1 3 = slc b 0 (l.length + 9) (l.length + 9) ∧ Sat (Row b tU 0 true ((handF l).take l.length ++ List.replicate ((handF l).length - l.length) (u64 0)) :: L) H2) (by kernel_rfl)
    (fun (i : Nat) σ1 H2 => i ≤ l.length ∧ σ1 0 = v ∧ σ1 3 = slc b 0 (l.length + 9) (l.length + 9) ∧ σ1 4 = iN i ∧ Sat (Row b tU 0 true ((handF l).take i ++ List.replicate ((handF l).length - i) (u64 0)) :: L) H2)
    (fun i => l.length - i) (fun i σ1 H2 hI => ?_) (fun σ1 H2 hP => ?_) 0 _ _ ⟨Nat.zero_le _, rfl, rfl, rfl, h2⟩
  · obtain ⟨hi, a0, a3, a4, hs1⟩ := hI
    rw [handUA_W]
    simp only [a3, a4]
    refine AsLen.eq (a0.trans ev) ?_
    repeat (refine gO ?_; intros)
    by_cases h : i < l.length
    · refine Cd.t (ltZ_t h) ?_
      rcases (hs.has hq).shape with ⟨h3, h4⟩ | ⟨b', o, c', h3⟩
      · rw [h4] at h; simp at h
      refine AsSlc.eq (a0.trans h3) ?_
      repeat (refine gO ?_; intros)
      refine Must.mk (ltN_t h) ?_
      refine ldSrc hs1 ((Has.skip hq).src h3) (by rw [show Nat.mul i 1 = i from Nat.mul_one i]; rfl) (map_get _ h) ?_
      repeat (refine gO ?_; intros)
      refine Must.mk (ltN_t (by omega)) ?_
      repeat (refine gO ?_; intros)
      refine st hs1 (by rw [off1]; simp; omega) rfl fun H3 h3 => ?_
      rw [off1, fill_set (handF_lo h)] at h3
      repeat (refine gO ?_; intros)
      rw [show Int.add (Int.ofNat i) (Int.ofNat 1) = Int.ofNat (i + 1) from addInt _ _]
      refine inR_nat (by omega) ?_
      show ∃ y, _ ∧ _
      exact ⟨i + 1, by omega, h, a0, a3, rfl, h3⟩
    · refine Cd.f (ltZ_f (by omega)) ?_
      obtain rfl : i = l.length := by omega
      exact ⟨rfl, a0, a3, hs1⟩
  · obtain ⟨a0, a3, hs1⟩ := hP
    show Cd _ _ _
    refine Cd.t rfl ?_
    refine AsLen.eq (a0.trans ev) ?_
    refine LoopC.indP (n := 100) (id := 2) (fun σ1 H2 => σ1 0 = v ∧ σ1 3 = slc b 0 (l.length + 9) (l.length + 9) ∧ Sat (Row b tU 0 true (handF l) :: L) H2) (by kernel_rfl)
      (fun (i : Nat) σ1 H2 => l.length ≤ i ∧ i ≤ l.length + 9 ∧ σ1 0 = v ∧ σ1 3 = slc b 0 (l.length + 9) (l.length + 9) ∧ σ1 5 = iN i ∧ Sat (Row b tU 0 true ((handF l).take i ++ List.replicate ((handF l).length - i) (u64 0)) :: L) H2)
      (fun i => l.length + 9 - i) (fun i σ1 H2 hI => ?_) (fun σ1 H2 hP => ?_) l.length _ _ ⟨Nat.le_refl _, by omega, a0, a3, rfl, hs1⟩
    · obtain ⟨hlo, hi, a0, a3, a5, hs1⟩ := hI
      rw [handUB_W]
      simp only [a3, a5]
      repeat (refine gO ?_; intros)
      by_cases h : i < l.length + 9
      · refine Cd.t (ltZ_t h) ?_
        repeat (refine gO ?_; intros)
        rw [show Int.add (Int.ofNat 2305843009213693952) (Int.ofNat i) = Int.ofNat (2305843009213693952 + i) from addInt _ _]
        refine inR_nat (by omega) ?_
        refine AsLen.eq (a0.trans ev) ?_
        rw [subInt (by omega : l.length ≤ 2305843009213693952 + i)]
        refine inR_nat (by omega) ?_
        refine Must.mk (cv_small (by omega)) ?_
        repeat (refine gO ?_; intros)
        refine Must.mk (ltN_t h) ?_
        rw [mark_eq hlo h hl]
        refine st hs1 (by rw [off1]; simp; omega) rfl fun H3 h3 => ?_
        rw [off1, fill_set (handF_hi hlo h)] at h3
        repeat (refine gO ?_; intros)
        rw [show Int.add (Int.ofNat i) (Int.ofNat 1) = Int.ofNat (i + 1) from addInt _ _]
        refine inR_nat (by omega) ?_
        show ∃ y, _ ∧ _
        exact ⟨i + 1, by omega, by omega, h, a0, a3, rfl, h3⟩
      · refine Cd.f (ltZ_f (by omega)) ?_
        obtain rfl : i = l.length + 9 := by omega
        rw [hF, Nat.sub_self, List.take_of_length_le (by omega)] at hs1
        refine ⟨rfl, a0, a3, ?_⟩
        simpa using hs1
    · obtain ⟨a0, a3, hs1⟩ := hP
      show Cd _ _ _
      refine Cd.t rfl ?_
      refine AsLen.eq (a0.trans ev) ?_
      rw [a3]
      refine slcUp hs1 el_u64 (by omega) ?_
      exact k b H2 hs1
theorem row_nums {b : Nat} {l : List Nat} {h : PH} (a : Row b tU 0 true (handF l) h) : Nums (slc b 0 l.length (l.length + 9)) l h :=
  .inr ⟨b, 0, l.length + 9, tU, 0, true, handF l, rfl, by omega, by rw [handF_len]; omega, by unfold handF; rw [List.drop_zero, List.take_left' (by simp)], a⟩
theorem keptU_ok (hc : Con con lives) {L : List HP} {H : CH} {b : Nat} {w : Value} {l : List Nat} {K : KP} (hs : Sat (Row b tU 0 true (handF l) :: L) H) (hw : Has L (Nums w l)) (hl : l.length ≤ 1000000000)
    (k : K (.bool true) H) : Call1 Try.prog con 17 [slc b 0 l.length (l.length + 9), w] H K := by
  refine call_of (hc _ _ _ rfl) ?_
  rw [keptU_W]
  obtain ⟨pw, cw, ew⟩ := (hs.has (Has.skip hw)).len
  have hF := handF_len l
  refine sameU_ok hc hs (fun h a => row_nums (SatL.head a fun _ a s => Row.mono a s)) (Has.skip hw) hl ?_
  repeat (refine gO ?_; intros)
  refine AsLen.eq ew ?_
  rw [show Int.add (Int.ofNat l.length) (Int.ofNat 9) = Int.ofNat (l.length + 9) from addInt _ _]
  refine inR_nat (by omega) ?_
  refine slcUp hs el_u64 (Nat.le_refl _) ?_
  refine AsLen.eq ew ?_
  refine LoopC.ind (n := 100) (by kernel_rfl) (fun (i : Nat) σ1 H1 => l.length ≤ i ∧ i ≤ l.length + 9 ∧ σ1 1 = w ∧ σ1 5 = slc b 0 (l.length + 9) (l.length + 9) ∧ σ1 6 = iN i ∧ H1 = H)
    (fun i => l.length + 9 - i) (fun i σ1 H1 hI => ?_) l.length _ _ ⟨Nat.le_refl _, by omega, rfl, rfl, rfl, rfl⟩
  obtain ⟨hlo, hi, a1, a5, a6, rfl⟩ := hI
  rw [keptUL_W]
  simp only [a5, a6]
  repeat (refine gO ?_; intros)
  by_cases h : i < l.length + 9
  · refine Cd.t (ltZ_t h) ?_
    repeat (refine gO ?_; intros)
    refine Must.mk (ltN_t h) ?_
    refine ld hs (by rw [off1]; exact handF_hi hlo h) ?_
    repeat (refine gO ?_; intros)
    rw [show Int.add (Int.ofNat 2305843009213693952) (Int.ofNat i) = Int.ofNat (2305843009213693952 + i) from addInt _ _]
    refine inR_nat (by omega) ?_
    refine AsLen.eq (a1.trans ew) ?_
    rw [subInt (by omega : l.length ≤ 2305843009213693952 + i)]
    refine inR_nat (by omega) ?_
    refine Must.mk (cv_small (by omega)) ?_
    repeat (refine gO ?_; intros)
    refine Cd.f (by rw [mark_eq hlo h hl, eqN_self]; rfl) ?_
    repeat (refine gO ?_; intros)
    rw [show Int.add (Int.ofNat i) (Int.ofNat 1) = Int.ofNat (i + 1) from addInt _ _]
    refine inR_nat (by omega) ?_
    show ∃ y, _ ∧ _
    exact ⟨i + 1, by omega, by omega, h, a1, a5, rfl, rfl⟩
  · refine Cd.f (ltZ_f (by omega)) ?_
    show Cd _ _ _
    refine Cd.t rfl ?_
    exact k
end Go.Proofs.Ytlabejmlkhgeoaa

set_option linter.unusedVariables false
set_option linter.unusedSimpArgs false
namespace Go.Proofs.Ytlabejmlkhgeoaa
open Go Go.CM
attribute [local irreducible] AsBool AsWant AsNat AsInt AsCnt AsPtr AsSlc AsLen AsStr AsAgg AsTup AsFn AsIfc Nth Sc NotNil IsNil Must Cd codeW funW Sat SatL wrapN subM mkRow ltZ leZ ltN leN
variable {con : CallT}
def wordF (x : Nat) : Nat := Nat.mod (Nat.mul 4 x) 18446744073709551616
theorem mWord_ok (hc : Con con lives) {H : CH} {x : Nat} {K : KP} (k0 : 4611686018427387904 ≤ x → K (.tuple ⟨[u64 0, iN 2]⟩) H) (k1 : x < 4611686018427387904 → K (.tuple ⟨[u64 (wordF x), iN 0]⟩) H) : Call1 Try.prog con 5 [u64 x] H K := by
  refine call_of (hc _ _ _ rfl) ?_
  rw [mWord_W]
  by_cases h : 4611686018427387904 ≤ x
  · exact Cd.t (leN_t h) (k0 h)
  · exact Cd.f (leN_f (by omega)) (k1 (by omega))
theorem rWord29_ok (hc : Con con lives) {H : CH} {x : Nat} {K : KP} (k0 : 4611686018427387904 ≤ x → K (.tuple ⟨[u64 0, iN 2]⟩) H) (k1 : x < 4611686018427387904 → K (.tuple ⟨[u64 (wordF x), iN 0]⟩) H) : Call1 Try.prog con 6 [u64 x] H K := by
  refine call_of (hc _ _ _ rfl) ?_
  rw [rWord29_W]
  by_cases h : 4611686018427387904 ≤ x
  · exact Cd.t (leN_t h) (k0 h)
  · exact Cd.f (leN_f (by omega)) (k1 (by omega))
theorem take_map {l : List Nat} {i : Nat} (h : i < l.length) : rowsU ((l.take i).map wordF) ++ [[u64 (wordF (l.getD i 0))]] = rowsU ((l.take (i + 1)).map wordF) := by
  rw [List.take_add_one, List.getElem?_eq_getElem h, List.getD_eq_getElem?_getD, List.getElem?_eq_getElem h]
  simp only [rowsU, Option.toList_some, List.map_append, List.map_cons, List.map_nil, Option.getD_some]
theorem take_lt {l : List Nat} {i c : Nat} (h : i < l.length) (hx : ∀ x ∈ l.take i, x < c) (hn : l.getD i 0 < c) : ∀ x ∈ l.take (i + 1), x < c := fun x m => by
  rw [List.take_add_one, List.getElem?_eq_getElem h] at m
  rw [List.getD_eq_getElem?_getD, List.getElem?_eq_getElem h] at hn
  rcases List.mem_append.1 m with m | m
  · exact hx x m
  · obtain rfl : x = l[i] := by simpa using m
    exact hn
theorem getD_mem {l : List Nat} {i : Nat} (h : i < l.length) : l.getD i 0 ∈ l := by
  rw [List.getD_eq_getElem?_getD, List.getElem?_eq_getElem h]
  exact List.getElem_mem h
def errA (a : Nat) : Nat := if a = 0 then 30 else 0
theorem mMake_ok (hc : Con con lives) {L R1 R2 : List HP} {H : CH} {p m : Nat} {M : Mem} {v : Value} {l : List Nat} {K : KP} (hs : Sat L H) (hm : Pull L (MemP m M) R1) (hv : Pull R1 (ViewAt p m 0 0) R2) (hq : Has R2 (Nums v l)) (hl : l.length ≤ 1048576)
    (ht : M.tr.length < 1000000000) (k0 : (∃ x ∈ l, 4611686018427387904 ≤ x) → ∀ H1, Sat (MemP m M :: R2) H1 → K (.tuple ⟨[u64 0, iN 2]⟩) H1)
    (k1 : (∀ x ∈ l, x < 4611686018427387904) → ∀ H1, Sat (MemP m (M.alloc 0 (l.map wordF)) :: R2) H1 → K (.tuple ⟨[u64 (M.room (l.map wordF)), iN (errA (M.room (l.map wordF)))]⟩) H1) :
    Call1 Try.prog con 10 [ptr p 0, v] H K := by
  refine call_of (hc _ _ _ rfl) ?_
  rw [mMake_W]
  have hs0 := hs.takes (.cons hm (.cons hv .nil))
  simp only [List.cons_append, List.nil_append] at hs0
  obtain ⟨pv, cv, ev⟩ := (hs0.has (Has.skip (Has.skip hq))).len
  refine AsLen.eq ev ?_
  refine LoopC.ind (n := 100) (by kernel_rfl)
    (fun (i : Nat) σ1 H1 => i ≤ l.length ∧ (∀ x ∈ l.take i, x < 4611686018427387904) ∧ ∃ w, σ1 6 = w ∧ σ1 0 = ptr p 0 ∧ σ1 14 = v ∧ σ1 15 = iN l.length ∧ σ1 16 = iN i ∧ Sat (Vec w tU 1 (rowsU ((l.take i).map wordF)) :: MemP m M :: ViewAt p m 0 0 :: R2) H1)
    (fun i => l.length - i) (fun i σ1 H1 hI => ?_) 0 _ _ ⟨Nat.zero_le _, fun x h => by simp at h, snil, rfl, rfl, rfl, rfl, rfl, (hs0.nilV (e := tU) (s := 1)).ent ee⟩
  obtain ⟨hi, hx, w, a6, a0, a14, a15, a16, hs1⟩ := hI
  rw [mMakeL_W]
  simp only [a6, a15, a16]
  repeat (refine gO ?_; intros)
  by_cases h : i < l.length
  · refine Cd.t (ltZ_t h) ?_
    rcases (hs0.has (Has.skip (Has.skip hq))).shape with ⟨h3, h4⟩ | ⟨b', o, c', h3⟩
    · rw [h4] at h; simp at h
    refine AsSlc.eq (a14.trans h3) ?_
    repeat (refine gO ?_; intros)
    refine Must.mk (ltN_t h) ?_
    refine ldSrc hs1 ((Has.skip (Has.skip (Has.skip hq))).src h3) (by rw [show Nat.mul i 1 = i from Nat.mul_one i]; rfl) (map_get _ h) ?_
    refine mWord_ok hc (fun hb => ?_) (fun hb => ?_)
    · repeat (refine gO ?_; intros)
      exact k0 ⟨_, getD_mem h, hb⟩ _ (hs1.ent ee)
    · repeat (refine gO ?_; intros)
      rename_i p16 H17 h17
      refine app_vec (new := [[u64 (wordF (l.getD i 0))]]) h17 pp el_u64 (by omega) sl_u64 (Src.cell (n := 1) (by rfl)) rfl (by simp) (by simp; omega) rfl fun w' H28 h28 => ?_
      rw [take_map h] at h28
      repeat (refine gO ?_; intros)
      rw [show Int.add (Int.ofNat i) (Int.ofNat 1) = Int.ofNat (i + 1) from addInt _ _]
      refine inR_nat (by omega) ?_
      show ∃ y, _ ∧ _
      exact ⟨i + 1, by omega, h, take_lt h hx hb, w', rfl, a0, a14, a15, rfl, h28.ent ee⟩
  · refine Cd.f (ltZ_f (by omega)) ?_
    obtain rfl : i = l.length := by omega
    show Cd _ _ _
    refine Cd.t rfl ?_
    show Call1 Try.prog con 29 [σ1 0, σ1 6] _ _
    rw [a0, a6]
    rw [List.take_length] at hs1 hx
    have h2 : Sat (MemP m M :: ViewAt p m 0 0 :: Nums w (l.map wordF) :: R2) H1 := hs1.imp (fun g a => Vec.nums a) |>.ent ee
    refine viewAlloc_ok hc h2 pp pp Has.nums (by simp; omega) (by omega) ht fun H2 h3 => ?_
    repeat (refine gO ?_; intros)
    have h4 := k1 hx H2 (h3.ent ee)
    unfold errA at h4
    by_cases hz : M.room (l.map wordF) = 0
    · rw [if_pos hz] at h4
      refine Cd.t (eqN_t hz) ?_
      rw [hz] at h4
      exact h4
    · rw [if_neg hz] at h4
      exact Cd.f (eqN_f hz) h4
theorem rMake29_ok (hc : Con con lives) {L R2 : List HP} {H : CH} {m : Nat} {M : Mem} {v : Value} {l : List Nat} {K : KP} (hs : Sat L H) (hm : Pull L (RefP m M) R2) (hq : Has R2 (Nums v l)) (hl : l.length ≤ 1048576)
    (ht : M.tr.length < 1000000000) (k0 : (∃ x ∈ l, 4611686018427387904 ≤ x) → ∀ H1, Sat (RefP m M :: R2) H1 → K (.tuple ⟨[u64 0, iN 2]⟩) H1)
    (k1 : (∀ x ∈ l, x < 4611686018427387904) → ∀ H1, Sat (RefP m (M.alloc 0 (l.map wordF)) :: R2) H1 → K (.tuple ⟨[u64 (M.room (l.map wordF)), iN (errA (M.room (l.map wordF)))]⟩) H1) :
    Call1 Try.prog con 12 [ptr m 0, i64 0, v] H K := by
  refine call_of (hc _ _ _ rfl) ?_
  rw [rMake29_W]
  have hs0 := hs.pull hm
  obtain ⟨pv, cv, ev⟩ := (hs0.has (Has.skip hq)).len
  refine LoopC.ind (n := 100) (by kernel_rfl)
    (fun (i : Nat) σ1 H1 => i ≤ l.length ∧ (∀ x ∈ l.take i, x < 4611686018427387904) ∧ ∃ w, σ1 8 = w ∧ σ1 0 = ptr m 0 ∧ σ1 2 = v ∧ σ1 1 = i64 0 ∧ σ1 9 = iN i ∧ Sat (Vec w tU 1 (rowsU ((l.take i).map wordF)) :: RefP m M :: R2) H1)
    (fun i => l.length - i) (fun i σ1 H1 hI => ?_) 0 _ _ ⟨Nat.zero_le _, fun x h => by simp at h, snil, rfl, rfl, rfl, rfl, rfl, (hs0.nilV (e := tU) (s := 1)).ent ee⟩
  obtain ⟨hi, hx, w, a6, a0, a14, a15, a16, hs1⟩ := hI
  rw [rMake29L_W]
  simp only [a6, a16]
  refine AsLen.eq (a14.trans ev) ?_
  repeat (refine gO ?_; intros)
  by_cases h : i < l.length
  · refine Cd.t (ltZ_t h) ?_
    rcases (hs0.has (Has.skip hq)).shape with ⟨h3, h4⟩ | ⟨b', o, c', h3⟩
    · rw [h4] at h; simp at h
    refine AsSlc.eq (a14.trans h3) ?_
    repeat (refine gO ?_; intros)
    refine Must.mk (ltN_t h) ?_
    refine ldSrc hs1 ((Has.skip (Has.skip hq)).src h3) (by rw [show Nat.mul i 1 = i from Nat.mul_one i]; rfl) (map_get _ h) ?_
    refine rWord29_ok hc (fun hb => ?_) (fun hb => ?_)
    · repeat (refine gO ?_; intros)
      exact k0 ⟨_, getD_mem h, hb⟩ _ (hs1.ent ee)
    · repeat (refine gO ?_; intros)
      rename_i p16 H17 h17
      refine app_vec (new := [[u64 (wordF (l.getD i 0))]]) h17 pp el_u64 (by omega) sl_u64 (Src.cell (n := 1) (by rfl)) rfl (by simp) (by simp; omega) rfl fun w' H28 h28 => ?_
      rw [take_map h] at h28
      repeat (refine gO ?_; intros)
      rw [show Int.add (Int.ofNat i) (Int.ofNat 1) = Int.ofNat (i + 1) from addInt _ _]
      refine inR_nat (by omega) ?_
      show ∃ y, _ ∧ _
      exact ⟨i + 1, by omega, h, take_lt h hx hb, w', rfl, a0, a14, a15, rfl, h28.ent ee⟩
  · refine Cd.f (ltZ_f (by omega)) ?_
    obtain rfl : i = l.length := by omega
    show Cd _ _ _
    refine Cd.t rfl ?_
    show Call1 Try.prog con 30 [σ1 0, σ1 1, σ1 8] _ _
    rw [a0, a6, a15]
    rw [List.take_length] at hs1 hx
    have h2 : Sat (RefP m M :: Nums w (l.map wordF) :: R2) H1 := hs1.imp (fun g a => Vec.nums a) |>.ent ee
    refine refAlloc_ok hc h2 pp Has.nums (by simp; omega) ht fun H2 h3 => ?_
    repeat (refine gO ?_; intros)
    have h4 := k1 hx H2 (h3.ent ee)
    unfold errA at h4
    by_cases hz : M.room (l.map wordF) = 0
    · rw [if_pos hz] at h4
      refine Cd.t (eqN_t hz) ?_
      rw [hz] at h4
      exact h4
    · rw [if_neg hz] at h4
      exact Cd.f (eqN_f hz) h4
theorem mMake0_ok (hc : Con con lives) {H : CH} {v : Value} {K : KP} (k : K (.tuple ⟨[u64 0, iN 1]⟩) H) : Call1 Try.prog con 10 [.pointer none, v] H K := by
  refine call_of (hc _ _ _ rfl) ?_
  rw [mMake0_W]
  exact k
end Go.Proofs.Ytlabejmlkhgeoaa

set_option linter.unusedVariables false
set_option linter.unusedSimpArgs false
namespace Go.Proofs.Ytlabejmlkhgeoaa
open Go Go.CM
theorem ltZ_yes {a b : Int} (h : a < b) : ltZ a b = true := decide_eq_true h
theorem ltZ_no {a b : Int} (h : ¬ a < b) : ltZ a b = false := decide_eq_false h
attribute [local irreducible] AsBool AsWant AsNat AsInt AsCnt AsPtr AsSlc AsLen AsStr AsAgg AsTup AsFn AsIfc Nth Sc NotNil IsNil Must Cd codeW funW Sat SatL wrapN subM mkRow ltZ leZ ltN leN
variable {con : CallT}
def cellW (M : Mem) (a i : Nat) : Nat := M.peek (Nat.mod (Nat.add a i) 18446744073709551616)
def valW (M : Mem) (a i : Nat) : Nat := Nat.mod (Nat.div (cellW M a i) 4) 18446744073709551616
def GoodC (M : Mem) (a i : Nat) : Prop := Nat.mod (cellW M a i) 4 ≠ 1 ∧ Nat.mod (cellW M a i) 4 ≠ 2
def GoodV (M : Mem) (a n : Nat) : Prop := ∀ i, i < n → GoodC M a i
def valsW (M : Mem) (a n : Nat) : List Nat := (List.range n).map (valW M a)
theorem valsW_succ (M : Mem) (a n : Nat) : rowsU (valsW M a n) ++ [[u64 (valW M a n)]] = rowsU (valsW M a (n + 1)) := by
  unfold valsW
  rw [List.range_succ, List.map_append, rowsU, rowsU, List.map_append]
  rfl
theorem valsW_len (M : Mem) (a n : Nat) : (valsW M a n).length = n := by unfold valsW; simp
theorem good_succ {M : Mem} {a i : Nat} (h : ∀ j, j < i → GoodC M a j) (h2 : GoodC M a i) : ∀ j, j < i + 1 → GoodC M a j := fun j hj => by
  rcases Nat.lt_or_ge j i with q | q
  · exact h j q
  · obtain rfl : j = i := by omega
    exact h2
theorem mValues_ok (hc : Con con lives) {L R : List HP} {H : CH} {m a n : Nat} {z : Int} {M : Mem} {K : KP} (hs : Sat L H) (hm : Pull L (MemP m M) R) (hz : z = Int.ofNat n) (hn : n ≤ 16) (ha : a < 18446744073709551616)
    (k0 : ¬ GoodV M a n → ∀ H1, Sat L H1 → K (.tuple ⟨[snil, .bool false]⟩) H1) (k1 : GoodV M a n → ∀ w H1, Sat (Vec w tU 1 (rowsU (valsW M a n)) :: L) H1 → K (.tuple ⟨[w, .bool true]⟩) H1) :
    Call1 Try.prog con 13 [ptr m 0, u64 a, i64 z] H K := by
  subst hz
  refine call_of (hc _ _ _ rfl) ?_
  rw [mValues_W]
  refine Cd.f (ltZ_f (by omega)) ?_
  refine Cd.f (ltZ_f (by omega)) ?_
  refine Must.mk (cv_small (by omega)) ?_
  rw [wrapN_small (by omega)]
  refine LoopC.ind (n := 100) (by kernel_rfl)
    (fun (i : Nat) σ1 H1 => i ≤ n ∧ (∀ j, j < i → GoodC M a j) ∧ ∃ w, σ1 8 = w ∧ σ1 0 = ptr m 0 ∧ σ1 1 = u64 a ∧ σ1 22 = u64 n ∧ σ1 23 = u64 i ∧ Sat (Vec w tU 1 (rowsU (valsW M a i)) :: L) H1)
    (fun i => n - i) (fun i σ1 H1 hI => ?_) 0 _ _ ⟨Nat.zero_le _, fun j h => by omega, snil, rfl, rfl, rfl, rfl, rfl, hs.nilV (e := tU) (s := 1)⟩
  obtain ⟨hi, hx, w, a8, a0, a1, a22, a23, hs1⟩ := hI
  rw [mValuesL_W]
  simp only [a8, a0, a1, a22, a23]
  repeat (refine gO ?_; intros)
  by_cases h : i < n
  · refine Cd.t (ltN_t h) ?_
    repeat (refine gO ?_; intros)
    refine memPeek_ok hc hs1 (.there hm) ?_
    show AsNat .u64 (u64 (cellW M a i)) _
    repeat (refine gO ?_; intros)
    by_cases g1 : Nat.mod (cellW M a i) 4 = 1
    · refine Cd.t (eqN_t g1) ?_
      exact k0 (fun g => (g i h).1 g1) _ (hs1.ent ee)
    · refine Cd.f (eqN_f g1) ?_
      repeat (refine gO ?_; intros)
      by_cases g2 : Nat.mod (cellW M a i) 4 = 2
      · refine Cd.t (eqN_t g2) ?_
        exact k0 (fun g => (g i h).2 g2) _ (hs1.ent ee)
      · refine Cd.f (eqN_f g2) ?_
        repeat (refine gO ?_; intros)
        rename_i p16 H17 h17
        have hlen := valsW_len M a i
        refine app_vec (new := [[u64 (valW M a i)]]) h17 pp el_u64 (by omega) sl_u64 (Src.cell (n := 1) (by rfl)) rfl (by simp) (by simp; omega) rfl fun w' H28 h28 => ?_
        rw [valsW_succ] at h28
        repeat (refine gO ?_; intros)
        rw [show Nat.mod (Nat.add i 1) 18446744073709551616 = i + 1 from Nat.mod_eq_of_lt (by show i + 1 < _; omega)]
        show ∃ y, _ ∧ _
        exact ⟨i + 1, by omega, h, good_succ hx ⟨g1, g2⟩, w', rfl, a0, a1, a22, rfl, h28.ent ee⟩
  · refine Cd.f (ltN_f (by omega)) ?_
    obtain rfl : i = n := by omega
    show Cd _ _ _
    refine Cd.t rfl ?_
    show K (.tuple ⟨[σ1 8, .bool true]⟩) H1
    rw [a8]
    exact k1 hx w H1 hs1
theorem rIsLock29_ok (hc : Con con lives) {H : CH} {x : Nat} {K : KP} (k : K (.bool (eqN (Nat.mod x 4) 1)) H) : Call1 Try.prog con 33 [u64 x] H K := by
  refine call_of (hc _ _ _ rfl) ?_
  rw [rIsLock29_W]
  exact k
theorem rIsPlan29_ok (hc : Con con lives) {H : CH} {x : Nat} {K : KP} (k : K (.bool (eqN (Nat.mod x 4) 2)) H) : Call1 Try.prog con 34 [u64 x] H K := by
  refine call_of (hc _ _ _ rfl) ?_
  rw [rIsPlan29_W]
  exact k
theorem rValues29_ok (hc : Con con lives) {L R : List HP} {H : CH} {m a n : Nat} {z : Int} {M : Mem} {K : KP} (hs : Sat L H) (hm : Pull L (RefP m M) R) (hz : z = Int.ofNat n) (hn : n ≤ 16) (ha : a < 18446744073709551616)
    (k0 : ¬ GoodV M a n → ∀ H1, Sat L H1 → K (.tuple ⟨[snil, .bool false]⟩) H1) (k1 : GoodV M a n → ∀ w H1, Sat (Vec w tU 1 (rowsU (valsW M a n)) :: L) H1 → K (.tuple ⟨[w, .bool true]⟩) H1) :
    Call1 Try.prog con 14 [ptr m 0, u64 a, i64 z] H K := by
  subst hz
  refine call_of (hc _ _ _ rfl) ?_
  rw [rValues29_W]
  refine Cd.f (ltZ_f (by omega)) ?_
  refine Cd.f (ltZ_f (by omega)) ?_
  refine LoopC.ind (n := 100) (by kernel_rfl)
    (fun (i : Nat) σ1 H1 => i ≤ n ∧ (∀ j, j < i → GoodC M a j) ∧ ∃ w, σ1 8 = w ∧ σ1 0 = ptr m 0 ∧ σ1 1 = u64 a ∧ σ1 2 = iN n ∧ σ1 9 = iN i ∧ Sat (Vec w tU 1 (rowsU (valsW M a i)) :: L) H1)
    (fun i => n - i) (fun i σ1 H1 hI => ?_) 0 _ _ ⟨Nat.zero_le _, fun j h => by omega, snil, rfl, rfl, rfl, rfl, rfl, hs.nilV (e := tU) (s := 1)⟩
  obtain ⟨hi, hx, w, a8, a0, a1, a2, a9, hs1⟩ := hI
  rw [rValues29L_W]
  simp only [a8, a0, a1, a2, a9]
  repeat (refine gO ?_; intros)
  by_cases h : i < n
  · refine Cd.t (ltZ_t h) ?_
    repeat (refine gO ?_; intros)
    refine Must.mk (cv_small (by omega)) ?_
    rw [wrapN_small (by omega)]
    repeat (refine gO ?_; intros)
    refine refPeek_ok hc hs1 (.there hm) ?_
    show Call1 Try.prog con 33 [u64 (cellW M a i)] _ _
    refine rIsLock29_ok hc ?_
    repeat (refine gO ?_; intros)
    by_cases g1 : Nat.mod (cellW M a i) 4 = 1
    · refine Cd.t (eqN_t g1) ?_
      exact k0 (fun g => (g i h).1 g1) _ (hs1.ent ee)
    · refine Cd.f (eqN_f g1) ?_
      refine rIsPlan29_ok hc ?_
      repeat (refine gO ?_; intros)
      by_cases g2 : Nat.mod (cellW M a i) 4 = 2
      · refine Cd.t (eqN_t g2) ?_
        exact k0 (fun g => (g i h).2 g2) _ (hs1.ent ee)
      · refine Cd.f (eqN_f g2) ?_
        repeat (refine gO ?_; intros)
        rename_i p16 H17 h17
        have hlen := valsW_len M a i
        refine app_vec (new := [[u64 (valW M a i)]]) h17 pp el_u64 (by omega) sl_u64 (Src.cell (n := 1) (by rfl)) rfl (by simp) (by simp; omega) rfl fun w' H28 h28 => ?_
        rw [valsW_succ] at h28
        repeat (refine gO ?_; intros)
        rw [show Int.add (Int.ofNat i) (Int.ofNat 1) = Int.ofNat (i + 1) from addInt _ _]
        refine inR_nat (by omega) ?_
        show ∃ y, _ ∧ _
        exact ⟨i + 1, by omega, h, good_succ hx ⟨g1, g2⟩, w', rfl, a0, a1, a2, rfl, h28.ent ee⟩
  · refine Cd.f (ltZ_f (by omega)) ?_
    obtain rfl : i = n := by omega
    show Cd _ _ _
    refine Cd.t rfl ?_
    show K (.tuple ⟨[σ1 8, .bool true]⟩) H1
    rw [a8]
    exact k1 hx w H1 hs1
theorem mValuesN_ok (hc : Con con lives) {H : CH} {m a : Nat} {z : Int} {K : KP} (hz : z < 0 ∨ 16 < z) (k : K (.tuple ⟨[snil, .bool false]⟩) H) : Call1 Try.prog con 13 [ptr m 0, u64 a, i64 z] H K := by
  refine call_of (hc _ _ _ rfl) ?_
  rw [mValues_W]
  by_cases h : z < 0
  · exact Cd.t (ltZ_yes (by omega)) k
  · refine Cd.f (ltZ_no (by omega)) ?_
    exact Cd.t (ltZ_yes (show (16 : Int) < z by omega)) k
theorem rValuesN_ok (hc : Con con lives) {H : CH} {m a : Nat} {z : Int} {K : KP} (hz : z < 0 ∨ 16 < z) (k : K (.tuple ⟨[snil, .bool false]⟩) H) : Call1 Try.prog con 14 [ptr m 0, u64 a, i64 z] H K := by
  refine call_of (hc _ _ _ rfl) ?_
  rw [rValues29_W]
  by_cases h : z < 0
  · exact Cd.t (ltZ_yes (by omega)) k
  · refine Cd.f (ltZ_no (by omega)) ?_
    exact Cd.t (ltZ_yes (show (16 : Int) < z by omega)) k
end Go.Proofs.Ytlabejmlkhgeoaa

set_option linter.unusedVariables false
set_option linter.unusedSimpArgs false
namespace Go.Proofs.Ytlabejmlkhgeoaa
open Go Go.CM
theorem call_yes {P : Program} {con : CallT} {f : FuncId} {args : List Value} {H : CH} {K : KP} {v : Value} (h : con f ⟨args⟩ H = some (v, H)) (k : K v H) : Call1 P con f args H K := ⟨⟨0, v, H, h, k⟩⟩
attribute [local irreducible] AsBool AsWant AsNat AsInt AsCnt AsPtr AsSlc AsLen AsStr AsAgg AsTup AsFn AsIfc Nth Sc NotNil IsNil Must Cd codeW funW Sat SatL wrapN subM mkRow ltZ leZ ltN leN
variable {con : CallT}
theorem wordsTail (hc : Con con lives) (hlive : ∀ H, con 15 ⟨[]⟩ H = some (.bool true, H)) {R : List HP} {H : CH} {b m r a e : Nat} {z : Int} {M : Mem} {v : Value} {l : List Nat} {K : KP} (ha : a < 18446744073709551616) (hl : l.length ≤ 1048576)
    (hs : Sat (RefP r M :: MemP m M :: Row b tU 0 true (handF l) :: R) H) (hq : Has R (Nums v l)) (k : ∀ H1, K (.bool true) H1) :
    Call1 Try.prog con 13 [ptr m 0, u64 a, i64 z] H fun v46 H47 =>
        AsTup v46 fun l48 =>
        Nth l48 0 fun v49 =>
        AsTup v46 fun l50 =>
        Nth l50 1 fun v51 =>
        Call1 Try.prog con 14 [ptr r 0, u64 a, i64 z] H47 fun v52 H53 =>
        AsTup v52 fun l54 =>
        Nth l54 0 fun v55 =>
        AsTup v52 fun l56 =>
        Nth l56 1 fun v57 =>
        Call1 Try.prog con 10 [(.pointer none), v] H53 fun v58 H59 =>
        AsTup v58 fun l60 =>
        Nth l60 0 fun v61 =>
        AsTup v58 fun l62 =>
        Nth l62 1 fun v63 =>
        Call1 Try.prog con 15 [] H59 fun v64 H65 =>
        AsWant v64 (False) fun b66 =>
        Cd b66 (
          AsNat .u64 (u64 a) fun n67 =>
          AsNat .u64 (u64 a) fun n68 =>
          Cd (eqN n67 n68) (
            AsInt .i64 (iN e) fun z69 =>
            AsInt .i64 (iN e) fun z70 =>
            Cd (eqZ z69 z70) (
              AsBool v51 fun b71 =>
              AsBool v57 fun b72 =>
              Cd (eqB b71 b72) (
                Call1 Try.prog con 16 [v49, v55] H65 fun v73 H74 =>
                AsWant v73 (False) fun b75 =>
                Cd b75 (
                  Call1 Try.prog con 17 [slc b 0 l.length (l.length + 9), v] H74 fun v76 H77 =>
                  AsWant v76 (False) fun b78 =>
                  Cd b78 (
                    AsInt .i64 v63 fun z79 =>
                    K (.bool (eqZ z79 (Int.ofNat 1))) H77) (
                    K (.bool false) H77)) (
                  K (.bool false) H74)) (
                K (.bool false) H65)) (
              K (.bool false) H65)) (
            K (.bool false) H65)) (
          K (.bool false) H65) := by
  have last : ∀ {L R2 : List HP} {H1 : CH} {v49 v55 : Value} {bb : Bool} {s : List Nat}, Sat L H1 → Has L (Nums v49 s) → Has L (Nums v55 s) → s.length ≤ 100 → Pull L (Row b tU 0 true (handF l)) R2 → Has R2 (Nums v l) →
      Call1 Try.prog con 10 [(.pointer none), v] H1 fun v58 H59 =>
        AsTup v58 fun l60 =>
        Nth l60 0 fun v61 =>
        AsTup v58 fun l62 =>
        Nth l62 1 fun v63 =>
        Call1 Try.prog con 15 [] H59 fun v64 H65 =>
        AsWant v64 (False) fun b66 =>
        Cd b66 (
          AsNat .u64 (u64 a) fun n67 =>
          AsNat .u64 (u64 a) fun n68 =>
          Cd (eqN n67 n68) (
            AsInt .i64 (iN e) fun z69 =>
            AsInt .i64 (iN e) fun z70 =>
            Cd (eqZ z69 z70) (
              AsBool (.bool bb) fun b71 =>
              AsBool (.bool bb) fun b72 =>
              Cd (eqB b71 b72) (
                Call1 Try.prog con 16 [v49, v55] H65 fun v73 H74 =>
                AsWant v73 (False) fun b75 =>
                Cd b75 (
                  Call1 Try.prog con 17 [slc b 0 l.length (l.length + 9), v] H74 fun v76 H77 =>
                  AsWant v76 (False) fun b78 =>
                  Cd b78 (
                    AsInt .i64 v63 fun z79 =>
                    K (.bool (eqZ z79 (Int.ofNat 1))) H77) (
                    K (.bool false) H77)) (
                  K (.bool false) H74)) (
                K (.bool false) H65)) (
              K (.bool false) H65)) (
            K (.bool false) H65)) (
          K (.bool false) H65) := by
    intro L R2 H1 v49 v55 bb s h1 q1 q2 hs100 hp hq2
    refine mMake0_ok hc ?_
    repeat (refine gO ?_; intros)
    refine call_yes (hlive _) ?_
    repeat (refine gO ?_; intros)
    refine Cd.t (eqN_self a) ?_
    repeat (refine gO ?_; intros)
    refine Cd.t (eqZ_self _) ?_
    repeat (refine gO ?_; intros)
    refine Cd.t (by cases bb <;> rfl) ?_
    refine sameU_ok hc h1 q1 q2 (by omega) ?_
    repeat (refine gO ?_; intros)
    have h2 := h1.pull hp
    refine keptU_ok hc h2 hq2 (by omega) ?_
    repeat (refine gO ?_; intros)
    exact k _
  rcases Int.lt_or_le z 0 with hz | hz
  · refine mValuesN_ok hc (.inl hz) ?_
    repeat (refine gO ?_; intros)
    refine rValuesN_ok hc (.inl hz) ?_
    repeat (refine gO ?_; intros)
    exact last (s := []) hs.nil Has.nums Has.nums (by simp) pp (by repeat (first | exact hq | apply Has.skip))
  · rcases Int.lt_or_le 16 z with hz2 | hz2
    · refine mValuesN_ok hc (.inr hz2) ?_
      repeat (refine gO ?_; intros)
      refine rValuesN_ok hc (.inr hz2) ?_
      repeat (refine gO ?_; intros)
      exact last (s := []) hs.nil Has.nums Has.nums (by simp) pp (by repeat (first | exact hq | apply Has.skip))
    · obtain ⟨n, rfl⟩ : ∃ n : Nat, z = Int.ofNat n := ⟨z.toNat, (Int.toNat_of_nonneg hz).symm⟩
      have hn : n ≤ 16 := Int.ofNat_le.1 hz2
      refine mValues_ok hc hs pp rfl hn ha (fun g H1 h1 => ?_) (fun g w H1 h1 => ?_)
      · repeat (refine gO ?_; intros)
        refine rValues29_ok hc h1 pp rfl hn ha (fun g2 H2 h2 => ?_) (fun g2 w H2 h2 => absurd g2 g)
        repeat (refine gO ?_; intros)
        exact last (s := []) h2.nil Has.nums Has.nums (by simp) pp (by repeat (first | exact hq | apply Has.skip))
      · repeat (refine gO ?_; intros)
        refine rValues29_ok hc h1 pp rfl hn ha (fun g2 H2 h2 => absurd g g2) (fun g2 w2 H2 h2 => ?_)
        repeat (refine gO ?_; intros)
        exact last (s := valsW M a n) h2 (Has.skip (fun h a => Vec.nums (SatL.head a fun _ a s => Vec.mono a s))) (fun h a => Vec.nums (SatL.head a fun _ a s => Vec.mono a s)) (by rw [valsW_len]; omega) pp (by repeat (first | exact hq | apply Has.skip))
end Go.Proofs.Ytlabejmlkhgeoaa

set_option linter.unusedVariables false
set_option linter.unusedSimpArgs false
namespace Go.Proofs.Ytlabejmlkhgeoaa
open Go Go.CM
attribute [local irreducible] AsBool AsWant AsNat AsInt AsCnt AsPtr AsSlc AsLen AsStr AsAgg AsTup AsFn AsIfc Nth Sc NotNil IsNil Must Cd codeW funW Sat SatL wrapN subM mkRow ltZ leZ ltN leN
variable {con : CallT}
theorem room_lt (M : Mem) (vals : List Nat) (h : M.free < 1000000) : M.room vals < 18446744073709551616 := by
  unfold Mem.room
  split <;> omega
theorem multiWords_ok (hc : Con con lives) (hlive : ∀ H, con 15 ⟨[]⟩ H = some (.bool true, H)) {L : List HP} {H : CH} {x : Nat} {z : Int} {v : Value} {l : List Nat} (hl : l.length ≤ 1048576) (hs : Sat L H) (hq : Has L (Nums v l)) :
    Call1 Try.prog con 3 [u64 x, v, i64 z] H (fun v _ => v = .bool true) := by
  obtain ⟨pv, cv, ev⟩ := (hs.has hq).len
  have hcv : isCell v = true := by rw [ev]; rfl
  refine call_of (hc _ _ _ rfl) ?_
  rw [multiWords_W]
  have go : ∀ (w e : Nat), 
      Call1 Try.prog con 7 [(.int .i64 (Int.ofNat 256)), (.bool false)] H fun v13 H14 =>
  AsTup v13 fun l15 =>
  Nth l15 0 fun v16 =>
  AsTup v13 fun l17 =>
  Nth l17 1 fun v18 =>
  AsInt .i64 v18 fun z19 =>
  Cd (notB (eqZ z19 (Int.ofNat 0))) (
    (fun v _ => v = Value.bool true) (.bool false) H14) (
    AsNat .u64 (u64 w) fun n20 =>
    AsNat .u64 (u64 w) fun n21 =>
    Cd (notB (eqN n20 n21)) (
      (fun v _ => v = Value.bool true) (.bool false) H14) (
      AsInt .i64 (iN e) fun z22 =>
      AsInt .i64 (iN e) fun z23 =>
      Cd (notB (eqZ z22 z23)) (
        (fun v _ => v = Value.bool true) (.bool false) H14) (
        Call1 Try.prog con 8 [(.int .i64 (Int.ofNat 256)), (.bool false)] H14 fun v24 H25 =>
        AsTup v24 fun l26 =>
        Nth l26 0 fun v27 =>
        AsTup v24 fun l28 =>
        Nth l28 1 fun v29 =>
        Call1 Try.prog con 9 [v] H25 fun v30 H31 =>
        Call1 Try.prog con 11 [v16, (.int .i64 (Int.ofNat 0))] H31 fun v32 H33 =>
        Call1 Try.prog con 10 [v32, v30] H33 fun v34 H35 =>
        AsTup v34 fun l36 =>
        Nth l36 0 fun v37 =>
        AsTup v34 fun l38 =>
        Nth l38 1 fun v39 =>
        Call1 Try.prog con 12 [v27, (.int .i64 (Int.ofNat 0)), v] H35 fun v40 H41 =>
        AsTup v40 fun l42 =>
        Nth l42 0 fun v43 =>
        AsTup v40 fun l44 =>
        Nth l44 1 fun v45 =>
        Call1 Try.prog con 13 [v16, v37, (.int .i64 z)] H41 fun v46 H47 =>
        AsTup v46 fun l48 =>
        Nth l48 0 fun v49 =>
        AsTup v46 fun l50 =>
        Nth l50 1 fun v51 =>
        Call1 Try.prog con 14 [v27, v43, (.int .i64 z)] H47 fun v52 H53 =>
        AsTup v52 fun l54 =>
        Nth l54 0 fun v55 =>
        AsTup v52 fun l56 =>
        Nth l56 1 fun v57 =>
        Call1 Try.prog con 10 [(.pointer none), v] H53 fun v58 H59 =>
        AsTup v58 fun l60 =>
        Nth l60 0 fun v61 =>
        AsTup v58 fun l62 =>
        Nth l62 1 fun v63 =>
        Call1 Try.prog con 15 [] H59 fun v64 H65 =>
        AsWant v64 (False) fun b66 =>
        Cd b66 (
          AsNat .u64 v37 fun n67 =>
          AsNat .u64 v43 fun n68 =>
          Cd (eqN n67 n68) (
            AsInt .i64 v39 fun z69 =>
            AsInt .i64 v45 fun z70 =>
            Cd (eqZ z69 z70) (
              AsBool v51 fun b71 =>
              AsBool v57 fun b72 =>
              Cd (eqB b71 b72) (
                Call1 Try.prog con 16 [v49, v55] H65 fun v73 H74 =>
                AsWant v73 (False) fun b75 =>
                Cd b75 (
                  Call1 Try.prog con 17 [v30, v] H74 fun v76 H77 =>
                  AsWant v76 (False) fun b78 =>
                  Cd b78 (
                    AsInt .i64 v63 fun z79 =>
                    (fun v _ => v = Value.bool true) (.bool (eqZ z79 (Int.ofNat 1))) H77) (
                    (fun v _ => v = Value.bool true) (.bool false) H77)) (
                  (fun v _ => v = Value.bool true) (.bool false) H74)) (
                (fun v _ => v = Value.bool true) (.bool false) H65)) (
              (fun v _ => v = Value.bool true) (.bool false) H65)) (
            (fun v _ => v = Value.bool true) (.bool false) H65)) (
          (fun v _ => v = Value.bool true) (.bool false) H65)))) := by
    intro w e
    refine arenaNew_ok hc hs (n := 256) (by omega) (by omega) fun m H1 h1 => ?_
    repeat (refine gO ?_; intros)
    refine Cd.f (by rw [eqN_self]; rfl) ?_
    repeat (refine gO ?_; intros)
    refine Cd.f (by rw [eqZ_self]; rfl) ?_
    refine refNew_ok hc h1 (n := 256) (by omega) (by omega) fun r H2 h2 => ?_
    repeat (refine gO ?_; intros)
    refine handU_ok hc h2 (Has.skip (Has.skip hq)) (by omega) fun b H3 h3 => ?_
    refine memView_ok hc h3 fun p H4 h4 => ?_
    have q4 : Has (Row b tU 0 true (handF l) :: RefP r (mem0 256) :: L) (Nums (slc b 0 l.length (l.length + 9)) l) := fun h a => row_nums (SatL.head a fun _ a s => Row.mono a s)
    refine mMake_ok (R1 := ViewAt p m 0 0 :: Row b tU 0 true (handF l) :: RefP r (mem0 256) :: L) (R2 := Row b tU 0 true (handF l) :: RefP r (mem0 256) :: L) hc h4 pp pp q4 hl (by show 0 < _; omega) (fun g H5 h5 => ?_) (fun g H5 h5 => ?_)
    · repeat (refine gO ?_; intros)
      refine rMake29_ok (R2 := MemP m (mem0 256) :: Row b tU 0 true (handF l) :: L) hc h5 pp (Has.skip (Has.skip hq)) hl (by show 0 < _; omega) (fun g2 H6 h6 => ?_) (fun g2 H6 h6 => ?_)
      · repeat (refine gO ?_; intros)
        refine wordsTail hc hlive (K := fun v _ => v = Value.bool true) (R := L) (z := z) (e := 2) (a := 0) (M := mem0 256) (by omega) hl h6 hq ?_
        exact fun _ => rfl
      · obtain ⟨y, hy, hy2⟩ := g
        have := g2 y hy
        omega
    · repeat (refine gO ?_; intros)
      refine rMake29_ok (R2 := MemP m ((mem0 256).alloc 0 (l.map wordF)) :: Row b tU 0 true (handF l) :: L) hc h5 pp (Has.skip (Has.skip hq)) hl (by show 0 < _; omega) (fun g2 H6 h6 => ?_) (fun g2 H6 h6 => ?_)
      · obtain ⟨y, hy, hy2⟩ := g2
        have := g y hy
        omega
      · repeat (refine gO ?_; intros)
        refine wordsTail hc hlive (K := fun v _ => v = Value.bool true) (R := L) (z := z) (a := (mem0 256).room (l.map wordF)) (M := (mem0 256).alloc 0 (l.map wordF)) (e := errA ((mem0 256).room (l.map wordF))) (room_lt _ _ (by show 1 < _; omega)) hl h6 hq ?_
        exact fun _ => rfl
  refine mWord_ok hc (fun g => ?_) (fun g => ?_)
  · repeat (refine gO ?_; intros)
    refine rWord29_ok hc (fun g2 => ?_) (fun g2 => by omega)
    repeat (refine gO ?_; intros)
    exact go 0 2
  · repeat (refine gO ?_; intros)
    refine rWord29_ok hc (fun g2 => by omega) (fun g2 => ?_)
    repeat (refine gO ?_; intros)
    exact go (wordF x) 0
end Go.Proofs.Ytlabejmlkhgeoaa

