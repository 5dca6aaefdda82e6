/- What the functions do to the memories and procs that they are given: their contracts. The conditions stand in each. -/
import Derived.Test.YtlabejmlkhgeoaaDec
import Derived.Test.YtlabejmlkhgeoaaCmF
set_option linter.unusedVariables false
set_option linter.unusedSimpArgs false

set_option linter.unusedVariables false
set_option linter.unusedSimpArgs false
namespace Go.Proofs.Ytlabejmlkhgeoaa
open Go Go.CM
abbrev lives : List Nat := [15, 18]
abbrev tPl : Nat := 74
abbrev tA : Nat := 105
abbrev tU : Nat := 22
abbrev tAS : Nat := 71
abbrev tUS : Nat := 23
abbrev MemP (m : Nat) (M : Mem) : HP := MemAt tPl tA tU m M
attribute [local irreducible] AsBool AsWant AsNat AsInt AsCnt AsPtr AsSlc AsLen AsStr AsAgg AsTup AsFn AsIfc Nth Sc NotNil IsNil Must Cd codeW funW Sat SatL wrapN subM mkRow ltZ leZ ltN leN
variable {con : CallT}
theorem el_acc : elemOk Try.prog tAS tA 8 80 = true := by kernel_rfl
theorem el_u64 : elemOk Try.prog tUS tU 1 8 = true := by kernel_rfl
theorem sl_acc : ∃ e, Try.prog.underlying tAS = some (.slice e) := ⟨tA, by kernel_rfl⟩
theorem sl_u64 : ∃ e, Try.prog.underlying tUS = some (.slice e) := ⟨tU, by kernel_rfl⟩
theorem off1 (a : Nat) : Nat.add 0 (Nat.mul a 1) = a := by show 0 + a * 1 = a; omega
theorem map_get (l : List Nat) {a : Nat} (h : a < l.length) : (l.map u64)[a]? = some (u64 (l.getD a 0)) := by
  rw [List.getElem?_map, List.getElem?_eq_getElem h, List.getD_eq_getElem?_getD, List.getElem?_eq_getElem h]; rfl
theorem plainSize_ok (hc : Con con lives) {L : List HP} {H : CH} {b x c n : Nat} {o : Nat} {f : Value} {K : KP} (hs : Sat L H) [HasCell L b [slc x o n c, f]] (k : K (iN n) H) : Call1 Try.prog con 91 [ptr b 0] H K := by
  refine call_of (hc _ _ _ rfl) ?_
  rw [plainSize_W]
  repeat (refine gO ?_; intros)
  exact k
theorem plainLoad_ok (hc : Con con lives) {L : List HP} {H : CH} {b x c n a : Nat} {f v : Value} {cs : List Value} {K : KP} (hs : Sat L H) [HasCell L b [slc x 0 n c, f]] [HasCell L x cs] (ha : a < n) (hv : cs[a]? = some v) (k : K v H) : Call1 Try.prog con 89 [ptr b 0, u64 a] H K := by
  refine call_of (hc _ _ _ rfl) ?_
  rw [plainLoad_W]
  repeat (refine gO ?_; intros)
  refine Must.mk (ltN_t ha) (ld hs (by rw [off1]; exact hv) k)
theorem plainStore_ok (hc : Con con lives) {L : List HP} {H : CH} {b x c n a y : Nat} {f : Value} {cs : List Value} {F : List Value → List HP} {K : KP} (hs : Sat L H) [HasCell L b [slc x 0 n c, f]] [HasObj L x cs F] (ha : a < n) (hn : n = cs.length) (k : ∀ H1, Sat (F (cs.set a (u64 y))) H1 → K unit H1) : Call1 Try.prog con 92 [ptr b 0, u64 a, u64 y] H K := by
  refine call_of (hc _ _ _ rfl) ?_
  rw [plainStore_W]
  repeat (refine gO ?_; intros)
  refine Must.mk (ltN_t ha) (st hs (by rw [off1]; omega) rfl fun H1 h => k H1 ?_)
  rw [off1] at h
  exact h
theorem memHas_ok (hc : Con con lives) {L R : List HP} {H : CH} {m a : Nat} {M : Mem} {K : KP} (hs : Sat L H) (hp : Pull L (MemP m M) R) (k : K (.bool (ltN a M.cells.length)) H) : Call1 Try.prog con 45 [ptr m 0, u64 a] H K := by
  refine call_of (hc _ _ _ rfl) ?_
  rw [memHas_W]
  obtain ⟨h1, h2, s1, s2, d, ⟨bp, bl, tr, ⟨hn, hf⟩, hin⟩, hR⟩ := hs.opens hp
  have hs1 := Sat.merge s1 s2 d hin hR
  simp only [List.cons_append, List.nil_append] at hs1
  repeat (refine gO ?_; intros)
  refine Mth.of (f := 91) (rc := ptr bp 0) (by kernel_rfl) (by kernel_rfl) ?_
  refine plainSize_ok hc hs1 ?_
  repeat (refine gO ?_; intros)
  refine Must.mk (cv_small (by omega)) ?_
  rw [wrapN_small (by omega)]
  exact k
theorem memPeek_ok (hc : Con con lives) {L R : List HP} {H : CH} {m a : Nat} {M : Mem} {K : KP} (hs : Sat L H) (hp : Pull L (MemP m M) R) (k : K (u64 (M.peek a)) H) : Call1 Try.prog con 31 [ptr m 0, u64 a] H K := by
  refine call_of (hc _ _ _ rfl) ?_
  rw [memPeek_W]
  refine memHas_ok hc hs hp ?_
  obtain ⟨h1, h2, s1, s2, d, ⟨bp, bl, tr, ⟨hn, hf⟩, hin⟩, hR⟩ := hs.opens hp
  have hs1 := Sat.merge s1 s2 d hin hR
  simp only [List.cons_append, List.nil_append] at hs1
  repeat (refine gO ?_; intros)
  by_cases h : a < M.cells.length
  · refine Cd.f (by rw [ltN_t h]; rfl) ?_
    repeat (refine gO ?_; intros)
    refine Mth.of (f := 89) (rc := ptr bp 0) (by kernel_rfl) (by kernel_rfl) ?_
    exact plainLoad_ok hc hs1 h (map_get _ h) k
  · refine Cd.t (by rw [ltN_f (by omega)]; rfl) ?_
    have e : M.peek a = 0 := by unfold Mem.peek; rw [List.getD_eq_getElem?_getD, List.getElem?_eq_none (by omega)]; rfl
    rw [e] at k
    exact k
theorem note_ok (hc : Con con lives) {L R1 R2 R3 : List HP} {H : CH} {p m n : Nat} {th : Int} {M : Mem} {v0 : Value} {c : Acs} {K : KP} (hs : Sat L H) (hm' : Pull L (MemP m M) R1) (hv : Pull R1 (ViewAt p m th n) R2) (hq : Pull R2 (Nums v0 c.vals) R3)
    (hn : n < 1000000000) (ht : M.tr.length < 1000000000) (hv0 : isCell v0 = true) (k : ∀ H1, Sat (MemP m (M.note { c with th := th }) :: ViewAt p m th (n + 1) :: R3) H1 → K unit H1) :
    Call1 Try.prog con 42 [ptr p 0, .agg ⟨[i64 (Int.ofNat 0), u8 c.kind, u64 c.a, u64 c.x, u64 c.y, v0, u64 c.got, .bool c.ok]⟩] H K := by
  refine call_of (hc _ _ _ rfl) ?_
  rw [viewNote_W]
  have hs0 := hs.takes (.cons hm' (.cons hv (.cons hq .nil)))
  simp only [List.cons_append, List.nil_append] at hs0
  obtain ⟨h1, h2, s1, s2, d, ⟨bp, bl, tr, ⟨hn1, hf⟩, hin⟩, hR⟩ := hs0.opens Pull.here
  have hs1 := Sat.merge s1 s2 d hin hR
  simp only [List.cons_append, List.nil_append] at hs1
  obtain ⟨g1, g2, t1, t2, d2, hT, _⟩ := hs1.opens (.there (.there (.there .here)))
  obtain ⟨q, rfl⟩ := hT.shape
  repeat (refine gO ?_; intros)
  refine inR_nat (n := n + 1) (by omega) ?_
  repeat (refine gO ?_; intros)
  refine app_trace (c := { c with th := th }) (v0 := v0) (by assumption) pp pp el_acc (by omega) sl_acc hv0 ht (fun q H1 hs2 => ?_)
  repeat (refine gO ?_; intros)
  refine k _ (Sat.close (L1 := [_, _, _, _]) (Sat.ent (by assumption) ee) fun g a => ⟨bp, bl, _, ⟨hn1, hf⟩, a⟩)
end Go.Proofs.Ytlabejmlkhgeoaa

set_option linter.unusedVariables false
set_option linter.unusedSimpArgs false
namespace Go.Proofs.Ytlabejmlkhgeoaa
open Go Go.CM
attribute [local irreducible] AsBool AsWant AsNat AsInt AsCnt AsPtr AsSlc AsLen AsStr AsAgg AsTup AsFn AsIfc Nth Sc NotNil IsNil Must Cd codeW funW Sat SatL wrapN subM mkRow ltZ leZ ltN leN
variable {con : CallT}
theorem viewLoad_ok (hc : Con con lives) {L R1 R2 : List HP} {H : CH} {p m n a : Nat} {th : Int} {M : Mem} {K : KP} (hs : Sat L H) (hm : Pull L (MemP m M) R1) (hv : Pull R1 (ViewAt p m th n) R2)
    (hn : n < 1000000000) (ht : M.tr.length < 1000000000) (k : ∀ H1, Sat (MemP m (M.load th a) :: ViewAt p m th (n + 1) :: R2) H1 → K (u64 (M.peek a)) H1) : Call1 Try.prog con 68 [ptr p 0, u64 a] H K := by
  refine call_of (hc _ _ _ rfl) ?_
  rw [viewLoad_W]
  have hs0 := hs.takes (.cons hm (.cons hv .nil))
  simp only [List.cons_append, List.nil_append] at hs0
  repeat (refine gO ?_; intros)
  refine memPeek_ok hc hs0 pp ?_
  repeat (refine gO ?_; intros)
  refine note_ok (c := accLd 0 a (M.peek a)) (v0 := snil) hc hs0.nil pp pp pp hn ht rfl fun H1 h => ?_
  exact k _ h
theorem put_oob {M : Mem} {a x : Nat} (h : M.cells.length ≤ a) : M.put a x = M := by
  unfold Mem.put; rw [List.set_eq_of_length_le h]
theorem viewStore_ok (hc : Con con lives) {L R1 R2 : List HP} {H : CH} {p m n a x : Nat} {th : Int} {M : Mem} {K : KP} (hs : Sat L H) (hm : Pull L (MemP m M) R1) (hv : Pull R1 (ViewAt p m th n) R2)
    (hn : n < 1000000000) (ht : M.tr.length < 1000000000) (k : ∀ H1, Sat (MemP m (M.store th a x) :: ViewAt p m th (n + 1) :: R2) H1 → K unit H1) : Call1 Try.prog con 71 [ptr p 0, u64 a, u64 x] H K := by
  refine call_of (hc _ _ _ rfl) ?_
  rw [viewStore_W]
  have hs0 := hs.takes (.cons hm (.cons hv .nil))
  simp only [List.cons_append, List.nil_append] at hs0
  repeat (refine gO ?_; intros)
  refine memHas_ok hc hs0 pp ?_
  repeat (refine gO ?_; intros)
  refine Cd.of (fun hlt => ?_) (fun hge => ?_)
  · have hlt' : a < M.cells.length := ltN_iff.1 hlt
    obtain ⟨h1, h2, s1, s2, d, ⟨bp, bl, tr, ⟨hn1, hf⟩, hin⟩, hR⟩ := hs0.opens Pull.here
    have hs1 := Sat.merge s1 s2 d hin hR
    simp only [List.cons_append, List.nil_append] at hs1
    repeat (refine gO ?_; intros)
    refine Mth.of (f := 92) (rc := ptr bp 0) (by kernel_rfl) (by kernel_rfl) ?_
    refine plainStore_ok hc hs1 hlt' (by simp) fun H1 h => ?_
    rw [← List.map_set] at h
    have hs2 : Sat (MemP m (M.put a x) :: ViewAt p m th n :: R2) H1 := Sat.close (L1 := [_, _, _, _]) (h.ent ee) fun g a => ⟨bp, bl, tr, ⟨by rw [put_len]; exact hn1, by rw [put_len]; exact hf⟩, by rw [put_len]; exact a⟩
    refine note_ok (M := M.put a x) (c := accSt 0 a x) (v0 := snil) hc hs2.nil pp pp pp hn ht rfl fun H1 h => ?_
    exact k _ h
  · have hge' : M.cells.length ≤ a := by
      rcases Nat.lt_or_ge a M.cells.length with h | h
      · rw [ltN_t h] at hge; cases hge
      · exact h
    refine note_ok (c := accSt 0 a x) (v0 := snil) hc hs0.nil pp pp pp hn ht rfl fun H1 h => ?_
    refine k _ ?_
    unfold Mem.store
    rw [put_oob hge']
    exact h
theorem memView_ok (hc : Con con lives) {L : List HP} {H : CH} {m : Nat} {th : Int} {K : KP} (hs : Sat L H) (k : ∀ p H1, Sat (ViewAt p m th 0 :: L) H1 → K (ptr p 0) H1) : Call1 Try.prog con 11 [ptr m 0, i64 th] H K := by
  refine call_of (hc _ _ _ rfl) ?_
  rw [memView_W]
  exact nw hs k
def mem0 (n : Nat) : Mem := { cells := List.replicate n 0, free := 1, tr := [] }
theorem zero_u : (zeroOf Try.prog tU).map cellsF = some [u64 0] := by kernel_rfl
theorem rep_u (n : Nat) : (List.replicate n [u64 0]).flatten = (List.replicate n 0).map u64 := by
  induction n with
  | zero => rfl
  | succ n ih => rw [List.replicate_succ, List.replicate_succ, List.flatten_cons, List.map_cons, ih]; rfl
theorem arenaNew_ok (hc : Con con lives) {L : List HP} {H : CH} {n : Nat} {K : KP} (hs : Sat L H) (h1 : 128 ≤ n) (h2 : n ≤ 4194304) (k : ∀ m H1, Sat (MemP m (mem0 n) :: L) H1 → K (.tuple ⟨[ptr m 0, iN 0]⟩) H1) : Call1 Try.prog con 7 [iN n, .bool false] H K := by
  refine call_of (hc _ _ _ rfl) ?_
  rw [arenaNew_W]
  refine Cd.f (ltZ_f (by omega)) ?_
  refine Cd.f (ltZ_f (by omega)) ?_
  repeat (refine gO ?_; intros)
  refine mkS hs el_u64 zero_u (Nat.le_refl n) (by omega) (by omega) fun b H1 h => ?_
  rw [rep_u] at h
  refine Sc.mk rfl ?_
  refine nw h fun bp H2 h2 => nw h2 fun m H3 h3 => ?_
  refine k _ _ (Sat.close (L1 := [Own m [.iface tPl (ptr bp 0), .bool false, snil], Own bp [slc b 0 n n, iN 1], Row b tU 0 true ((List.replicate n 0).map u64), TrAt snil tA []]) (Sat.ent (Sat.nilT (e := tA) h3) ee) fun g a => ⟨bp, b, snil, ⟨by simp [mem0]; omega, by simp [mem0]; omega⟩, by simpa only [mem0, List.length_replicate] using a⟩)
end Go.Proofs.Ytlabejmlkhgeoaa

set_option linter.unusedVariables false
set_option linter.unusedSimpArgs false
namespace Go.Proofs.Ytlabejmlkhgeoaa
open Go Go.CM
attribute [local irreducible] AsBool AsWant AsNat AsInt AsCnt AsPtr AsSlc AsLen AsStr AsAgg AsTup AsFn AsIfc Nth Sc NotNil IsNil Must Cd codeW funW Sat SatL wrapN subM mkRow ltZ leZ ltN leN
variable {con : CallT}
theorem cloneN_ok (hc : Con con lives) {L : List HP} {H : CH} {v : Value} {l : List Nat} {K : KP} (hs : Sat L H) (hq : Has L (Nums v l)) (hl : l.length ≤ 1000000000) (k : ∀ v' H1, isCell v' = true → Sat (Nums v' l :: L) H1 → K v' H1) : Call1 Try.prog con 40 [v] H K := by
  refine call_of (hc _ _ _ rfl) ?_
  rw [cloneN_W]
  rcases (hs.has hq).shape with ⟨rfl, rfl⟩ | ⟨b, o, c, rfl⟩
  · repeat (refine gO ?_; intros)
    exact k _ _ rfl hs.nil
  · refine IsNil.slc (Cd.f rfl ?_)
    refine nwR hs fun p H1 h1 => ?_
    rcases Nat.eq_zero_or_pos l.length with h0 | hpos
    · have hl0 : l = [] := List.eq_nil_of_length_eq_zero h0
      subst hl0
      refine app_none h1 el_u64 sl_u64 (Src.skip (hq.src rfl)) ?_
      exact k _ _ rfl (h1.imp fun g r => .inr ⟨p, 0, 0, tU, 0, true, [], rfl, Nat.le_refl _, Nat.le_refl _, rfl, r⟩)
    · refine app_clone (new := l.map fun x => [u64 x]) h1 el_u64 (by omega) sl_u64 (by rw [flat1]; exact hq.src rfl) (by simp) (by simp) hl hpos fun v' H2 h2 => ?_
      have h3 : Sat (Nums v' l :: L) H2 := h2.imp fun g a => a.nums
      refine k _ _ ?_ h3
      obtain ⟨p, c, rfl⟩ := (h3.has Has.nums).len
      rfl
end Go.Proofs.Ytlabejmlkhgeoaa

set_option linter.unusedVariables false
set_option linter.unusedSimpArgs false
namespace Go.Proofs.Ytlabejmlkhgeoaa
open Go Go.CM
attribute [local irreducible] AsBool AsWant AsNat AsInt AsCnt AsPtr AsSlc AsLen AsStr AsAgg AsTup AsFn AsIfc Nth Sc NotNil IsNil Must Cd codeW funW Sat SatL wrapN subM mkRow ltZ leZ ltN leN
variable {con : CallT}
theorem plainAlloc_ok (hc : Con con lives) {R : List HP} {H : CH} {bp bl fr : Nat} {cells vals : List Nat} {v : Value} {K : KP} (hs : Sat (Own bp [slc bl 0 cells.length cells.length, iN fr] :: Row bl tU 0 true (cells.map u64) :: R) H)
    (hn : cells.length ≤ 4194304) (hf : fr ≤ cells.length) (hv : Has R (Nums v vals)) (hl : vals.length ≤ 1000000000) (hp : 0 < vals.length)
    (k0 : cells.length - fr < vals.length → K (u64 0) H) (k1 : vals.length ≤ cells.length - fr → ∀ H1, Sat (Own bp [slc bl 0 cells.length cells.length, iN (fr + vals.length)] :: Row bl tU 0 true ((ovN vals cells fr).map u64) :: R) H1 → K (u64 fr) H1) :
    Call1 Try.prog con 86 [ptr bp 0, v] H K := by
  refine call_of (hc _ _ _ rfl) ?_
  rw [plainAlloc_W]
  rcases (hs.has (Has.skip (Has.skip hv))).shape with ⟨rfl, rfl⟩ | ⟨b, o, c, rfl⟩
  · simp at hp
  repeat (refine gO ?_; intros)
  rw [subInt hf]
  refine inR_nat (by omega) ?_
  refine Cd.of (fun h => ?_) (fun h => ?_)
  · refine k0 ?_
    exact ltZ_e h
  · have hle : vals.length ≤ cells.length - fr := ltZ_n h
    repeat (refine gO ?_; intros)
    have hs2 : Sat (Row bl tU 0 true (cells.map u64) :: Own bp [slc bl 0 cells.length cells.length, iN fr] :: R) H := hs.ent ee
    refine slcR hs2 el_u64 hf (Nat.le_refl _) fun o' ho' => ?_
    obtain rfl := ho' (by omega)
    refine cpy (n := vals.length) hs el_u64 (Nat.min_eq_left (by omega)) (Src.skip (Src.skip (hv.src rfl))) (by simp) (by simp; omega) (isCell_u64 _) fun H1 h1 => ?_
    rw [Nat.mul_one, ovw_map] at h1
    repeat (refine gO ?_; intros)
    rw [addInt]
    refine inR_nat (by omega) ?_
    refine stB h1 rfl rfl fun H2 h2 => ?_
    repeat (refine gO ?_; intros)
    refine Must.mk (cv_small (by omega)) ?_
    rw [wrapN_small (by omega)]
    exact k1 hle _ h2
theorem viewAlloc_ok (hc : Con con lives) {L R1 R2 : List HP} {H : CH} {p m n : Nat} {th : Int} {M : Mem} {v : Value} {vals : List Nat} {K : KP} (hs : Sat L H) (hm : Pull L (MemP m M) R1) (hv : Pull R1 (ViewAt p m th n) R2) (hq : Has R2 (Nums v vals)) (hl : vals.length ≤ 1000000000)
    (hn : n < 1000000000) (ht : M.tr.length < 1000000000) (k : ∀ H1, Sat (MemP m (M.alloc th vals) :: ViewAt p m th (n + 1) :: R2) H1 → K (u64 (M.room vals)) H1) : Call1 Try.prog con 29 [ptr p 0, v] H K := by
  refine call_of (hc _ _ _ rfl) ?_
  rw [viewAlloc_W]
  have hs0 := hs.takes (.cons hm (.cons hv .nil))
  simp only [List.cons_append, List.nil_append] at hs0
  have tail : ∀ {a : Nat} {M' : Mem} {H1 : CH} {K' : KP}, Sat (MemP m M' :: ViewAt p m th n :: R2) H1 → M'.tr.length < 1000000000 → (∀ H2, Sat (MemP m (M'.note (accNew th a vals)) :: ViewAt p m th (n + 1) :: R2) H2 → K' (u64 a) H2) →
      Call1 Try.prog con 40 [v] H1 fun v8 H9 => Sc (u64 a) (Sc v8 (Call1 Try.prog con 42 [ptr p 0, .agg ⟨[i64 (Int.ofNat 0), u8 5, u64 a, u64 0, u64 0, v8, u64 0, .bool false]⟩] H9 fun v10 H11 => K' (u64 a) H11)) := by
    intro a M' H1 K' h1 ht' k'
    refine cloneN_ok hc h1 (Has.skip (Has.skip hq)) hl fun v' H2 hc' h2 => ?_
    refine Sc.mk rfl (Sc.mk hc' ?_)
    exact note_ok (th := th) (M := M') (c := accNew 0 a vals) (v0 := v') hc h2 pp pp pp hn ht' hc' fun H3 h3 => k' _ h3
  obtain ⟨pv, cv, rfl⟩ := (hs0.has (Has.skip (Has.skip hq))).len
  repeat (refine gO ?_; intros)
  refine Cd.of (fun h => ?_) (fun h => ?_)
  · have hpos : 0 < vals.length := ltZ_e h
    obtain ⟨h1, h2, s1, s2, d, ⟨bp, bl, tr, ⟨hn1, hf1⟩, hin⟩, hR⟩ := hs0.opens Pull.here
    have hs1 := Sat.merge s1 s2 d hin hR
    simp only [List.cons_append, List.nil_append] at hs1
    repeat (refine gO ?_; intros)
    refine Mth.of (f := 86) (rc := ptr bp 0) (by kernel_rfl) (by kernel_rfl) ?_
    have hs2 : Sat (Own bp [slc bl 0 M.cells.length M.cells.length, iN M.free] :: Row bl tU 0 true (M.cells.map u64) :: Own m [.iface tPl (ptr bp 0), .bool false, tr] :: TrAt tr tA M.tr :: ViewAt p m th n :: R2) H := hs1.ent ee
    refine plainAlloc_ok hc hs2 hn1 hf1 (Has.skip (Has.skip (Has.skip hq))) hl hpos (fun hlt => ?_) (fun hle H3 h3 => ?_)
    · have hno : ¬ (0 < vals.length ∧ vals.length ≤ M.cells.length - M.free) := by omega
      have e1 := room_f hno
      rw [alloc_f hno, e1] at k
      exact tail hs0 ht k
    · rw [alloc_t hpos hle, room_t hpos hle] at k
      have h4 : Sat (MemP m (M.take vals) :: ViewAt p m th n :: R2) H3 := Sat.close (L1 := [Own m [.iface tPl (ptr bp 0), .bool false, tr], Own bp [slc bl 0 M.cells.length M.cells.length, iN (M.free + vals.length)], Row bl tU 0 true ((ovN vals M.cells M.free).map u64), TrAt tr tA M.tr]) (h3.ent ee) fun g a => ⟨bp, bl, tr, ⟨by show (ovN vals M.cells M.free).length ≤ _; rw [ovN_len]; exact hn1, by show M.free + vals.length ≤ (ovN vals M.cells M.free).length; rw [ovN_len]; omega⟩, by show SatL [_, Own bp [slc bl 0 (ovN vals M.cells M.free).length (ovN vals M.cells M.free).length, iN (M.free + vals.length)], _, _] g; rw [ovN_len]; exact a⟩
      exact tail h4 ht k
  · have h0 : vals.length = 0 := by
      have := ltZ_n h
      omega
    have hno : ¬ (0 < vals.length ∧ vals.length ≤ M.cells.length - M.free) := by omega
    rw [alloc_f hno, room_f hno] at k
    have := tail (a := 0) (K' := K) hs0 ht k
    refine cloneN_ok hc hs0 (Has.skip (Has.skip hq)) hl fun v' H2 hc' h2 => ?_
    refine Sc.mk hc' ?_
    exact note_ok (th := th) (M := M) (c := accNew 0 0 vals) (v0 := v') hc h2 pp pp pp hn ht hc' fun H3 h3 => k _ h3
end Go.Proofs.Ytlabejmlkhgeoaa

set_option linter.unusedVariables false
set_option linter.unusedSimpArgs false
namespace Go.Proofs.Ytlabejmlkhgeoaa
open Go Go.CM
attribute [local irreducible] AsBool AsWant AsNat AsInt AsCnt AsPtr AsSlc AsLen AsStr AsAgg AsTup AsFn AsIfc Nth Sc NotNil IsNil Must Cd codeW funW Sat SatL wrapN subM mkRow ltZ leZ ltN leN
variable {con : CallT}
def asksB (a b t : Nat) : Bool := decide (a ≤ t) && decide (t < b)
def needed (fl : Nat) (st : List Nat) (a b : Nat) : Bool := if b ≤ a then false else if fl < b then true else st.any (asksB a b)
theorem any_take_succ (p : Nat → Bool) {l : List Nat} {i : Nat} (h : i < l.length) : (l.take (i + 1)).any p = ((l.take i).any p || p (l.getD i 0)) := by
  rw [List.take_add_one, List.getElem?_eq_getElem h, List.any_append, List.getD_eq_getElem?_getD, List.getElem?_eq_getElem h]; simp
theorem any_at (p : Nat → Bool) {l : List Nat} {i : Nat} (h : i < l.length) (hp : p (l.getD i 0) = true) : l.any p = true := by
  rw [List.getD_eq_getElem?_getD, List.getElem?_eq_getElem h] at hp
  exact List.any_eq_true.2 ⟨l[i], List.getElem_mem h, hp⟩
theorem neededC_ok (hc : Con con lives) {L : List HP} {H : CH} {p q a b x : Nat} {K : KP} (hs : Sat L H) [HasCell L p [u64 a]] [HasCell L q [u64 b]] (k : K (.bool (asksB a b x)) H) : Call1 Try.prog con 47 [u64 x, ptr p 0, ptr q 0] H K := by
  refine call_of (hc _ _ _ rfl) ?_
  rw [neededC_W]
  repeat (refine gO ?_; intros)
  by_cases h : a ≤ x
  · refine Cd.t (leN_t h) ?_
    repeat (refine gO ?_; intros)
    have e : asksB a b x = ltN x b := by
      unfold asksB
      rw [decide_eq_true h]
      by_cases h2 : x < b
      · rw [ltN_t h2, decide_eq_true h2]; rfl
      · rw [ltN_f (by omega), decide_eq_false h2]; rfl
    rw [← e]; exact k
  · refine Cd.f (leN_f (by omega)) ?_
    have e : asksB a b x = false := by unfold asksB; rw [decide_eq_false h]; rfl
    rw [← e]; exact k
set_option maxRecDepth 4000 in
theorem containsF_ok (hc : Con con lives) {L : List HP} {H : CH} {p q a b : Nat} {v : Value} {l : List Nat} {K : KP} (hs : Sat L H) (hq : Has L (Nums v l)) [HasCell L p [u64 a]] [HasCell L q [u64 b]] (hl : l.length ≤ 1000000000) (k : K (.bool (l.any (asksB a b))) H) :
    Call1 Try.prog con 48 [v, .func (.func 47) ⟨[]⟩ ⟨[ptr p 0, ptr q 0]⟩] H K := by
  refine call_of (hc _ _ _ rfl) ?_
  rw [containsF_W]
  refine call_of (hc _ _ _ rfl) ?_
  rw [indexF_W]
  obtain ⟨pv, cv, rfl⟩ := (hs.has hq).len
  repeat (refine gO ?_; intros)
  refine LoopC.ind (n := 100) (by kernel_rfl) (fun (i : Nat) σ H1 => σ 0 = .slice pv l.length cv ∧ σ 1 = .func (.func 47) ⟨[]⟩ ⟨[ptr p 0, ptr q 0]⟩ ∧ σ 7 = iN l.length ∧ σ 8 = iN i ∧ i ≤ l.length ∧ (l.take i).any (asksB a b) = false ∧ H1 = H) (fun i => l.length - i) (fun i σ H1 hI => ?_) 0 _ _ ⟨rfl, rfl, rfl, rfl, Nat.zero_le _, rfl, rfl⟩
  obtain ⟨e0, e1, e7, e8, hi, hno, rfl⟩ := hI
  rw [indexFL_W]
  simp only [e0, e1, e7, e8]
  repeat (refine gO ?_; intros)
  rcases Nat.lt_or_ge i l.length with hlt | hge
  · refine Cd.t (ltZ_t (by omega)) ?_
    rcases (hs.has hq).shape with ⟨h3, h4⟩ | ⟨b', o, c', h3⟩
    · rw [h4] at hlt; simp at hlt
    cases h3
    repeat (refine gO ?_; intros)
    refine Must.mk (ltN_t hlt) ?_
    refine ldSrc hs (hq.src rfl) (by rw [show Nat.mul i 1 = i from Nat.mul_one i]; rfl) (map_get _ hlt) ?_
    repeat (refine gO ?_; intros)
    try refine Must.mk (by kernel_rfl) ?_
    refine neededC_ok (a := a) (b := b) hc hs ?_
    repeat (refine gO ?_; intros)
    refine Cd.of (fun hy => ?_) (fun hn => ?_)
    · show AsInt _ _ _
      refine AsInt.mk ?_
      rw [any_at _ hlt hy] at k
      show K (.bool (leZ (Int.ofNat 0) (Int.ofNat i))) _
      rw [leZ_t (Nat.zero_le i)]
      exact k
    · repeat (refine gO ?_; intros)
      refine inR_nat (n := i + 1) (by omega) ?_
      show ∃ y, _ ∧ _
      exact ⟨i + 1, by omega, e0, e1, e7, rfl, hlt, by rw [any_take_succ _ hlt, hno, hn]; rfl, rfl⟩
  · refine Cd.f (ltZ_f (by omega)) ?_
    show Cd _ _ _
    refine Cd.t (eqN_self 0) ?_
    refine AsInt.mk ?_
    rw [List.take_of_length_le hge] at hno
    rw [hno] at k
    rw [show leZ (Int.ofNat 0) (Int.negSucc 0) = false by decide +kernel]
    exact k
theorem needed_ok (hc : Con con lives) {L : List HP} {H : CH} {fl a b : Nat} {v : Value} {l : List Nat} {K : KP} (hs : Sat L H) (hq : Has L (Nums v l)) (hl : l.length ≤ 1000000000) (k : ∀ H1, Sat L H1 → K (.bool (needed fl l a b)) H1) :
    Call1 Try.prog con 38 [.agg ⟨[u64 fl, v]⟩, u64 a, u64 b] H K := by
  refine call_of (hc _ _ _ rfl) ?_
  rw [needed_W]
  obtain ⟨pv, cv, rfl⟩ := (hs.has hq).len
  refine nw hs fun p1 H1 h1 => ?_
  repeat (refine gO ?_; intros)
  by_cases h : b ≤ a
  · refine Cd.t (leN_t h) ?_
    have e : needed fl l a b = false := by unfold needed; rw [if_pos h]
    rw [← e]
    refine k _ (Sat.ent (by assumption) ee)
  refine Cd.f (leN_f (by omega)) ?_
  repeat (refine gO ?_; intros)
  by_cases h2 : fl < b
  · refine Cd.t (ltN_t h2) ?_
    have e : needed fl l a b = true := by unfold needed; rw [if_neg h, if_pos h2]
    rw [← e]
    refine k _ (Sat.ent (by assumption) ee)
  refine Cd.f (ltN_f (by omega)) ?_
  repeat (refine gO ?_; intros)
  refine containsF_ok (a := a) (b := b) (l := l) hc (by assumption) (Has.skip (Has.skip (Has.skip hq))) hl ?_
  have e : needed fl l a b = l.any (asksB a b) := by unfold needed; rw [if_neg h, if_neg h2]
  rw [← e]
  refine k _ (Sat.ent (by assumption) ee)
theorem refNeeded_ok (hc : Con con lives) {L : List HP} {H : CH} {fl a b : Nat} {v : Value} {l : List Nat} {K : KP} (hs : Sat L H) (hq : Has L (Nums v l)) (hl : l.length ≤ 1000000000) (k : ∀ H1, Sat L H1 → K (.bool (needed fl l a b)) H1) :
    Call1 Try.prog con 26 [.agg ⟨[u64 fl, v]⟩, u64 a, u64 b] H K := by
  refine call_of (hc _ _ _ rfl) ?_
  rw [refNeeded_W]
  obtain ⟨pv, cv, rfl⟩ := (hs.has hq).len
  refine nw hs fun p1 H1 h1 => ?_
  repeat (refine gO ?_; intros)
  by_cases h : b ≤ a
  · refine Cd.t (leN_t h) ?_
    have e : needed fl l a b = false := by unfold needed; rw [if_pos h]
    rw [← e]
    exact k _ h1.drop
  refine Cd.f (leN_f (by omega)) ?_
  repeat (refine gO ?_; intros)
  by_cases h2 : fl < b
  · refine Cd.t (ltN_t h2) ?_
    have e : needed fl l a b = true := by unfold needed; rw [if_neg h, if_pos h2]
    rw [← e]
    exact k _ h1.drop
  refine Cd.f (ltN_f (by omega)) ?_
  have e : needed fl l a b = l.any (asksB a b) := by unfold needed; rw [if_neg h, if_neg h2]
  refine LoopC.ind (n := 100) (by kernel_rfl) (fun (i : Nat) σ H => σ 1 = u64 a ∧ σ 2 = u64 b ∧ σ 3 = ptr p1 0 ∧ σ 7 = iN i ∧ i ≤ l.length ∧ (l.take i).any (asksB a b) = false ∧ H = H1) (fun i => l.length - i) (fun i σ H2 hI => ?_) 0 _ _ ⟨rfl, rfl, rfl, rfl, Nat.zero_le _, rfl, rfl⟩
  obtain ⟨e1, e2, e3, e7, hi, hno, rfl⟩ := hI
  rw [refNeededL_W]
  simp only [e1, e2, e3, e7]
  repeat (refine gO ?_; intros)
  rcases Nat.lt_or_ge i l.length with hlt | hge
  · refine Cd.t (ltZ_t (by omega)) ?_
    rcases (hs.has hq).shape with ⟨h3, h4⟩ | ⟨b', o, c', h3⟩
    · rw [h4] at hlt; simp at hlt
    cases h3
    repeat (refine gO ?_; intros)
    refine Must.mk (ltN_t hlt) ?_
    refine ldSrc h1 (Src.skip (hq.src rfl)) (by rw [show Nat.mul i 1 = i from Nat.mul_one i]; rfl) (map_get _ hlt) ?_
    repeat (refine gO ?_; intros)
    by_cases h3 : a ≤ l.getD i 0
    · refine Cd.t (leN_t h3) ?_
      repeat (refine gO ?_; intros)
      refine Must.mk (ltN_t hlt) ?_
      refine ldSrc h1 (Src.skip (hq.src rfl)) (by rw [show Nat.mul i 1 = i from Nat.mul_one i]; rfl) (map_get _ hlt) ?_
      repeat (refine gO ?_; intros)
      by_cases h4 : l.getD i 0 < b
      · refine Cd.t (ltN_t h4) ?_
        have ey : l.any (asksB a b) = true := any_at _ hlt (by unfold asksB; rw [decide_eq_true h3, decide_eq_true h4]; rfl)
        rw [e, ey] at k
        exact k _ h1.drop
      · refine Cd.f (ltN_f (by omega)) ?_
        repeat (refine gO ?_; intros)
        refine inR_nat (n := i + 1) (by omega) ?_
        show ∃ y, _ ∧ _
        exact ⟨i + 1, by omega, e1, e2, e3, rfl, hlt, by rw [any_take_succ _ hlt, hno]; unfold asksB; rw [decide_eq_false h4, Bool.and_false]; rfl, rfl⟩
    · refine Cd.f (leN_f (by omega)) ?_
      repeat (refine gO ?_; intros)
      refine inR_nat (n := i + 1) (by omega) ?_
      show ∃ y, _ ∧ _
      exact ⟨i + 1, by omega, e1, e2, e3, rfl, hlt, by rw [any_take_succ _ hlt, hno]; unfold asksB; rw [decide_eq_false h3]; rfl, rfl⟩
  · refine Cd.f (ltZ_f (by omega)) ?_
    show Cd _ _ _
    refine Cd.t (eqN_self 0) ?_
    rw [List.take_of_length_le hge] at hno
    rw [e, hno] at k
    exact k _ h1.drop
end Go.Proofs.Ytlabejmlkhgeoaa

set_option linter.unusedVariables false
set_option linter.unusedSimpArgs false
namespace Go.Proofs.Ytlabejmlkhgeoaa
open Go Go.CM
attribute [local irreducible] AsBool AsWant AsNat AsInt AsCnt AsPtr AsSlc AsLen AsStr AsAgg AsTup AsFn AsIfc Nth Sc NotNil IsNil Must Cd codeW funW Sat SatL wrapN subM mkRow ltZ leZ ltN leN
variable {con : CallT}
structure CutS where
  obj : Nat
  fl : Nat
  st : List Nat
  at_ : Nat
  x : Nat
  sx : Nat
  y : Nat
  y0 : Nat
  sy : Nat
  found : Nat
  head : Nat
  told : Nat
def CutS.further (s : CutS) : CutS := if s.y = 0 then { s with at_ := 7 } else { s with x := s.y, sx := s.sy, at_ := 3 }
def CutS.stay (s : CutS) : CutS := if s.y = s.y0 then s.further else { s with at_ := 6 }
def CutS.on (s : CutS) : CutS := if s.y = 0 then ({ s with at_ := 4 } : CutS).stay else { s with at_ := 4 }
def CutS.fin (s : CutS) : CutS := if s.at_ = 7 then { s with head := s.told } else s
def CutS.go (s : CutS) (M : Mem) (th : Int) : CutS × Mem :=
  if s.at_ = 0 then ({ s with x := M.peek s.obj, at_ := if M.peek s.obj = 0 then 7 else 1 }, M.load th s.obj)
  else if s.at_ = 1 then ({ s with sx := if M.peek (addM s.x 1) = 0 then 18446744073709551615 else M.peek (addM s.x 1), at_ := 2 }, M.load th (addM s.x 1))
  else if s.at_ = 2 then ({ s with told := M.peek s.x, at_ := 3 }, M.load th s.x)
  else if s.at_ = 3 then (({ s with y0 := M.peek (addM s.x 2), y := M.peek (addM s.x 2) } : CutS).on, M.load th (addM s.x 2))
  else if s.at_ = 4 then (if needed s.fl s.st (M.peek (addM s.y 1)) s.sx then ({ s with sy := M.peek (addM s.y 1) } : CutS).stay else { s with sy := M.peek (addM s.y 1), found := addM s.found 1, at_ := 5 }, M.load th (addM s.y 1))
  else if s.at_ = 5 then (({ s with y := M.peek (addM s.y 2) } : CutS).on, M.load th (addM s.y 2))
  else (s.further, M.store th (addM s.x 2) s.y)
def CutS.step (s : CutS) (M : Mem) (th : Int) : CutS × Mem := ((s.go M th).1.fin, (s.go M th).2)
def cutC (s : CutS) (v : Value) : List Value := [u64 s.obj, u64 s.fl, v, iN s.at_, u64 s.x, u64 s.sx, u64 s.y, u64 s.y0, u64 s.sy, u64 s.found, u64 s.head, u64 s.told]
theorem cutFurther_ok (hc : Con con lives) (s : CutS) {L R : List HP} {H : CH} {p : Nat} {v : Value} {K : KP} (hs : Sat L H) (hp : Pull L (Own p (cutC s v)) R) (k : ∀ H1, Sat (Own p (cutC s.further v) :: R) H1 → K unit H1) : Call1 Try.prog con 67 [ptr p 0] H K := by
  refine call_of (hc _ _ _ rfl) ?_
  rw [cutFurther_W]
  have hs0 := hs.pull hp
  unfold CutS.further at k
  repeat (refine gO ?_; intros)
  by_cases h : s.y = 0
  · refine Cd.f (by rw [eqN_t h]; rfl) ?_
    rw [if_pos h] at k
    exact k _ (by assumption)
  · refine Cd.t (by rw [eqN_f h]; rfl) ?_
    rw [if_neg h] at k
    repeat (refine gO ?_; intros)
    exact k _ (by assumption)
theorem cutStay_ok (hc : Con con lives) (s : CutS) {L R : List HP} {H : CH} {p : Nat} {v : Value} {K : KP} (hs : Sat L H) (hp : Pull L (Own p (cutC s v)) R) (k : ∀ H1, Sat (Own p (cutC s.stay v) :: R) H1 → K unit H1) : Call1 Try.prog con 70 [ptr p 0] H K := by
  refine call_of (hc _ _ _ rfl) ?_
  rw [cutStay_W]
  have hs0 := hs.pull hp
  unfold CutS.stay at k
  repeat (refine gO ?_; intros)
  by_cases h : s.y = s.y0
  · refine Cd.f (by rw [eqN_t h]; rfl) ?_
    rw [if_pos h] at k
    exact cutFurther_ok hc s hs0 pp k
  · refine Cd.t (by rw [eqN_f h]; rfl) ?_
    rw [if_neg h] at k
    repeat (refine gO ?_; intros)
    exact k _ (by assumption)
theorem cutOn_ok (hc : Con con lives) (s : CutS) {L R : List HP} {H : CH} {p : Nat} {v : Value} {K : KP} (hs : Sat L H) (hp : Pull L (Own p (cutC s v)) R) (k : ∀ H1, Sat (Own p (cutC s.on v) :: R) H1 → K unit H1) : Call1 Try.prog con 69 [ptr p 0] H K := by
  refine call_of (hc _ _ _ rfl) ?_
  rw [cutOn_W]
  have hs0 := hs.pull hp
  unfold CutS.on at k
  repeat (refine gO ?_; intros)
  by_cases h : s.y = 0
  · refine Cd.t (eqN_t h) ?_
    rw [if_pos h] at k
    exact cutStay_ok hc { s with at_ := 4 } (by assumption) pp k
  · refine Cd.f (eqN_f h) ?_
    rw [if_neg h] at k
    exact k _ (by assumption)
theorem cutTail (s : CutS) {L R : List HP} {H : CH} {p : Nat} {v : Value} {K : KP} (hs : Sat L H) (hp : Pull L (Own p (cutC s v)) R) (k : ∀ H1, Sat (Own p (cutC s.fin v) :: R) H1 → K (.bool (eqZ (Int.ofNat s.fin.at_) (Int.ofNat 7))) H1) :
    Ld H p 3 fun v => AsInt .i64 v fun z => Cd (eqZ z (Int.ofNat 7)) (Ld H p 11 fun v13 => Sc v13 (St H p 10 [v13] fun H14 => Ld H14 p 3 fun v15 => AsInt .i64 v15 fun z16 => K (.bool (eqZ z16 (Int.ofNat 7))) H14)) (Ld H p 3 fun v17 => AsInt .i64 v17 fun z18 => K (.bool (eqZ z18 (Int.ofNat 7))) H) := by
  have hs0 := hs.pull hp
  unfold CutS.fin at k
  repeat (refine gO ?_; intros)
  by_cases h : s.at_ = 7
  · refine Cd.t (eqZ_t h) ?_
    rw [if_pos h] at k
    repeat (refine gO ?_; intros)
    exact k _ (by assumption)
  · refine Cd.f (eqZ_f h) ?_
    rw [if_neg h] at k
    repeat (refine gO ?_; intros)
    exact k _ hs0
theorem go0 {s : CutS} {M : Mem} {th : Int} (h : s.at_ = 0) : s.go M th = ({ s with x := M.peek s.obj, at_ := if M.peek s.obj = 0 then 7 else 1 }, M.load th s.obj) := by unfold CutS.go; rw [if_pos h]
theorem go1 {s : CutS} {M : Mem} {th : Int} (h : s.at_ = 1) : s.go M th = ({ s with sx := if M.peek (addM s.x 1) = 0 then 18446744073709551615 else M.peek (addM s.x 1), at_ := 2 }, M.load th (addM s.x 1)) := by unfold CutS.go; rw [if_neg (by omega), if_pos h]
theorem go2 {s : CutS} {M : Mem} {th : Int} (h : s.at_ = 2) : s.go M th = ({ s with told := M.peek s.x, at_ := 3 }, M.load th s.x) := by unfold CutS.go; rw [if_neg (by omega), if_neg (by omega), if_pos h]
theorem go3 {s : CutS} {M : Mem} {th : Int} (h : s.at_ = 3) : s.go M th = (({ s with y0 := M.peek (addM s.x 2), y := M.peek (addM s.x 2) } : CutS).on, M.load th (addM s.x 2)) := by unfold CutS.go; rw [if_neg (by omega), if_neg (by omega), if_neg (by omega), if_pos h]
theorem go4 {s : CutS} {M : Mem} {th : Int} (h : s.at_ = 4) : s.go M th = (if needed s.fl s.st (M.peek (addM s.y 1)) s.sx then ({ s with sy := M.peek (addM s.y 1) } : CutS).stay else { s with sy := M.peek (addM s.y 1), found := addM s.found 1, at_ := 5 }, M.load th (addM s.y 1)) := by unfold CutS.go; rw [if_neg (by omega), if_neg (by omega), if_neg (by omega), if_neg (by omega), if_pos h]
theorem go5 {s : CutS} {M : Mem} {th : Int} (h : s.at_ = 5) : s.go M th = (({ s with y := M.peek (addM s.y 2) } : CutS).on, M.load th (addM s.y 2)) := by unfold CutS.go; rw [if_neg (by omega), if_neg (by omega), if_neg (by omega), if_neg (by omega), if_neg (by omega), if_pos h]
theorem go6 {s : CutS} {M : Mem} {th : Int} (h : s.at_ = 6) : s.go M th = (s.further, M.store th (addM s.x 2) s.y) := by unfold CutS.go; rw [if_neg (by omega), if_neg (by omega), if_neg (by omega), if_neg (by omega), if_neg (by omega), if_neg (by omega)]
theorem cutStep_ok (hc : Con con lives) (s : CutS) {L R1 R2 R3 : List HP} {H : CH} {p q m n : Nat} {th : Int} {M : Mem} {v : Value} {K : KP} (hs : Sat L H) (hm : Pull L (MemP m M) R1) (hv : Pull R1 (ViewAt q m th n) R2) (hp : Pull R2 (Own p (cutC s v)) R3) (hq : Has R3 (Nums v s.st)) (hl : s.st.length ≤ 1000000000)
    (hn : n < 1000000000) (ht : M.tr.length < 1000000000) (hat : s.at_ < 7) (k : ∀ H1, Sat (Own p (cutC (s.step M th).1 v) :: MemP m (s.step M th).2 :: ViewAt q m th (n + 1) :: R3) H1 → K (.bool (eqZ (Int.ofNat (s.step M th).1.at_) (Int.ofNat 7))) H1) :
    Call1 Try.prog con 66 [ptr p 0, ptr q 0] H K := by
  refine call_of (hc _ _ _ rfl) ?_
  rw [cutStep_W]
  have hs0 := hs.takes (.cons hm (.cons hv (.cons hp .nil)))
  simp only [List.cons_append, List.nil_append] at hs0
  obtain ⟨obj, fl, st, at_, x, sx, y, y0, sy, found, head, told⟩ := s
  simp only at hat hq hl
  rcases (by omega : at_ = 0 ∨ at_ = 1 ∨ at_ = 2 ∨ at_ = 3 ∨ at_ = 4 ∨ at_ = 5 ∨ at_ = 6) with rfl | rfl | rfl | rfl | rfl | rfl | rfl
  · simp only [CutS.step, go0] at k
    repeat (refine gO ?_; intros)
    refine viewLoad_ok hc hs0 pp pp hn ht fun H1 h1 => ?_
    repeat (refine gO ?_; intros)
    by_cases h : M.peek obj = 0
    · refine Cd.t (eqN_t h) (stB (by assumption) rfl rfl fun H9 h9 => ?_)
      simp only [if_pos h] at k
      exact cutTail ⟨obj, fl, st, 7, M.peek obj, sx, y, y0, sy, found, head, told⟩ h9 pp k
    · refine Cd.f (eqN_f h) ?_
      simp only [if_neg h] at k
      exact cutTail ⟨obj, fl, st, 1, M.peek obj, sx, y, y0, sy, found, head, told⟩ (by assumption) pp k
  · simp only [CutS.step, go1] at k
    repeat (refine gO ?_; intros)
    refine viewLoad_ok hc hs0 pp pp hn ht fun H1 h1 => ?_
    refine Sc.mk rfl (stB h1 rfl rfl fun H2 h2 => ?_)
    repeat (refine gO ?_; intros)
    by_cases h : M.peek (addM x 1) = 0
    · refine Cd.t (eqN_t h) (stB (by assumption) rfl rfl fun H8 h8 => stB h8 rfl rfl fun H9 h9 => ?_)
      simp only [if_pos h] at k
      exact cutTail ⟨obj, fl, st, 2, x, 18446744073709551615, y, y0, sy, found, head, told⟩ h9 pp k
    · refine Cd.f (eqN_f h) (stB (by assumption) rfl rfl fun H9 h9 => ?_)
      simp only [if_neg h] at k
      exact cutTail ⟨obj, fl, st, 2, x, M.peek (addM x 1), y, y0, sy, found, head, told⟩ h9 pp k
  · simp only [CutS.step, go2] at k
    repeat (refine gO ?_; intros)
    refine viewLoad_ok hc hs0 pp pp hn ht fun H1 h1 => ?_
    refine Sc.mk rfl (stB h1 rfl rfl fun H2 h2 => stB h2 rfl rfl fun H3 h3 => ?_)
    exact cutTail ⟨obj, fl, st, 3, x, sx, y, y0, sy, found, head, M.peek x⟩ h3 pp k
  · simp only [CutS.step, go3] at k
    repeat (refine gO ?_; intros)
    refine viewLoad_ok hc hs0 pp pp hn ht fun H1 h1 => ?_
    repeat (refine gO ?_; intros)
    refine cutOn_ok hc ⟨obj, fl, st, 3, x, sx, M.peek (addM x 2), M.peek (addM x 2), sy, found, head, told⟩ (by assumption) pp fun H4 h4 => ?_
    exact cutTail _ h4 pp k
  · simp only [CutS.step, go4] at k
    repeat (refine gO ?_; intros)
    refine viewLoad_ok hc hs0 pp pp hn ht fun H1 h1 => ?_
    refine Sc.mk rfl (stB h1 rfl rfl fun H2 h2 => ?_)
    repeat (refine gO ?_; intros)
    refine needed_ok hc h2 (Has.skip (Has.skip (Has.skip hq))) hl fun H3 h3 => ?_
    repeat (refine gO ?_; intros)
    cases hnd : needed fl st (M.peek (addM y 1)) sx with
    | true =>
      simp only [hnd, if_true] at k
      refine Cd.t rfl ?_
      refine cutStay_ok hc ⟨obj, fl, st, 4, x, sx, y, y0, M.peek (addM y 1), found, head, told⟩ h3 pp fun H4 h4 => ?_
      exact cutTail _ h4 pp k
    | false =>
      simp only [hnd] at k
      refine Cd.f rfl (ld h3 rfl (AsNat.mk (stB h3 rfl rfl fun H4 h4 => stB h4 rfl rfl fun H5 h5 => ?_)))
      exact cutTail ⟨obj, fl, st, 5, x, sx, y, y0, M.peek (addM y 1), addM found 1, head, told⟩ h5 pp k
  · simp only [CutS.step, go5] at k
    repeat (refine gO ?_; intros)
    refine viewLoad_ok hc hs0 pp pp hn ht fun H1 h1 => ?_
    repeat (refine gO ?_; intros)
    refine cutOn_ok hc ⟨obj, fl, st, 5, x, sx, M.peek (addM y 2), y0, sy, found, head, told⟩ (by assumption) pp fun H4 h4 => ?_
    exact cutTail _ h4 pp k
  · simp only [CutS.step, go6] at k
    repeat (refine gO ?_; intros)
    refine viewStore_ok hc hs0 pp pp hn ht fun H1 h1 => ?_
    refine cutFurther_ok hc ⟨obj, fl, st, 6, x, sx, y, y0, sy, found, head, told⟩ h1 pp fun H4 h4 => ?_
    exact cutTail _ h4 pp k
end Go.Proofs.Ytlabejmlkhgeoaa

set_option linter.unusedVariables false
set_option linter.unusedSimpArgs false
namespace Go.Proofs.Ytlabejmlkhgeoaa
open Go Go.CM
attribute [local irreducible] AsBool AsWant AsNat AsInt AsCnt AsPtr AsSlc AsLen AsStr AsAgg AsTup AsFn AsIfc Nth Sc NotNil IsNil Must Cd codeW funW Sat SatL wrapN subM mkRow ltZ leZ ltN leN
variable {con : CallT}
theorem call_con {f : FuncId} {args : List Value} {H H1 : CH} {v : Value} {K : KP} (h : con f ⟨args⟩ H = some (v, H1)) (k : K v H1) : Call1 Try.prog con f args H K := ⟨⟨0, v, H1, h, k⟩⟩
theorem newCut_ok (hc : Con con lives) {L : List HP} {H : CH} {obj fl ca : Nat} {v : Value} {st : List Nat} {K : KP} (hs : Sat L H) (hq : Has L (Nums v st)) (hl : st.length ≤ 1000000000)
    (k : ∀ p v' H1, Sat (Own p (cutC ⟨obj, fl, st, 0, 0, 0, 0, 0, 0, 0, 0, 0⟩ v') :: Nums v' st :: L) H1 → K (ptr p 0) H1) : Call1 Try.prog con 22 [u64 ca, u64 obj, .agg ⟨[u64 fl, v]⟩] H K := by
  refine call_of (hc _ _ _ rfl) ?_
  rw [newCut_W]
  refine nw hs fun p1 H1 h1 => ?_
  repeat (refine gO ?_; intros)
  refine cloneN_ok hc h1 (Has.skip hq) hl fun v' H2 hv h2 => ?_
  refine Sc.mk rfl (Sc.mk hv ?_)
  refine nw h2 fun p H3 h3 => ?_
  repeat (refine gO ?_; intros)
  exact k p v' _ (h3.ent ee)
theorem cutCount_ok (hc : Con con lives) (s : CutS) {L : List HP} {H : CH} {p : Nat} {v : Value} {K : KP} (hs : Sat L H) [HasCell L p (cutC s v)] (k : K (u64 (if s.at_ = 7 then s.found else 0)) H) : Call1 Try.prog con 24 [ptr p 0] H K := by
  refine call_of (hc _ _ _ rfl) ?_
  rw [cutCount_W]
  repeat (refine gO ?_; intros)
  by_cases h : s.at_ = 7
  · refine Cd.f (by rw [eqZ_t h]; rfl) ?_
    rw [if_pos h] at k
    repeat (refine gO ?_; intros)
    exact k
  · refine Cd.t (by rw [eqZ_f h]; rfl) ?_
    rw [if_neg h] at k
    exact k
theorem cutHead_ok (hc : Con con lives) (s : CutS) {L : List HP} {H : CH} {p : Nat} {v : Value} {K : KP} (hs : Sat L H) [HasCell L p (cutC s v)] (k : K (u64 s.head) H) : Call1 Try.prog con 25 [ptr p 0] H K := by
  refine call_of (hc _ _ _ rfl) ?_
  rw [cutHead_W]
  repeat (refine gO ?_; intros)
  exact k
end Go.Proofs.Ytlabejmlkhgeoaa

set_option linter.unusedVariables false
set_option linter.unusedSimpArgs false
namespace Go.Proofs.Ytlabejmlkhgeoaa
open Go Go.CM
def sxv (st : List Nat) (i : Nat) : Nat := if st.getD i 0 = 0 then 18446744073709551615 else st.getD i 0
def kps (fl : Nat) (nd st : List Nat) (prev : Nat) : List Nat → List Nat
  | [] => []
  | k :: r => if needed fl nd (st.getD k 0) (sxv st prev) then k :: kps fl nd st k r else kps fl nd st prev r
def adr (n i : Nat) : Nat := if i < n then 1 + 3 * (n - 1 - i) else 0
theorem adr_lt {n i : Nat} (h : i < n) : adr n i = 1 + 3 * (n - 1 - i) := if_pos h
theorem adr_ge {n i : Nat} (h : n ≤ i) : adr n i = 0 := if_neg (by omega)
theorem adr_pos {n i : Nat} (h : i < n) : adr n i ≠ 0 := by rw [adr_lt h]; omega
theorem adr_le {n i : Nat} (hn : n ≤ 1000) : adr n i + 2 < 8192 := by
  unfold adr
  split <;> omega
structure RowV (M : Mem) (n : Nat) (st : List Nat) : Prop where
  len : M.cells.length = 8192
  val : ∀ i, i < n → M.peek (adr n i) = i + 1
  stp : ∀ i, i < n → M.peek (adr n i + 1) = st.getD i 0
theorem rowV_put {M : Mem} {n : Nat} {st : List Nat} (h : RowV M n st) {i x : Nat} (hi : i < n) : RowV (M.put (adr n i + 2) x) n st := by
  have pk : ∀ b, b ≠ adr n i + 2 → (M.put (adr n i + 2) x).peek b = M.peek b := fun b hb => by
    unfold Mem.peek Mem.put
    simp only [List.getD_eq_getElem?_getD]
    rw [List.getElem?_set_ne (fun e => hb e.symm)]
  refine ⟨by simp [Mem.put, h.len], fun k hk => ?_, fun k hk => ?_⟩
  · rw [pk _ (by rw [adr_lt hk, adr_lt hi]; omega)]; exact h.val k hk
  · rw [pk _ (by rw [adr_lt hk, adr_lt hi]; omega)]; exact h.stp k hk
theorem put_self {M : Mem} {a x : Nat} (h : a < M.cells.length) : (M.put a x).peek a = x := by
  unfold Mem.peek Mem.put
  simp only [List.getD_eq_getElem?_getD]
  rw [List.getElem?_set_self h]; rfl
theorem put_oth {M : Mem} {a x b : Nat} (h : b ≠ a) : (M.put a x).peek b = M.peek b := by
  unfold Mem.peek Mem.put
  simp only [List.getD_eq_getElem?_getD]
  rw [List.getElem?_set_ne (fun e => h e.symm)]
def Link (M : Mem) (n : Nat) : List Nat → Prop
  | [] => True
  | [_] => True
  | a :: b :: r => M.peek (adr n a + 2) = adr n b ∧ Link M n (b :: r)
theorem link_put {M : Mem} {n i x : Nat} (hi : i < n) : ∀ {l : List Nat}, Link M n (l ++ [i]) → (∀ k ∈ l, k < i) → Link (M.put (adr n i + 2) x) n (l ++ [i])
  | [], _, _ => trivial
  | [a], h, hl => by
    have ha := hl a (List.mem_cons_self ..)
    refine ⟨?_, trivial⟩
    rw [put_oth (by rw [adr_lt (show a < n by omega), adr_lt hi]; omega)]
    exact h.1
  | a :: b :: r, h, hl => by
    have ha := hl a (List.mem_cons_self ..)
    refine ⟨?_, link_put hi (l := b :: r) h.2 fun k hk => hl k (List.mem_cons_of_mem _ hk)⟩
    rw [put_oth (by rw [adr_lt (show a < n by omega), adr_lt hi]; omega)]
    exact h.1
theorem link_snoc {M : Mem} {n i j : Nat} (h0 : M.peek (adr n i + 2) = adr n j) : ∀ {l : List Nat}, Link M n (l ++ [i]) → Link M n (l ++ [i] ++ [j])
  | [], _ => ⟨h0, trivial⟩
  | [a], h => ⟨h.1, h0, trivial⟩
  | a :: b :: r, h => ⟨h.1, link_snoc h0 (l := b :: r) h.2⟩
abbrev todo (n j : Nat) : List Nat := List.range' j (n - j)
theorem todo_cons {n j : Nat} (h : j < n) : todo n j = j :: todo n (j + 1) := by
  unfold todo
  rw [show n - j = (n - (j + 1)) + 1 by omega, List.range'_succ]
theorem todo_nil {n j : Nat} (h : n ≤ j) : todo n j = [] := by
  unfold todo
  rw [show n - j = 0 by omega]; rfl
structure CutI (n : Nat) (fl : Nat) (nd st : List Nat) (KS : List Nat) (M : Mem) (s : CutS) (i j : Nat) (pre : List Nat) : Prop where
  row : RowV M n st
  ij : i < n
  ks : KS = pre ++ i :: kps fl nd st i (todo n j)
  lnk : Link M n (pre ++ [i])
  lt : ∀ k ∈ pre, k < i
  rest : ∀ k, i ≤ k → k < n → M.peek (adr n k + 2) = adr n (k + 1)
  obj : M.peek (1 + 3 * n) = adr n 0
  sfl : s.fl = fl
  snd : s.st = nd
  sob : s.obj = 1 + 3 * n
  sx : s.x = adr n i
  ssx : s.sx = sxv st i
  told : s.told = 1
  hd : s.at_ ≠ 7 → s.head = 0
structure CutE (n : Nat) (st : List Nat) (KS : List Nat) (M : Mem) (s : CutS) : Prop where
  row : RowV M n st
  lnk : Link M n KS
  lst : ∀ k, KS.getLast? = some k → M.peek (adr n k + 2) = 0
  obj : M.peek (1 + 3 * n) = adr n 0
  found : s.found + KS.length = n
  head : 0 < n → s.head = 1
  at_ : s.at_ = 7
inductive CutSt (n : Nat) (fl : Nat) (nd st : List Nat) (KS : List Nat) (M : Mem) (s : CutS) : Nat → Prop where
  | older (i : Nat) (pre : List Nat) : CutI n fl nd st KS M s i (i + 1) pre → s.at_ = 3 → s.found + pre.length + 1 = i + 1 → CutSt n fl nd st KS M s (4 * (n - i))
  | judge (i j : Nat) (pre : List Nat) : CutI n fl nd st KS M s i j pre → i < j → j < n → s.at_ = 4 → s.y = adr n j → s.y0 = adr n (i + 1) → s.found + pre.length + 1 = j → CutSt n fl nd st KS M s (4 * (n - j) + 3)
  | skip (i j : Nat) (pre : List Nat) : CutI n fl nd st KS M s i (j + 1) pre → i < j → j < n → s.at_ = 5 → s.y = adr n j → s.y0 = adr n (i + 1) → s.found + pre.length + 1 = j + 1 → CutSt n fl nd st KS M s (4 * (n - j) + 2)
  | link (i j : Nat) (pre : List Nat) : CutI n fl nd st KS M s i j pre → (j < n → kps fl nd st i (todo n j) = j :: kps fl nd st j (todo n (j + 1)) ∧ s.sy = st.getD j 0) → i < j → j ≤ n → s.at_ = 6 → s.y = adr n j → s.found + pre.length + 1 = j → CutSt n fl nd st KS M s (4 * (n - j) + 1)
end Go.Proofs.Ytlabejmlkhgeoaa

set_option linter.unusedVariables false
set_option linter.unusedSimpArgs false
namespace Go.Proofs.Ytlabejmlkhgeoaa
open Go Go.CM
theorem adr_inj {n i j : Nat} (hi : i < n) (hj : j < n) (h : adr n i = adr n j) : i = j := by
  rw [adr_lt hi, adr_lt hj] at h; omega
theorem addM_adr {n i k : Nat} (hn : n ≤ 1000) (hk : k ≤ 2) : addM (adr n i) k = adr n i + k := Nat.mod_eq_of_lt (by
  have := adr_le (n := n) (i := i) hn
  show adr n i + k < _
  omega)
theorem cut_load {n fl : Nat} {nd st KS : List Nat} {M : Mem} {s s' : CutS} {i j : Nat} {pre : List Nat} (I : CutI n fl nd st KS M s i j pre) (th : Int) (a : Nat) (h : s'.fl = s.fl ∧ s'.st = s.st ∧ s'.obj = s.obj ∧ s'.x = s.x ∧ s'.sx = s.sx ∧ s'.told = s.told ∧ s'.head = s.head) (h7 : s'.at_ ≠ 7) (h8 : s.at_ ≠ 7) : CutI n fl nd st KS (M.load th a) s' i j pre := by
  obtain ⟨h1, h2, h3, h4, h5, h6, h9⟩ := h
  exact ⟨⟨I.row.len, I.row.val, I.row.stp⟩, I.ij, I.ks, by
    have := I.lnk
    have e : ∀ l, Link (M.load th a) n l = Link M n l := fun l => by
      induction l with
      | nil => rfl
      | cons x r ih =>
        cases r with
        | nil => rfl
        | cons y r => show (_ ∧ _) = (_ ∧ _); rw [ih]; rfl
    rw [e]; exact this, I.lt, I.rest, I.obj, h1.trans I.sfl, h2.trans I.snd, h3.trans I.sob, h4.trans I.sx, h5.trans I.ssx, h6.trans I.told, fun _ => h9.trans (I.hd h8)⟩
theorem cutI_j {n fl : Nat} {nd st KS : List Nat} {M : Mem} {s : CutS} {i j j' : Nat} {pre : List Nat} (I : CutI n fl nd st KS M s i j pre) (h : kps fl nd st i (todo n j) = kps fl nd st i (todo n j')) : CutI n fl nd st KS M s i j' pre :=
  ⟨I.row, I.ij, I.ks.trans (by rw [h]), I.lnk, I.lt, I.rest, I.obj, I.sfl, I.snd, I.sob, I.sx, I.ssx, I.told, I.hd⟩
theorem cut_next {n fl : Nat} {nd st KS : List Nat} (hn : n ≤ 1000) (hz : ∀ j, 0 < j → j < n → st.getD j 0 ≠ 0) {M : Mem} {s : CutS} {μ : Nat} (h : CutSt n fl nd st KS M s μ) (th : Int) :
    (∃ μ', μ' < μ ∧ CutSt n fl nd st KS (s.step M th).2 (s.step M th).1 μ' ∧ (s.step M th).1.at_ ≠ 7) ∨ CutE n st KS (s.step M th).2 (s.step M th).1 := by
  have sxz : ∀ j, 0 < j → j < n → sxv st j = st.getD j 0 := fun j h1 h2 => if_neg (hz j h1 h2)
  cases h with
  | older i pre I hat hf =>
    have hx := I.sx
    have hpk : M.peek (addM s.x 2) = adr n (i + 1) := by rw [hx, addM_adr hn (by omega)]; exact I.rest i (Nat.le_refl _) I.ij
    have hgo : s.go M th = (({ s with y0 := adr n (i + 1), y := adr n (i + 1) } : CutS).on, M.load th (addM s.x 2)) := by
      unfold CutS.go
      rw [if_neg (by omega), if_neg (by omega), if_neg (by omega), if_pos hat, hpk]
    have hst : s.step M th = ((({ s with y0 := adr n (i + 1), y := adr n (i + 1) } : CutS).on).fin, M.load th (addM s.x 2)) := by unfold CutS.step; rw [hgo]
    rw [hst]
    by_cases hl : i + 1 < n
    · have e : (({ s with y0 := adr n (i + 1), y := adr n (i + 1) } : CutS).on).fin = { s with y0 := adr n (i + 1), y := adr n (i + 1), at_ := 4 } := by
        unfold CutS.on
        simp only [if_neg (adr_pos hl)]
        unfold CutS.fin
        rw [if_neg (by show ¬ (4 = 7); omega)]
      rw [e]
      exact .inl ⟨4 * (n - (i + 1)) + 3, by omega, .judge i (i + 1) pre (cut_load I th _ ⟨rfl, rfl, rfl, rfl, rfl, rfl, rfl⟩ (by show 4 ≠ 7; omega) (by omega)) (by omega) hl rfl rfl rfl hf, by show 4 ≠ 7; omega⟩
    · have hin : i + 1 = n := by have := I.ij; omega
      have h0 : adr n (i + 1) = 0 := adr_ge (by omega)
      have e : (({ s with y0 := adr n (i + 1), y := adr n (i + 1) } : CutS).on).fin = { s with y0 := 0, y := 0, at_ := 7, head := s.told } := by
        rw [h0]
        unfold CutS.on
        simp only [if_true]
        unfold CutS.stay
        simp only [if_true]
        unfold CutS.further
        simp only [if_true]
        unfold CutS.fin
        rfl
      rw [e]
      have hks : KS = pre ++ [i] := by rw [I.ks, todo_nil (by omega)]; rfl
      refine .inr ⟨⟨I.row.len, I.row.val, I.row.stp⟩, ?_, fun k hk => ?_, I.obj, ?_, fun _ => I.told, rfl⟩
      · rw [hks]
        exact (cut_load (s' := s) I th (addM s.x 2) ⟨rfl, rfl, rfl, rfl, rfl, rfl, rfl⟩ (by omega) (by omega)).lnk
      · rw [hks, List.getLast?_append] at hk
        simp at hk
        subst hk
        have := I.rest i (Nat.le_refl _) I.ij
        rw [h0] at this
        exact this
      · rw [hks]
        show s.found + (pre ++ [i]).length = n
        simp; omega
  | judge i j pre I hij hj hat hy hy0 hf =>
    have hpk : M.peek (addM s.y 1) = st.getD j 0 := by rw [hy, addM_adr hn (by omega)]; exact I.row.stp j hj
    have hkc : kps fl nd st i (todo n j) = if needed fl nd (st.getD j 0) (sxv st i) then j :: kps fl nd st j (todo n (j + 1)) else kps fl nd st i (todo n (j + 1)) := by rw [todo_cons hj]; rfl
    have hgo : s.go M th = (if needed fl nd (st.getD j 0) (sxv st i) then ({ s with sy := st.getD j 0 } : CutS).stay else { s with sy := st.getD j 0, found := addM s.found 1, at_ := 5 }, M.load th (addM s.y 1)) := by
      unfold CutS.go
      rw [if_neg (by omega), if_neg (by omega), if_neg (by omega), if_neg (by omega), if_pos hat, hpk, I.sfl, I.snd, I.ssx]
    have hst : s.step M th = ((if needed fl nd (st.getD j 0) (sxv st i) then ({ s with sy := st.getD j 0 } : CutS).stay else { s with sy := st.getD j 0, found := addM s.found 1, at_ := 5 }).fin, M.load th (addM s.y 1)) := by unfold CutS.step; rw [hgo]
    rw [hst]
    cases hnd : needed fl nd (st.getD j 0) (sxv st i) with
    | false =>
      rw [hnd] at hkc
      simp only [Bool.false_eq_true, if_false] at hkc ⊢
      have e : CutS.fin { s with sy := st.getD j 0, found := addM s.found 1, at_ := 5 } = { s with sy := st.getD j 0, found := addM s.found 1, at_ := 5 } := by
        unfold CutS.fin
        rw [if_neg (by show ¬ (5 = 7); omega)]
      rw [e]
      have hfd : addM s.found 1 = s.found + 1 := Nat.mod_eq_of_lt (by show s.found + 1 < _; omega)
      refine .inl ⟨4 * (n - j) + 2, by omega, .skip i j pre (cutI_j (cut_load I th _ ⟨rfl, rfl, rfl, rfl, rfl, rfl, rfl⟩ (by show 5 ≠ 7; omega) (by omega)) hkc) hij hj rfl hy hy0 ?_, by show 5 ≠ 7; omega⟩
      show addM s.found 1 + pre.length + 1 = j + 1
      rw [hfd]; omega
    | true =>
      rw [hnd] at hkc
      simp only [if_true] at hkc ⊢
      have hks : KS = (pre ++ [i]) ++ j :: kps fl nd st j (todo n (j + 1)) := by rw [I.ks, hkc]; simp
      by_cases hyy : s.y = s.y0
      · have hji : j = i + 1 := by
          rw [hy, hy0] at hyy
          by_cases hl : i + 1 < n
          · exact adr_inj hj hl hyy
          · rw [adr_ge (show n ≤ i + 1 by omega)] at hyy
            exact absurd hyy (adr_pos hj)
        have e : (({ s with sy := st.getD j 0 } : CutS).stay).fin = { s with sy := st.getD j 0, x := s.y, sx := st.getD j 0, at_ := 3 } := by
          unfold CutS.stay
          simp only [if_pos hyy]
          unfold CutS.further
          simp only [if_neg (show ¬ s.y = 0 by rw [hy]; exact adr_pos hj)]
          unfold CutS.fin
          rw [if_neg (by show ¬ (3 = 7); omega)]
        rw [e]
        have J := cut_load (s' := s) I th (addM s.y 1) ⟨rfl, rfl, rfl, rfl, rfl, rfl, rfl⟩ (by omega) (by omega)
        refine .inl ⟨4 * (n - j), by omega, .older j (pre ++ [i]) ⟨J.row, hj, hks, link_snoc (by rw [J.rest i (Nat.le_refl _) I.ij, hji]) J.lnk, fun k hk => ?_, fun k h1 h2 => J.rest k (by omega) h2, J.obj, I.sfl, I.snd, I.sob, hy, (sxz j (by omega) hj).symm, I.told, fun _ => I.hd (by omega)⟩ rfl ?_, by show 3 ≠ 7; omega⟩
        · rcases List.mem_append.1 hk with hk | hk
          · have := I.lt k hk; omega
          · rw [List.mem_singleton.1 hk]; exact hij
        · show s.found + (pre ++ [i]).length + 1 = j + 1
          simp; omega
      · have e : (({ s with sy := st.getD j 0 } : CutS).stay).fin = { s with sy := st.getD j 0, at_ := 6 } := by
          unfold CutS.stay
          simp only [if_neg hyy]
          unfold CutS.fin
          rw [if_neg (by show ¬ (6 = 7); omega)]
        rw [e]
        exact .inl ⟨4 * (n - j) + 1, by omega, .link i j pre (cut_load I th _ ⟨rfl, rfl, rfl, rfl, rfl, rfl, rfl⟩ (by show 6 ≠ 7; omega) (by omega)) (fun _ => ⟨hkc, rfl⟩) hij (by omega) rfl hy hf, by show 6 ≠ 7; omega⟩
  | skip i j pre I hij hj hat hy hy0 hf =>
    have hpk : M.peek (addM s.y 2) = adr n (j + 1) := by rw [hy, addM_adr hn (by omega)]; exact I.rest j (by omega) hj
    have hst : s.step M th = ((({ s with y := adr n (j + 1) } : CutS).on).fin, M.load th (addM s.y 2)) := by
      unfold CutS.step CutS.go
      rw [if_neg (by omega), if_neg (by omega), if_neg (by omega), if_neg (by omega), if_neg (by omega), if_pos hat, hpk]
    rw [hst]
    by_cases hl : j + 1 < n
    · have e : (({ s with y := adr n (j + 1) } : CutS).on).fin = { s with y := adr n (j + 1), at_ := 4 } := by
        unfold CutS.on
        simp only [if_neg (adr_pos hl)]
        unfold CutS.fin
        rw [if_neg (by show ¬ (4 = 7); omega)]
      rw [e]
      exact .inl ⟨4 * (n - (j + 1)) + 3, by omega, .judge i (j + 1) pre (cut_load I th _ ⟨rfl, rfl, rfl, rfl, rfl, rfl, rfl⟩ (by show 4 ≠ 7; omega) (by omega)) (by omega) hl rfl rfl hy0 hf, by show 4 ≠ 7; omega⟩
    · have hjn : j + 1 = n := by omega
      have h0 : adr n (j + 1) = 0 := adr_ge (by omega)
      have hne : ¬ (0 = s.y0) := by rw [hy0]; exact fun q => adr_pos (show i + 1 < n by omega) q.symm
      have e : (({ s with y := adr n (j + 1) } : CutS).on).fin = { s with y := 0, at_ := 6 } := by
        rw [h0]
        unfold CutS.on
        simp only [if_true]
        unfold CutS.stay
        simp only [if_neg hne]
        unfold CutS.fin
        rw [if_neg (by show ¬ (6 = 7); omega)]
      rw [e]
      refine .inl ⟨4 * (n - (j + 1)) + 1, by omega, .link i (j + 1) pre (cut_load I th _ ⟨rfl, rfl, rfl, rfl, rfl, rfl, rfl⟩ (by show 6 ≠ 7; omega) (by omega)) (fun q => by omega) (by omega) (by omega) rfl h0.symm hf, by show 6 ≠ 7; omega⟩
  | link i j pre I hkc hij hj hat hy hf =>
    have hadr : addM s.x 2 = adr n i + 2 := by rw [I.sx, addM_adr hn (by omega)]
    have hal : adr n i + 2 < M.cells.length := by rw [I.row.len]; exact adr_le hn
    have hst : s.step M th = ((s.further).fin, M.store th (adr n i + 2) (adr n j)) := by
      unfold CutS.step CutS.go
      rw [if_neg (by omega), if_neg (by omega), if_neg (by omega), if_neg (by omega), if_neg (by omega), if_neg (by omega), hadr, hy]
    rw [hst]
    have R := rowV_put I.row (x := adr n j) I.ij
    have L := link_put (x := adr n j) I.ij I.lnk I.lt
    have P1 : (M.put (adr n i + 2) (adr n j)).peek (adr n i + 2) = adr n j := put_self hal
    have O : (M.put (adr n i + 2) (adr n j)).peek (1 + 3 * n) = adr n 0 := by
      rw [put_oth (by rw [adr_lt I.ij]; have := I.ij; omega)]; exact I.obj
    have nt : ∀ (M1 : Mem) (c : Acs) l, Link (M1.note c) n l = Link M1 n l := fun M1 c l => by
      induction l with
      | nil => rfl
      | cons x r ih =>
        cases r with
        | nil => rfl
        | cons y r => show (_ ∧ _) = (_ ∧ _); rw [ih]; rfl
    by_cases hl : j < n
    · obtain ⟨k1, k2⟩ := hkc hl
      have hks : KS = (pre ++ [i]) ++ j :: kps fl nd st j (todo n (j + 1)) := by rw [I.ks, k1]; simp
      have e : (s.further).fin = { s with x := s.y, sx := s.sy, at_ := 3 } := by
        unfold CutS.further
        rw [if_neg (show ¬ s.y = 0 by rw [hy]; exact adr_pos hl)]
        unfold CutS.fin
        rw [if_neg (by show ¬ (3 = 7); omega)]
      rw [e]
      refine .inl ⟨4 * (n - j), by omega, .older j (pre ++ [i]) ⟨⟨R.len, R.val, R.stp⟩, hl, hks, ?_, fun k hk => ?_, fun k h1 h2 => ?_, O, I.sfl, I.snd, I.sob, hy, ?_, I.told, fun _ => I.hd (by omega)⟩ rfl ?_, by show 3 ≠ 7; omega⟩
      · show Link ((M.put (adr n i + 2) (adr n j)).note _) n _
        rw [nt]
        exact link_snoc P1 L
      · rcases List.mem_append.1 hk with hk | hk
        · have := I.lt k hk; omega
        · rw [List.mem_singleton.1 hk]; exact hij
      · show (M.put (adr n i + 2) (adr n j)).peek (adr n k + 2) = _
        rw [put_oth (by rw [adr_lt I.ij, adr_lt h2]; omega)]
        exact I.rest k (by omega) h2
      · show s.sy = _
        rw [k2, sxz j (by omega) hl]
      · show s.found + (pre ++ [i]).length + 1 = j + 1
        simp; omega
    · have hjn : j = n := by omega
      have h0 : adr n j = 0 := adr_ge (by omega)
      have e : (s.further).fin = { s with at_ := 7, head := s.told } := by
        unfold CutS.further
        rw [if_pos (show s.y = 0 by rw [hy]; exact h0)]
        unfold CutS.fin
        rfl
      rw [e]
      have hks : KS = pre ++ [i] := by rw [I.ks, todo_nil (by omega)]; rfl
      refine .inr ⟨⟨R.len, R.val, R.stp⟩, ?_, fun k hk => ?_, O, ?_, fun _ => I.told, rfl⟩
      · rw [hks]
        show Link ((M.put (adr n i + 2) (adr n j)).note _) n _
        rw [nt]
        exact L
      · rw [hks, List.getLast?_append] at hk
        simp at hk
        subst hk
        show (M.put (adr n i + 2) (adr n j)).peek (adr n i + 2) = 0
        rw [P1, h0]
      · rw [hks]
        show s.found + (pre ++ [i]).length = n
        simp; omega
end Go.Proofs.Ytlabejmlkhgeoaa

set_option linter.unusedVariables false
set_option linter.unusedSimpArgs false
namespace Go.Proofs.Ytlabejmlkhgeoaa
open Go Go.CM
abbrev tV : Nat := 55
abbrev tVS : Nat := 48
theorem el_ver : elemOk Try.prog tVS tV 2 16 = true := by kernel_rfl
theorem sl_ver : ∃ e, Try.prog.underlying tVS = some (.slice e) := ⟨tV, by kernel_rfl⟩
theorem eqInt' (a b : Nat) : (Int.ofNat a == Int.ofNat b) = eqN a b := by
  by_cases h : a = b
  · subst h; rw [eqN_t rfl]; simp
  · rw [eqN_f h]; simp; omega
theorem ver_guard : Try.prog.eqGuardType Try.prog.depth tV = false := by kernel_rfl
theorem ver_eq (H : CH) (a0 a1 b0 b1 : Nat) : ceq Try.prog H 10000 tV (.agg ⟨[u64 a0, u64 a1]⟩) (.agg ⟨[u64 b0, u64 b1]⟩) = some (eqN a0 b0 && (eqN a1 b1 && true)) := by
  have e : ceq Try.prog H 10000 tV (.agg ⟨[u64 a0, u64 a1]⟩) (.agg ⟨[u64 b0, u64 b1]⟩) = brk (Int.ofNat a0 == Int.ofNat b0) (brk (Int.ofNat a1 == Int.ofNat b1) (some true)) := by kernel_rfl
  rw [e, eqInt', eqInt', brk_eq, brk_eq]
attribute [local irreducible] AsBool AsWant AsNat AsInt AsCnt AsPtr AsSlc AsLen AsStr AsAgg AsTup AsFn AsIfc Nth Sc NotNil IsNil Must Cd codeW funW Sat SatL wrapN subM mkRow ltZ leZ ltN leN
variable {con : CallT}
def chainP (n : Nat) (KS : List Nat) (i : Nat) : Nat := match KS[i]? with | some k => adr n k | none => 0
structure Chain (M : Mem) (n : Nat) (st KS : List Nat) : Prop where
  row : RowV M n st
  lnk : Link M n KS
  lst : ∀ k, KS.getLast? = some k → M.peek (adr n k + 2) = 0
  lt : ∀ k ∈ KS, k < n
  len : KS.length ≤ n
theorem link_get {M : Mem} {n : Nat} : ∀ {l : List Nat} {i a b : Nat}, Link M n l → l[i]? = some a → l[i + 1]? = some b → M.peek (adr n a + 2) = adr n b
  | [], _, _, _, _, h, _ => by simp at h
  | [x], i, _, _, _, _, h => by simp at h
  | x :: y :: r, 0, a, b, hl, h1, h2 => by
    simp at h1 h2
    subst h1 h2
    exact hl.1
  | x :: y :: r, i + 1, a, b, hl, h1, h2 => link_get (l := y :: r) hl.2 (by simpa using h1) (by simpa using h2)
theorem chain_next {M : Mem} {n : Nat} {st KS : List Nat} (C : Chain M n st KS) {i k : Nat} (h : KS[i]? = some k) : M.peek (adr n k + 2) = chainP n KS (i + 1) := by
  unfold chainP
  cases e : KS[i + 1]? with
  | some b => exact link_get C.lnk h e
  | none =>
    refine C.lst k ?_
    have h1 := (List.getElem?_eq_some_iff.1 h).1
    have h2 := List.getElem?_eq_none_iff.1 e
    rw [List.getLast?_eq_getElem?, show KS.length - 1 = i from by omega]
    exact h
abbrev vrow (st : List Nat) (k : Nat) : List Value := [u64 (k + 1), u64 (st.getD k 0)]
theorem memCells_ok (hc : Con con lives) {L R : List HP} {H : CH} {m : Nat} {M : Mem} {K : KP} (hs : Sat L H) (hp : Pull L (MemP m M) R) (k : K (iN M.cells.length) H) : Call1 Try.prog con 39 [ptr m 0] H K := by
  refine call_of (hc _ _ _ rfl) ?_
  rw [memCells_W]
  obtain ⟨h1, h2, s1, s2, d, ⟨bp, bl, tr, ⟨hn, hf⟩, hin⟩, hR⟩ := hs.opens hp
  have hs1 := Sat.merge s1 s2 d hin hR
  simp only [List.cons_append, List.nil_append] at hs1
  repeat (refine gO ?_; intros)
  refine Mth.of (f := 91) (rc := ptr bp 0) (by kernel_rfl) (by kernel_rfl) ?_
  exact plainSize_ok hc hs1 k
theorem versions_ok (hc : Con con lives) {L R : List HP} {H : CH} {m a n : Nat} {M : Mem} {st KS : List Nat} {K : KP} (hs : Sat L H) (hm : Pull L (MemP m M) R) (C : Chain M n st KS) (ha : M.peek a = chainP n KS 0) (hn : n ≤ 1000)
    (k : ∀ w H1, Sat (Vec w tV 2 (KS.map (vrow st)) :: L) H1 → K w H1) : Call1 Try.prog con 21 [ptr m 0, u64 a] H K := by
  refine call_of (hc _ _ _ rfl) ?_
  rw [vcasVersions_W]
  refine memCells_ok hc hs hm ?_
  repeat (refine gO ?_; intros)
  rw [C.row.len]
  refine Must.mk (cv_small (by omega)) ?_
  rw [wrapN_small (by omega)]
  refine memPeek_ok hc hs hm ?_
  rw [ha]
  refine LoopC.ind (n := 100) (by kernel_rfl)
    (fun (i : Nat) σ1 H1 => i ≤ KS.length ∧ ∃ w, σ1 5 = w ∧ σ1 0 = ptr m 0 ∧ σ1 6 = u64 8192 ∧ σ1 7 = u64 (chainP n KS i) ∧ Sat (Vec w tV 2 ((KS.take i).map (vrow st)) :: L) H1)
    (fun i => KS.length - i) (fun i σ1 H1 hI => ?_) 0 _ _ ⟨Nat.zero_le _, snil, rfl, rfl, rfl, rfl, hs.nilV (e := tV) (s := 2)⟩
  obtain ⟨hi, w, a5, a0, a6, a7, hs1⟩ := hI
  rw [vcasVersionsL_W]
  simp only [a5, a0, a6, a7]
  obtain ⟨pw, ew⟩ := (hs1.has Has.vec).shape
  have hlw : ((KS.take i).map (vrow st)).length = i := by simp; omega
  rw [hlw] at ew
  by_cases h : i < KS.length
  · obtain ⟨kk, ek⟩ : ∃ kk, KS[i]? = some kk := ⟨_, List.getElem?_eq_getElem h⟩
    have hkn := C.lt kk (List.mem_of_getElem? ek)
    have ep : chainP n KS i = adr n kk := by unfold chainP; rw [ek]
    have hp := adr_pos hkn
    have hle := adr_le (n := n) (i := kk) hn
    have e1 : Nat.mod (Nat.add (adr n kk) 1) 18446744073709551616 = adr n kk + 1 := addM_adr (k := 1) hn (by omega)
    have e2 : Nat.mod (Nat.add (adr n kk) 2) 18446744073709551616 = adr n kk + 2 := addM_adr (k := 2) hn (by omega)
    rw [ep]
    repeat (refine gO ?_; intros)
    refine Cd.t (by rw [eqN_f hp]; rfl) ?_
    repeat (refine gO ?_; intros)
    refine Cd.t (ltN_t (by omega)) ?_
    repeat (refine gO ?_; intros)
    refine Cd.t (by rw [subM_small (by omega) (by omega)]; exact ltN_t (by omega)) ?_
    refine AsLen.eq ew ?_
    refine memCells_ok hc hs1 (.there hm) ?_
    repeat (refine gO ?_; intros)
    rw [C.row.len]
    refine Cd.t (ltZ_t (by have := C.len; omega)) ?_
    refine memPeek_ok hc hs1 (.there hm) ?_
    repeat (refine gO ?_; intros)
    rw [e1]
    refine memPeek_ok hc hs1 (.there hm) ?_
    rw [C.row.val kk hkn, C.row.stp kk hkn]
    repeat (refine gO ?_; intros)
    rename_i p16 H17 h17
    refine app_vec (new := [vrow st kk]) h17 pp el_ver (by omega) sl_ver (Src.cell (n := 2) (by rfl)) rfl (by simp) (by simp; have := C.len; omega) rfl fun w' H28 h28 => ?_
    repeat (refine gO ?_; intros)
    rw [e2]
    have h29 : Sat (Vec w' tV 2 ((KS.take (i + 1)).map (vrow st)) :: L) H28 := by
      have e3 : (KS.take i).map (vrow st) ++ [vrow st kk] = (KS.take (i + 1)).map (vrow st) := by rw [List.take_add_one, ek]; simp
      rw [← e3]
      exact h28.ent ee
    refine memPeek_ok hc h29 (.there hm) ?_
    rw [chain_next C ek]
    show ∃ y, _ ∧ _
    exact ⟨i + 1, by omega, h, w', rfl, a0, a6, rfl, h29⟩
  · obtain rfl : i = KS.length := by omega
    have ep : chainP n KS KS.length = 0 := by unfold chainP; rw [List.getElem?_eq_none (Nat.le_refl _)]
    rw [ep]
    repeat (refine gO ?_; intros)
    show K (σ1 5) H1
    rw [a5]
    rw [List.take_length] at hs1
    exact k w H1 hs1
def Falls (st : List Nat) : Prop := ∀ i, 0 < i → i < st.length → st.getD i 0 ≠ 0 ∧ (st.getD (i - 1) 0 ≠ 0 → st.getD i 0 ≤ st.getD (i - 1) 0)
theorem falling_ok (hc : Con con lives) {L : List HP} {H : CH} {v : Value} {st : List Nat} {K : KP} (hs : Sat L H) (hq : Has L (Nums v st)) (hl : st.length ≤ 1048576)
    (k0 : K (.bool false) H) (k1 : Falls st → K (.bool true) H) : Call1 Try.prog con 19 [v] H K := by
  refine call_of (hc _ _ _ rfl) ?_
  rw [law15Falling_W]
  obtain ⟨pv, cv, ev⟩ := (hs.has hq).len
  refine LoopC.ind (n := 100) (by kernel_rfl)
    (fun (i : Nat) σ1 H1 => 0 < i ∧ (∀ j, 0 < j → j < i → j < st.length → st.getD j 0 ≠ 0 ∧ (st.getD (j - 1) 0 ≠ 0 → st.getD j 0 ≤ st.getD (j - 1) 0)) ∧ σ1 0 = v ∧ σ1 3 = iN i ∧ H1 = H)
    (fun i => st.length - i) (fun i σ1 H1 hI => ?_) 1 _ _ ⟨Nat.one_pos, fun j h1 h2 => by omega, rfl, rfl, rfl⟩
  obtain ⟨h0, hx, a0, a3, rfl⟩ := hI
  rw [law15FallingL_W]
  simp only [a3]
  refine AsLen.eq (a0.trans ev) ?_
  repeat (refine gO ?_; intros)
  by_cases h : i < st.length
  · refine Cd.t (ltZ_t h) ?_
    rcases (hs.has hq).shape with ⟨h3, h4⟩ | ⟨b', o, c', h3⟩
    · rw [h4] at h; simp at h
    refine AsSlc.eq (a0.trans h3) ?_
    repeat (refine gO ?_; intros)
    refine Must.mk (ltN_t h) ?_
    refine ldSrc hs (hq.src h3) (by rw [show Nat.mul i 1 = i from Nat.mul_one i]; rfl) (map_get _ h) ?_
    repeat (refine gO ?_; intros)
    by_cases g : st.getD i 0 = 0
    · refine Cd.t (eqN_t g) ?_
      exact k0
    · refine Cd.f (eqN_f g) ?_
      repeat (refine gO ?_; intros)
      rw [subInt (by omega : 1 ≤ i)]
      refine inR_nat (by omega) ?_
      refine AsSlc.eq (a0.trans h3) ?_
      repeat (refine gO ?_; intros)
      refine Must.mk (ltN_t (by omega)) ?_
      refine ldSrc hs (hq.src h3) (by rw [show Nat.mul (i - 1) 1 = i - 1 from Nat.mul_one _]; rfl) (map_get _ (by omega)) ?_
      repeat (refine gO ?_; intros)
      by_cases g1 : st.getD (i - 1) 0 = 0
      · refine Cd.f (by rw [eqN_t g1]; rfl) ?_
        repeat (refine gO ?_; intros)
        rw [show Int.add (Int.ofNat i) (Int.ofNat 1) = Int.ofNat (i + 1) from addInt _ _]
        refine inR_nat (by omega) ?_
        show ∃ y, _ ∧ _
        refine ⟨i + 1, by omega, by omega, fun j h1 h2 h5 => ?_, a0, rfl, rfl⟩
        rcases Nat.lt_or_ge j i with q | q
        · exact hx j h1 q h5
        · obtain rfl : j = i := by omega
          exact ⟨g, fun q => absurd g1 q⟩
      · refine Cd.t (by rw [eqN_f g1]; rfl) ?_
        refine AsSlc.eq (a0.trans h3) ?_
        repeat (refine gO ?_; intros)
        refine Must.mk (ltN_t h) ?_
        refine ldSrc hs (hq.src h3) (by rw [show Nat.mul i 1 = i from Nat.mul_one i]; rfl) (map_get _ h) ?_
        repeat (refine gO ?_; intros)
        rw [subInt (by omega : 1 ≤ i)]
        refine inR_nat (by omega) ?_
        refine AsSlc.eq (a0.trans h3) ?_
        repeat (refine gO ?_; intros)
        refine Must.mk (ltN_t (by omega)) ?_
        refine ldSrc hs (hq.src h3) (by rw [show Nat.mul (i - 1) 1 = i - 1 from Nat.mul_one _]; rfl) (map_get _ (by omega)) ?_
        repeat (refine gO ?_; intros)
        by_cases g2 : st.getD (i - 1) 0 < st.getD i 0
        · refine Cd.t (ltN_t g2) ?_
          exact k0
        · refine Cd.f (ltN_f (by omega)) ?_
          repeat (refine gO ?_; intros)
          rw [show Int.add (Int.ofNat i) (Int.ofNat 1) = Int.ofNat (i + 1) from addInt _ _]
          refine inR_nat (by omega) ?_
          show ∃ y, _ ∧ _
          refine ⟨i + 1, by omega, by omega, fun j h1 h2 h5 => ?_, a0, rfl, rfl⟩
          rcases Nat.lt_or_ge j i with q | q
          · exact hx j h1 q h5
          · obtain rfl : j = i := by omega
            exact ⟨g, fun q => by omega⟩
  · refine Cd.f (ltZ_f (by omega)) ?_
    show Cd _ _ _
    refine Cd.t rfl ?_
    exact k1 fun j h1 h2 => hx j h1 (by omega) h2
end Go.Proofs.Ytlabejmlkhgeoaa

set_option linter.unusedVariables false
set_option linter.unusedSimpArgs false
namespace Go.Proofs.Ytlabejmlkhgeoaa
open Go Go.CM
structure RowP (M : Mem) (n : Nat) (st : List Nat) (j : Nat) : Prop where
  len : M.cells.length = 8192
  free : M.free = 1 + 3 * j
  val : ∀ i, n - j ≤ i → i < n → M.peek (adr n i) = i + 1
  stp : ∀ i, n - j ≤ i → i < n → M.peek (adr n i + 1) = st.getD i 0
  nxt : ∀ i, n - j ≤ i → i < n → M.peek (adr n i + 2) = adr n (i + 1)
theorem peek_alloc3 {M : Mem} {th : Int} {a b c : Nat} (h : M.free + 3 ≤ M.cells.length) (x : Nat) : (M.alloc th [a, b, c]).peek x = (((M.put M.free a).put (M.free + 1) b).put (M.free + 2) c).peek x := by
  rw [alloc_t (by show 0 < 3; omega) (by show 3 ≤ _; omega)]; rfl
theorem rowP_step {M : Mem} {n j : Nat} {st : List Nat} (h : RowP M n st j) (hn : n ≤ 1000) (hj : j < n) (th : Int) : RowP (M.alloc th [n - 1 - j + 1, st.getD (n - 1 - j) 0, adr n (n - j)]) n st (j + 1) ∧ M.room [n - 1 - j + 1, st.getD (n - 1 - j) 0, adr n (n - j)] = adr n (n - 1 - j) := by
  have hfr := h.free
  have hl := h.len
  have hroom : M.free + 3 ≤ M.cells.length := by omega
  have ha : M.free = adr n (n - 1 - j) := by rw [adr_lt (by omega), hfr]; omega
  have hlen : ∀ a x (M : Mem), (M.put a x).cells.length = M.cells.length := fun a x M => put_len M a x
  refine ⟨⟨?_, ?_, fun i h1 h2 => ?_, fun i h1 h2 => ?_, fun i h1 h2 => ?_⟩, ?_⟩
  · rw [alloc_t (by show 0 < 3; omega) (by show 3 ≤ _; omega)]
    show (ovN _ M.cells M.free).length = _
    rw [ovN_len]; exact hl
  · rw [alloc_t (by show 0 < 3; omega) (by show 3 ≤ _; omega)]
    show M.free + 3 = _
    omega
  · rw [peek_alloc3 hroom]
    by_cases e : i = n - 1 - j
    · subst e
      rw [put_oth (by omega), put_oth (by omega), ← ha, put_self (by omega)]
    · have e2 : adr n i = 1 + 3 * (n - 1 - i) := adr_lt h2
      rw [put_oth (by omega), put_oth (by omega), put_oth (by omega)]
      exact h.val i (by omega) h2
  · rw [peek_alloc3 hroom]
    by_cases e : i = n - 1 - j
    · subst e
      rw [put_oth (by omega), ← ha, put_self (by rw [hlen]; omega)]
    · have e2 : adr n i = 1 + 3 * (n - 1 - i) := adr_lt h2
      rw [put_oth (by omega), put_oth (by omega), put_oth (by omega)]
      exact h.stp i (by omega) h2
  · rw [peek_alloc3 hroom]
    by_cases e : i = n - 1 - j
    · subst e
      rw [← ha, put_self (by rw [hlen, hlen]; omega), show n - 1 - j + 1 = n - j from by omega]
    · have e2 : adr n i = 1 + 3 * (n - 1 - i) := adr_lt h2
      rw [put_oth (by omega), put_oth (by omega), put_oth (by omega)]
      exact h.nxt i (by omega) h2
  · rw [room_t (by show 0 < 3; omega) (by show 3 ≤ _; omega)]
    exact ha
structure RowD (M : Mem) (n : Nat) (st : List Nat) : Prop where
  row : RowV M n st
  rest : ∀ k, k < n → M.peek (adr n k + 2) = adr n (k + 1)
  obj : M.peek (1 + 3 * n) = adr n 0
theorem rowP_end {M : Mem} {n : Nat} {st : List Nat} (h : RowP M n st n) (hn : n ≤ 1000) (th : Int) : RowD (M.alloc th [adr n 0]) n st ∧ M.room [adr n 0] = 1 + 3 * n := by
  have hfr := h.free
  have hl := h.len
  have pk : ∀ x, (M.alloc th [adr n 0]).peek x = (M.put M.free (adr n 0)).peek x := fun x => by
    rw [alloc_t (by show 0 < 1; omega) (by show 1 ≤ _; omega)]; rfl
  refine ⟨⟨⟨?_, fun i h2 => ?_, fun i h2 => ?_⟩, fun i h2 => ?_, ?_⟩, ?_⟩
  · rw [alloc_t (by show 0 < 1; omega) (by show 1 ≤ _; omega)]
    show (ovN _ M.cells M.free).length = _
    rw [ovN_len]; exact hl
  · have e2 : adr n i = 1 + 3 * (n - 1 - i) := adr_lt h2
    rw [pk, put_oth (by omega)]
    exact h.val i (by omega) h2
  · have e2 : adr n i = 1 + 3 * (n - 1 - i) := adr_lt h2
    rw [pk, put_oth (by omega)]
    exact h.stp i (by omega) h2
  · have e2 : adr n i = 1 + 3 * (n - 1 - i) := adr_lt h2
    rw [pk, put_oth (by omega)]
    exact h.nxt i (by omega) h2
  · rw [pk, ← hfr, put_self (by omega)]
  · rw [room_t (by show 0 < 1; omega) (by show 1 ≤ _; omega)]; exact hfr
theorem alloc_trN (M : Mem) (th : Int) (vals : List Nat) : (M.alloc th vals).tr.length = M.tr.length + 1 := by
  unfold Mem.alloc
  split <;> simp [Mem.note]
theorem step_tr (s : CutS) (M : Mem) (th : Int) : (s.step M th).2.tr.length = M.tr.length + 1 := by
  unfold CutS.step CutS.go
  simp only
  repeat' split
  all_goals simp [Mem.load, Mem.store, Mem.note, Mem.put]
def keptK (n fl : Nat) (nd st : List Nat) : List Nat := if n = 0 then [] else 0 :: kps fl nd st 0 (todo n 1)
structure Cut0 (n fl : Nat) (nd st : List Nat) (M : Mem) (s : CutS) : Prop where
  row : RowD M n st
  sfl : s.fl = fl
  snd : s.st = nd
  sob : s.obj = 1 + 3 * n
  fnd : s.found = 0
  hd : s.head = 0
inductive CutAll (n fl : Nat) (nd st : List Nat) (M : Mem) (s : CutS) : Nat → Prop where
  | s0 : Cut0 n fl nd st M s → s.at_ = 0 → s.told = 0 → CutAll n fl nd st M s (4 * n + 10)
  | s1 : Cut0 n fl nd st M s → s.at_ = 1 → 0 < n → s.x = adr n 0 → CutAll n fl nd st M s (4 * n + 9)
  | s2 : Cut0 n fl nd st M s → s.at_ = 2 → 0 < n → s.x = adr n 0 → s.sx = sxv st 0 → CutAll n fl nd st M s (4 * n + 8)
  | st (μ : Nat) : CutSt n fl nd st (keptK n fl nd st) M s μ → CutAll n fl nd st M s μ
theorem cutAll_lt {n fl : Nat} {nd st : List Nat} {M : Mem} {s : CutS} {μ : Nat} (h : CutAll n fl nd st M s μ) : s.at_ < 7 ∧ s.st = nd := by
  cases h with
  | s0 C h => exact ⟨by omega, C.snd⟩
  | s1 C h => exact ⟨by omega, C.snd⟩
  | s2 C h => exact ⟨by omega, C.snd⟩
  | st _ h =>
    cases h with
    | older i pre I h => exact ⟨by omega, I.snd⟩
    | judge i j pre I _ _ h => exact ⟨by omega, I.snd⟩
    | skip i j pre I _ _ h => exact ⟨by omega, I.snd⟩
    | link i j pre I _ _ _ h => exact ⟨by omega, I.snd⟩
theorem rowD_load {M : Mem} {n a : Nat} {st : List Nat} {th : Int} (h : RowD M n st) : RowD (M.load th a) n st := ⟨⟨h.row.len, h.row.val, h.row.stp⟩, h.rest, h.obj⟩
theorem all_next {n fl : Nat} {nd st : List Nat} (hn : n ≤ 1000) (hz : ∀ j, 0 < j → j < n → st.getD j 0 ≠ 0) {M : Mem} {s : CutS} {μ : Nat} (h : CutAll n fl nd st M s μ) (th : Int) :
    (∃ μ', μ' < μ ∧ CutAll n fl nd st (s.step M th).2 (s.step M th).1 μ' ∧ (s.step M th).1.at_ ≠ 7) ∨ CutE n st (keptK n fl nd st) (s.step M th).2 (s.step M th).1 := by
  cases h with
  | s0 C hat ht =>
    have hpk : M.peek s.obj = adr n 0 := by rw [C.sob]; exact C.row.obj
    by_cases h0 : n = 0
    · have ha : adr n 0 = 0 := adr_ge (by omega)
      have e : s.step M th = ({ s with x := 0, at_ := 7, head := s.told }, M.load th s.obj) := by
        unfold CutS.step CutS.go
        rw [if_pos hat, hpk, ha]
        rfl
      rw [e]
      have R := rowD_load (a := s.obj) (th := th) C.row
      have hk : keptK n fl nd st = [] := if_pos h0
      rw [hk]
      refine .inr ⟨R.row, trivial, fun k hk => (by simp at hk), R.obj, ?_, fun h => by omega, rfl⟩
      show s.found + 0 = n
      rw [C.fnd]; omega
    · have ha : adr n 0 ≠ 0 := adr_pos (by omega)
      have e : s.step M th = ({ s with x := adr n 0, at_ := 1 }, M.load th s.obj) := by
        unfold CutS.step CutS.go
        rw [if_pos hat, hpk, if_neg ha]
        rfl
      rw [e]
      exact .inl ⟨4 * n + 9, by omega, .s1 ⟨rowD_load C.row, C.sfl, C.snd, C.sob, C.fnd, C.hd⟩ rfl (by omega) rfl, by show 1 ≠ 7; omega⟩
  | s1 C hat hp hx =>
    have hpk : M.peek (addM s.x 1) = st.getD 0 0 := by rw [hx, addM_adr hn (by omega)]; exact C.row.row.stp 0 hp
    have e : s.step M th = ({ s with sx := sxv st 0, at_ := 2 }, M.load th (addM s.x 1)) := by
      unfold CutS.step CutS.go
      rw [if_neg (by omega), if_pos hat, hpk]
      rfl
    rw [e]
    exact .inl ⟨4 * n + 8, by omega, .s2 ⟨rowD_load C.row, C.sfl, C.snd, C.sob, C.fnd, C.hd⟩ rfl hp hx rfl, by show 2 ≠ 7; omega⟩
  | s2 C hat hp hx hsx =>
    have hpk : M.peek s.x = 1 := by rw [hx]; exact C.row.row.val 0 hp
    have e : s.step M th = ({ s with told := 1, at_ := 3 }, M.load th s.x) := by
      unfold CutS.step CutS.go
      rw [if_neg (by omega), if_neg (by omega), if_pos hat, hpk]
      rfl
    rw [e]
    have R := rowD_load (a := s.x) (th := th) C.row
    refine .inl ⟨4 * (n - 0), by omega, .st _ (.older 0 [] ⟨R.row, hp, ?_, trivial, fun k h => (by simp at h), fun k _ h2 => R.rest k h2, R.obj, C.sfl, C.snd, C.sob, hx, hsx, rfl, fun _ => C.hd⟩ rfl ?_), by show 3 ≠ 7; omega⟩
    · unfold keptK
      rw [if_neg (by omega)]
      rfl
    · show s.found + 0 + 1 = 0 + 1
      rw [C.fnd]
  | st μ h =>
    rcases cut_next hn hz h th with ⟨μ', h1, h2, h3⟩ | h
    · exact .inl ⟨μ', h1, .st _ h2, h3⟩
    · exact .inr h
def atK (st : List Nat) (t : Nat) : List Nat → Nat × Nat
  | [] => (0, 0)
  | k :: r => if st.getD k 0 ≠ 0 ∧ st.getD k 0 ≤ t then (k + 1, st.getD k 0) else atK st t r
end Go.Proofs.Ytlabejmlkhgeoaa

set_option linter.unusedVariables false
set_option linter.unusedSimpArgs false
namespace Go.Proofs.Ytlabejmlkhgeoaa
open Go Go.CM
theorem ltZ_yep {a b : Int} (h : a < b) : ltZ a b = true := decide_eq_true h
theorem inR_sub1 {i : Nat} {K : Prop} (h : i ≤ 1000000000) (k : K) : InR (Int.sub (Int.ofNat i) (Int.ofNat 1)) K := ⟨⟨by show _ ≤ (i : Int) - 1; omega, by show (i : Int) - 1 < _; omega⟩, k⟩
attribute [local irreducible] AsBool AsWant AsNat AsInt AsCnt AsPtr AsSlc AsLen AsStr AsAgg AsTup AsFn AsIfc Nth Sc NotNil IsNil Must Cd codeW funW Sat SatL wrapN subM mkRow ltZ leZ ltN leN
variable {con : CallT}
theorem row_ok (hc : Con con lives) {R : List HP} {H : CH} {p m : Nat} {v : Value} {st : List Nat} {K : KP} (hs : Sat (MemP m (mem0 8192) :: ViewAt p m 0 0 :: R) H) (hq : Has R (Nums v st)) (hn : st.length ≤ 1000)
    (k : ∀ M H1, RowD M st.length st → M.tr.length = st.length + 1 → Sat (MemP m M :: ViewAt p m 0 (st.length + 1) :: R) H1 → K (u64 (1 + 3 * st.length)) H1) : Call1 Try.prog con 20 [ptr p 0, v] H K := by
  refine call_of (hc _ _ _ rfl) ?_
  rw [law15Row_W]
  obtain ⟨pv, cv, ev⟩ := (hs.has (Has.skip (Has.skip hq))).len
  refine AsLen.eq ev ?_
  refine inR_sub1 (by omega) ?_
  refine LoopC.ind (n := 100) (by kernel_rfl)
    (fun (j : Nat) σ1 H1 => j ≤ st.length ∧ ∃ M, RowP M st.length st j ∧ M.tr.length = j ∧ σ1 0 = ptr p 0 ∧ σ1 1 = v ∧ σ1 5 = u64 (adr st.length (st.length - j)) ∧ σ1 6 = i64 (Int.sub (Int.ofNat (st.length - j)) (Int.ofNat 1)) ∧ Sat (MemP m M :: ViewAt p m 0 j :: R) H1)
    (fun j => st.length - j) (fun j σ1 H1 hI => ?_) 0 _ _ ⟨Nat.zero_le _, mem0 8192, ⟨(by show (List.replicate 8192 0).length = 8192; exact List.length_replicate ..), rfl, fun i h1 h2 => by omega, fun i h1 h2 => by omega, fun i h1 h2 => by omega⟩, rfl, rfl, rfl, ?_, rfl, hs⟩
  · obtain ⟨hj, M, hR, htr, a0, a1, a5, a6, hs1⟩ := hI
    rw [law15RowL_W]
    simp only [a0, a5, a6]
    by_cases h : j < st.length
    · rw [subInt (by omega : 1 ≤ st.length - j)]
      repeat (refine gO ?_; intros)
      refine Cd.t (leZ_t (by omega)) ?_
      repeat (refine gO ?_; intros)
      refine Must.mk (cv_small (by omega)) ?_
      rw [wrapN_small (by omega)]
      rcases (hs1.has (Has.skip (Has.skip hq))).shape with ⟨h3, h4⟩ | ⟨b', o, c', h3⟩
      · rw [h4] at h; simp at h
      refine AsSlc.eq (a1.trans h3) ?_
      repeat (refine gO ?_; intros)
      refine Must.mk (ltN_t (by omega)) ?_
      refine ldSrc hs1 ((Has.skip (Has.skip hq)).src h3) (by rw [show Nat.mul (st.length - j - 1) 1 = st.length - j - 1 from Nat.mul_one _]; rfl) (map_get _ (by omega)) ?_
      have ei : st.length - j - 1 = st.length - 1 - j := by omega
      rw [ei]
      rw [show Nat.mod (Nat.add (st.length - 1 - j) 1) 18446744073709551616 = st.length - 1 - j + 1 from Nat.mod_eq_of_lt (by show _ + 1 < _; omega)]
      repeat (refine gO ?_; intros)
      rename_i p9 H10 h10
      have hq9 : Has (Own p9 [u64 (st.length - 1 - j + 1), u64 (st.getD (st.length - 1 - j) 0), u64 (adr st.length (st.length - j))] :: R) (Nums (slc p9 0 3 3) [st.length - 1 - j + 1, st.getD (st.length - 1 - j) 0, adr st.length (st.length - j)]) := Has.own3 (l := [st.length - 1 - j + 1, st.getD (st.length - 1 - j) 0, adr st.length (st.length - j)])
      obtain ⟨r1, r2⟩ := rowP_step hR hn h 0
      refine viewAlloc_ok (R1 := Own p9 [u64 (st.length - 1 - j + 1), u64 (st.getD (st.length - 1 - j) 0), u64 (adr st.length (st.length - j))] :: ViewAt p m 0 j :: R) (R2 := Own p9 [u64 (st.length - 1 - j + 1), u64 (st.getD (st.length - 1 - j) 0), u64 (adr st.length (st.length - j))] :: R) hc h10 pp pp hq9 (by show 3 ≤ _; omega) (by omega) (by omega) fun H2 h3 => ?_
      rw [r2]
      repeat (refine gO ?_; intros)
      refine inR_sub1 (by omega) ?_
      show ∃ y, _ ∧ _
      refine ⟨j + 1, by omega, h, _, r1, by rw [alloc_trN, htr], a0, a1, ?_, ?_, h3.ent ee⟩
      · show u64 (adr st.length (st.length - 1 - j)) = _
        rw [show st.length - (j + 1) = st.length - 1 - j from by omega]
      · show i64 (Int.sub (Int.ofNat (st.length - 1 - j)) (Int.ofNat 1)) = _
        rw [show st.length - (j + 1) = st.length - 1 - j from by omega]
    · obtain rfl : j = st.length := by omega
      rw [Nat.sub_self] at a5 a6 ⊢
      repeat (refine gO ?_; intros)
      obtain ⟨r1, r2⟩ := rowP_end hR hn 0
      show Sc (σ1 5) (Nw H1 (mkRow 22 0 [σ1 5]) fun p9 H10 => Call1 Try.prog con 29 [σ1 0, .slice (some ⟨p9, 0, none⟩) 1 1] H10 K)
      rw [a5, a0]
      repeat (refine gO ?_; intros)
      rename_i p9 H10 h10
      have hq9 : Has (Own p9 [u64 (adr st.length 0)] :: R) (Nums (slc p9 0 1 1) [adr st.length 0]) := Has.own3 (l := [adr st.length 0])
      refine viewAlloc_ok (R1 := Own p9 [u64 (adr st.length 0)] :: ViewAt p m 0 st.length :: R) (R2 := Own p9 [u64 (adr st.length 0)] :: R) hc h10 pp pp hq9 (by show 1 ≤ _; omega) (by omega) (by omega) fun H2 h3 => ?_
      rw [r2]
      exact k _ H2 r1 (by rw [alloc_trN, htr]) (h3.ent ee)
  · show u64 0 = _
    rw [adr_ge (by omega)]
theorem alone_ok (hc : Con con lives) {R : List HP} {H : CH} {pc q m c fl : Nat} {v : Value} {nd st : List Nat} {M : Mem} {s : CutS} {K : KP} (hn : st.length ≤ 1000) (hz : ∀ j, 0 < j → j < st.length → st.getD j 0 ≠ 0)
    (hs : Sat (Own pc (cutC s v) :: MemP m M :: ViewAt q m 0 c :: R) H) (hA : CutAll st.length fl nd st M s (4 * st.length + 10)) (hq : Has R (Nums v nd)) (hl : nd.length ≤ 1000000000) (hcn : c ≤ 10000) (ht : M.tr.length ≤ 10000)
    (k : ∀ s' M' c' H1, CutE st.length st (keptK st.length fl nd st) M' s' → Sat (Own pc (cutC s' v) :: MemP m M' :: ViewAt q m 0 c' :: R) H1 → K (.bool true) H1) :
    Call1 Try.prog con 23 [ptr q 0, .iface 50 (ptr pc 0), i64 1099511627776] H K := by
  refine call_of (hc _ _ _ rfl) ?_
  rw [stepAlone_W]
  refine LoopC.ind (n := 100) (by kernel_rfl)
    (fun (i : Nat) σ1 H1 => ∃ μ M s, CutAll st.length fl nd st M s μ ∧ i + μ ≤ 4 * st.length + 10 ∧ M.tr.length ≤ 10000 + i ∧ σ1 0 = ptr q 0 ∧ σ1 1 = .iface 50 (ptr pc 0) ∧ σ1 7 = i64 1099511627776 ∧ σ1 8 = iN i ∧ Sat (Own pc (cutC s v) :: MemP m M :: ViewAt q m 0 (c + i) :: R) H1)
    (fun i => 4 * st.length + 11 - i) (fun i σ1 H1 hI => ?_) 0 _ _ ⟨_, M, s, hA, by omega, by omega, rfl, rfl, rfl, rfl, hs⟩
  obtain ⟨μ, M, s, hA, hi, ht, a0, a1, a7, a8, hs1⟩ := hI
  rw [stepAloneL_W]
  simp only [a0, a1, a7, a8]
  repeat (refine gO ?_; intros)
  refine Cd.t (ltZ_yep (show (i : Int) < 1099511627776 by omega)) ?_
  repeat (refine gO ?_; intros)
  obtain ⟨hat, hnd⟩ := cutAll_lt hA
  refine Mth.of (f := 66) (rc := ptr pc 0) (by kernel_rfl) (by kernel_rfl) ?_
  refine cutStep_ok hc s (R1 := Own pc (cutC s v) :: ViewAt q m 0 (c + i) :: R) (R2 := Own pc (cutC s v) :: R) (R3 := R) hs1 pp pp pp (by rw [hnd]; exact hq) (by rw [hnd]; exact hl) (by omega) (by omega) hat fun H2 h2 => ?_
  repeat (refine gO ?_; intros)
  rcases all_next hn hz hA 0 with ⟨μ', h3, h4, h5⟩ | h3
  · refine Cd.f (eqZ_f h5) ?_
    repeat (refine gO ?_; intros)
    rw [show Int.add (Int.ofNat i) (Int.ofNat 1) = Int.ofNat (i + 1) from addInt _ _]
    refine inR_nat (by omega) ?_
    show ∃ y, _ ∧ _
    exact ⟨i + 1, by omega, μ', _, _, h4, by omega, by rw [step_tr]; omega, a0, a1, a7, rfl, h2.ent ee⟩
  · refine Cd.t (eqZ_t h3.at_) ?_
    exact k _ _ _ H2 h3 (h2.ent ee)
theorem at_ok (hc : Con con lives) {L : List HP} {H : CH} {v : Value} {t : Nat} {st KS : List Nat} {K : KP} (hs : Sat L H) (hv : Has L (Vec v tV 2 (KS.map (vrow st)))) (hl : KS.length ≤ 1000)
    (k : ∀ H1, Sat L H1 → K (.agg ⟨[u64 (atK st t KS).1, u64 (atK st t KS).2]⟩) H1) : Call1 Try.prog con 27 [v, u64 t] H K := by
  refine call_of (hc _ _ _ rfl) ?_
  rw [law15At_W]
  repeat (refine gO ?_; intros)
  rename_i p1 H2 h2
  obtain ⟨pv, ev⟩ := (hs.has hv).shape
  rw [show (KS.map (vrow st)).length = KS.length from by simp] at ev
  refine LoopC.ind (n := 100) (by kernel_rfl)
    (fun (i : Nat) σ1 H1 => i ≤ KS.length ∧ atK st t KS = atK st t (KS.drop i) ∧ σ1 0 = v ∧ σ1 1 = u64 t ∧ σ1 4 = ptr p1 0 ∧ σ1 5 = iN i ∧ Sat (Own p1 [u64 0, u64 0] :: L) H1)
    (fun i => KS.length - i) (fun i σ1 H1 hI => ?_) 0 _ _ ⟨Nat.zero_le _, rfl, rfl, rfl, rfl, rfl, h2⟩
  obtain ⟨hi, hat, a0, a1, a4, a5, hs1⟩ := hI
  rw [law15AtL_W]
  simp only [a1, a4, a5]
  refine AsLen.eq (a0.trans ev) ?_
  repeat (refine gO ?_; intros)
  by_cases h : i < KS.length
  · obtain ⟨kk, ek⟩ : ∃ kk, KS[i]? = some kk := ⟨_, List.getElem?_eq_getElem h⟩
    have hr : (KS.map (vrow st))[i]? = some (vrow st kk) := by rw [List.getElem?_map, ek]; rfl
    have ed : KS.drop i = kk :: KS.drop (i + 1) := by
      rw [List.drop_eq_getElem_cons h]
      congr 1
      exact (List.getElem?_eq_some_iff.1 ek).2
    rw [ed] at hat
    obtain ⟨b, ev2, _⟩ := (hs.has hv).slot hr
    rw [show (KS.map (vrow st)).length = KS.length from by simp] at ev2
    refine Cd.t (ltZ_t h) ?_
    refine AsSlc.eq (a0.trans ev2) ?_
    repeat (refine gO ?_; intros)
    refine Must.mk (ltN_t h) ?_
    refine ldVec hs1 (Has.skip hv) ev2 hr (j := 1) (by show 0 + i * 2 + 1 = _; omega) (by omega) rfl ?_
    repeat (refine gO ?_; intros)
    by_cases g : st.getD kk 0 = 0
    · refine Cd.f (by rw [eqN_t g]; rfl) ?_
      repeat (refine gO ?_; intros)
      rw [show Int.add (Int.ofNat i) (Int.ofNat 1) = Int.ofNat (i + 1) from addInt _ _]
      refine inR_nat (by omega) ?_
      show ∃ y, _ ∧ _
      refine ⟨i + 1, by omega, h, ?_, a0, a1, a4, rfl, hs1⟩
      rw [hat, atK, if_neg (fun q => q.1 g)]
    · refine Cd.t (by rw [eqN_f g]; rfl) ?_
      refine AsSlc.eq (a0.trans ev2) ?_
      repeat (refine gO ?_; intros)
      refine Must.mk (ltN_t h) ?_
      refine ldVec hs1 (Has.skip hv) ev2 hr (j := 1) (by show 0 + i * 2 + 1 = _; omega) (by omega) rfl ?_
      repeat (refine gO ?_; intros)
      by_cases g2 : st.getD kk 0 ≤ t
      · refine Cd.t (leN_t g2) ?_
        refine AsSlc.eq (a0.trans ev2) ?_
        repeat (refine gO ?_; intros)
        refine Must.mk (ltN_t h) ?_
        refine ldVec hs1 (Has.skip hv) ev2 hr (j := 0) (by show 0 + i * 2 + 0 = _; omega) (by omega) rfl ?_
        refine ldVec hs1 (Has.skip hv) ev2 hr (j := 1) (by show 0 + i * 2 + 1 = _; omega) (by omega) rfl ?_
        repeat (refine gO ?_; intros)
        refine stN hs1 (Nat.le_of_ble_eq_true rfl) rfl fun H3 h3 => ?_
        show AsPtr (σ1 4) _
        rw [a4]
        repeat (refine gO ?_; intros)
        rw [hat, atK, if_pos ⟨g, g2⟩] at k
        exact k _ (h3.ent ee)
      · refine Cd.f (leN_f (by omega)) ?_
        repeat (refine gO ?_; intros)
        rw [show Int.add (Int.ofNat i) (Int.ofNat 1) = Int.ofNat (i + 1) from addInt _ _]
        refine inR_nat (by omega) ?_
        show ∃ y, _ ∧ _
        refine ⟨i + 1, by omega, h, ?_, a0, a1, a4, rfl, hs1⟩
        rw [hat, atK, if_neg (fun q => g2 q.2)]
  · refine Cd.f (ltZ_f (by omega)) ?_
    show Cd _ _ _
    refine Cd.t rfl ?_
    show AsPtr (σ1 4) _
    rw [a4]
    repeat (refine gO ?_; intros)
    refine stN hs1 (Nat.le_of_ble_eq_true rfl) rfl fun H3 h3 => ?_
    show AsPtr (σ1 4) _
    rw [a4]
    repeat (refine gO ?_; intros)
    rw [hat, List.drop_of_length_le (by omega)] at k
    exact k _ (h3.ent ee)
end Go.Proofs.Ytlabejmlkhgeoaa

set_option linter.unusedVariables false
set_option linter.unusedSimpArgs false
namespace Go.Proofs.Ytlabejmlkhgeoaa
open Go Go.CM
theorem needed_mono {fl : Nat} {nd : List Nat} {a b a' b' : Nat} (h1 : a ≤ a') (h2 : b' ≤ b) (h : needed fl nd a' b' = true) : needed fl nd a b = true := by
  unfold needed at *
  by_cases g : b' ≤ a'
  · rw [if_pos g] at h; cases h
  · rw [if_neg g] at h
    rw [if_neg (by omega)]
    by_cases g2 : fl < b'
    · rw [if_pos (by omega)]
    · rw [if_neg g2] at h
      split
      · rfl
      · obtain ⟨x, hx, hp⟩ := List.any_eq_true.1 h
        refine List.any_eq_true.2 ⟨x, hx, ?_⟩
        unfold asksB at *
        simp only [Bool.and_eq_true, decide_eq_true_eq] at *
        omega
theorem needed_lt {fl : Nat} {nd : List Nat} {a b : Nat} (h : needed fl nd a b = true) : a < b := by
  unfold needed at h
  by_cases g : b ≤ a
  · rw [if_pos g] at h; cases h
  · omega
theorem kps_mem {fl : Nat} {nd st : List Nat} {x : Nat} : ∀ {l : List Nat} {prev : Nat}, x ∈ kps fl nd st prev l → x ∈ l
  | [], _, h => h
  | k :: r, prev, h => by
    unfold kps at h
    split at h
    · rcases List.mem_cons.1 h with h | h
      · exact h ▸ List.mem_cons_self ..
      · exact List.mem_cons_of_mem _ (kps_mem h)
    · exact List.mem_cons_of_mem _ (kps_mem h)
theorem todo_lt {n j x : Nat} (h : x ∈ todo n j) : x < n := by
  have := List.mem_range'_1.1 h
  omega
theorem kept_lt {n fl : Nat} {nd st : List Nat} {x : Nat} (h : x ∈ keptK n fl nd st) : x < n := by
  unfold keptK at h
  by_cases h0 : n = 0
  · rw [if_pos h0] at h; cases h
  · rw [if_neg h0] at h
    rcases List.mem_cons.1 h with h | h
    · omega
    · exact todo_lt (kps_mem h)
theorem at_kps {fl t : Nat} {nd st : List Nat} (hn : needed fl nd t (Nat.mod (Nat.add t 1) 18446744073709551616) = true) (ht : t < 18446744073709551616) : ∀ (l : List Nat) (prev : Nat), ¬ (st.getD prev 0 ≠ 0 ∧ st.getD prev 0 ≤ t) → atK st t (kps fl nd st prev l) = atK st t l
  | [], _, _ => rfl
  | k :: r, prev, hp => by
    have ht2 := needed_lt hn
    have ht3 : t + 1 < 18446744073709551616 := by
      rcases Nat.lt_or_ge (t + 1) 18446744073709551616 with q | q
      · exact q
      · have e : t = 18446744073709551615 := by omega
        subst e
        exact absurd ht2 (by decide)
    have e1 : Nat.mod (Nat.add t 1) 18446744073709551616 = t + 1 := Nat.mod_eq_of_lt ht3
    rw [e1] at hn
    unfold kps
    by_cases hk : st.getD k 0 ≠ 0 ∧ st.getD k 0 ≤ t
    · have hy : needed fl nd (st.getD k 0) (sxv st prev) = true := by
        refine needed_mono hk.2 ?_ hn
        unfold sxv
        split
        · omega
        · rename_i q
          have : ¬ st.getD prev 0 ≤ t := fun w => hp ⟨q, w⟩
          omega
      rw [if_pos hy, atK, atK, if_pos hk, if_pos hk]
    · by_cases hy : needed fl nd (st.getD k 0) (sxv st prev) = true
      · rw [if_pos hy, atK, atK, if_neg hk, if_neg hk]
        exact at_kps (by rw [e1]; exact hn) ht r k hk
      · rw [if_neg hy, at_kps (by rw [e1]; exact hn) ht r prev hp]
        conv => rhs; rw [atK, if_neg hk]
theorem range_todo {n : Nat} (h : 0 < n) : List.range n = 0 :: todo n 1 := by
  rw [List.range_eq_range']
  unfold todo
  obtain ⟨m, rfl⟩ : ∃ m, n = m + 1 := ⟨n - 1, by omega⟩
  rw [List.range'_succ]
  rfl
theorem at_kept {n fl t : Nat} {nd st : List Nat} (hn : needed fl nd t (Nat.mod (Nat.add t 1) 18446744073709551616) = true) (ht : t < 18446744073709551616) : atK st t (keptK n fl nd st) = atK st t (List.range n) := by
  unfold keptK
  by_cases h0 : n = 0
  · subst h0; rfl
  · rw [if_neg h0, range_todo (by omega)]
    by_cases hk : st.getD 0 0 ≠ 0 ∧ st.getD 0 0 ≤ t
    · rw [atK, atK, if_pos hk, if_pos hk]
    · rw [atK, atK, if_neg hk, if_neg hk]
      exact at_kps hn ht _ 0 hk
theorem kps_next {fl : Nat} {nd st : List Nat} : ∀ {l : List Nat} {prev i a b : Nat}, (prev :: kps fl nd st prev l)[i]? = some a → (prev :: kps fl nd st prev l)[i + 1]? = some b → needed fl nd (st.getD b 0) (sxv st a) = true
  | [], prev, i, a, b, h1, h2 => by simp [kps] at h2
  | k :: r, prev, i, a, b, h1, h2 => by
    by_cases hy : needed fl nd (st.getD k 0) (sxv st prev) = true
    · have e : kps fl nd st prev (k :: r) = k :: kps fl nd st k r := by rw [kps, if_pos hy]
      rw [e] at h1 h2
      cases i with
      | zero =>
        simp at h1 h2
        subst h1 h2
        exact hy
      | succ i => exact kps_next (l := r) (prev := k) (i := i) (by simpa using h1) (by simpa using h2)
    · have e : kps fl nd st prev (k :: r) = kps fl nd st prev r := by rw [kps, if_neg hy]
      rw [e] at h1 h2
      exact kps_next h1 h2
theorem kept_next {n fl : Nat} {nd st : List Nat} {i a b : Nat} (h1 : (keptK n fl nd st)[i]? = some a) (h2 : (keptK n fl nd st)[i + 1]? = some b) : needed fl nd (st.getD b 0) (sxv st a) = true := by
  unfold keptK at h1 h2
  by_cases h0 : n = 0
  · rw [if_pos h0] at h1; simp at h1
  · rw [if_neg h0] at h1 h2
    exact kps_next h1 h2
theorem link_of {M : Mem} {n : Nat} : ∀ {l : List Nat}, (∀ i a b, l[i]? = some a → l[i + 1]? = some b → M.peek (adr n a + 2) = adr n b) → Link M n l
  | [], _ => trivial
  | [_], _ => trivial
  | a :: b :: r, h => ⟨h 0 a b rfl rfl, link_of (l := b :: r) fun i x y h1 h2 => h (i + 1) x y (by simpa using h1) (by simpa using h2)⟩
theorem was_chain {M : Mem} {n : Nat} {st : List Nat} (D : RowD M n st) : Chain M n st (List.range n) := by
  refine ⟨D.row, link_of fun i a b h1 h2 => ?_, fun k hk => ?_, fun k hk => List.mem_range.1 hk, by simp⟩
  · have hi := (List.getElem?_eq_some_iff.1 h2).1
    simp at hi
    rw [List.getElem?_range (by omega)] at h1 h2
    cases h1
    cases h2
    rw [D.rest i (by omega)]
  · rw [List.getLast?_eq_getElem?, List.length_range] at hk
    have hi := (List.getElem?_eq_some_iff.1 hk).1
    simp at hi
    rw [List.getElem?_range (by omega)] at hk
    cases hk
    rw [D.rest (n - 1) (by omega), adr_ge (by omega)]
theorem was_first {n : Nat} : chainP n (List.range n) 0 = adr n 0 := by
  unfold chainP
  cases n with
  | zero => rfl
  | succ n => rw [List.getElem?_range (by omega)]
theorem now_chain {M : Mem} {n fl : Nat} {nd st : List Nat} {s : CutS} (E : CutE n st (keptK n fl nd st) M s) : Chain M n st (keptK n fl nd st) := ⟨E.row, E.lnk, E.lst, fun _ h => kept_lt h, by have := E.found; omega⟩
theorem now_first {n fl : Nat} {nd st : List Nat} : chainP n (keptK n fl nd st) 0 = adr n 0 := by
  unfold chainP keptK
  by_cases h0 : n = 0
  · rw [if_pos h0, h0]; rfl
  · rw [if_neg h0]; rfl
theorem app_zeroX {P : Program} {H : CH} {st xt e s by_ b n xc : Nat} {q : Option Addr} {K : KP} (ht : elemOk P st e s by_ = true) (hxt : ∃ e', P.underlying xt = some (.slice e'))
    (hx : srcCells H s 0 (.slice q 0 xc) = some []) (k : K (slc b 0 n n) H) : App P st xt H (slc b 0 n n) (.slice q 0 xc) K := by
  obtain ⟨hu, ⟨i, z, hi, hz, h1, h2, h3⟩, hs0⟩ := elemOk.out ht
  obtain ⟨e', hu'⟩ := hxt
  obtain ⟨s, rfl⟩ : ∃ m, s = m + 1 := ⟨s - 1, by omega⟩
  have hbeq : Nat.beq ([] : List Value).length (0 * (s + 1)) = true := by rw [Nat.zero_mul]; rfl
  have hble : Nat.ble (n + 0) n = true := Nat.ble_eq_true_of_le (Nat.le_refl n)
  refine App.of (v := slc b 0 n n) (H1 := H) ?_ k
  simp only [cappend, hu, hu', hi, hz, h1, hx, hbeq, hble, cond_true, List.getElem?_toArray, List.getElem?_cons_zero, List.getElem?_cons_succ]
abbrev rowsX (l : List Nat) : List (List Value) := l.map fun x => [u64 x]
theorem rowsX_flat : ∀ l : List Nat, (rowsX l).flatten = l.map u64
  | [] => rfl
  | x :: l => by show [u64 x] ++ (rowsX l).flatten = _; rw [rowsX_flat l]; rfl
def VE (b : Nat) (v : Value) (l : List Nat) : HP := fun h => (l = [] ∧ v = slc b 0 0 0 ∧ Row b tU 0 true [] h) ∨ (l ≠ [] ∧ Vec v tU 1 (rowsX l) h)
theorem app_first {L : List HP} {H : CH} {b : Nat} {v : Value} {l : List Nat} {K : KP} (hs : Sat (Row b tU 0 true [] :: L) H) (hq : Has L (Nums v l)) (hl : l.length ≤ 1000000000)
    (k : ∀ v' H1, Sat (VE b v' l :: L) H1 → K v' H1) : App Try.prog tUS tUS H (slc b 0 0 0) v K := by
  have hz : l = [] → K (slc b 0 0 0) H := fun e => k _ _ (hs.imp fun g a => .inl ⟨e, rfl, a⟩)
  rcases (hs.has (Has.skip hq)).shape with ⟨rfl, rfl⟩ | ⟨p, o, c, rfl⟩
  · exact app_zeroX el_u64 sl_u64 rfl (hz rfl)
  · cases l with
    | nil => exact app_zeroX el_u64 sl_u64 (src_cells hs (new := []) ((Has.skip hq).src rfl) rfl) (hz rfl)
    | cons x r =>
      refine app_clone (new := rowsX (x :: r)) hs el_u64 (by omega) sl_u64 (by rw [rowsX_flat]; exact hq.src rfl) (by simp) (by simp) hl (by simp) fun v' H1 h1 => ?_
      exact k _ _ (h1.imp fun g a => .inr ⟨by simp, a⟩)
theorem app_second {L : List HP} {H : CH} {b : Nat} {v w : Value} {l l2 : List Nat} {K : KP} (hs : Sat (VE b w l :: L) H) (hq : Has L (Nums v l2)) (hl : l.length + l2.length ≤ 1000000000)
    (k : ∀ v' H1, Sat (Nums v' (l ++ l2) :: L) H1 → K v' H1) : App Try.prog tUS tUS H w v K := by
  cases l with
  | nil =>
    have hw : w = slc b 0 0 0 := by
      obtain ⟨q1, q2, t1, t2, dj, a, hR⟩ := hs
      rcases a with ⟨_, h, _⟩ | ⟨h, _⟩
      · exact h
      · exact absurd rfl h
    subst hw
    have hs2 : Sat (Row b tU 0 true [] :: L) H := hs.imp fun g a => by
      rcases a with ⟨_, _, h⟩ | ⟨h, _⟩
      · exact h
      · exact absurd rfl h
    refine app_first hs2 hq (by simp at hl; omega) fun v' H1 h1 => k _ _ (h1.imp fun g a => ?_)
    rcases a with ⟨rfl, rfl, h⟩ | ⟨_, h⟩
    · exact .inr ⟨b, 0, 0, tU, 0, true, [], rfl, Nat.le_refl _, Nat.le_refl _, rfl, h⟩
    · exact h.nums
  | cons x r =>
    have hs2 : Sat (Vec w tU 1 (rowsX (x :: r)) :: L) H := hs.imp fun g a => by
      rcases a with ⟨h, _⟩ | ⟨_, h⟩
      · cases h
      · exact h
    obtain ⟨bw, ew, _⟩ := (hs2.has Has.vec).slot (i := 0) (row := [u64 x]) rfl
    have hz : l2 = [] → K w H := fun e => k _ _ (by rw [e, List.append_nil]; exact hs2.imp fun g a => a.nums)
    rcases (hs.has (Has.skip hq)).shape with ⟨rfl, rfl⟩ | ⟨p, o, c, rfl⟩
    · rw [ew]
      rw [ew] at hz
      exact app_zeroX el_u64 sl_u64 rfl (hz rfl)
    · cases l2 with
      | nil =>
        rw [ew]
        rw [ew] at hz
        exact app_zeroX el_u64 sl_u64 (src_cells hs (new := []) ((Has.skip hq).src rfl) rfl) (hz rfl)
      | cons y r2 =>
        refine app_vec (new := rowsX (y :: r2)) hs2 Pull.here el_u64 (by omega) sl_u64 (by rw [rowsX_flat]; exact (Has.skip hq).src rfl) (by simp) (by simp) (by simpa using hl) (by rw [rowsX_flat]; exact isCell_u64 _) fun v' H1 h1 => ?_
        refine k _ _ (h1.imp fun g a => ?_)
        rw [show rowsX (x :: r) ++ rowsX (y :: r2) = rowsX ((x :: r) ++ (y :: r2)) from List.map_append.symm] at a
        exact a.nums
end Go.Proofs.Ytlabejmlkhgeoaa

set_option linter.unusedVariables false
set_option linter.unusedSimpArgs false
namespace Go.Proofs.Ytlabejmlkhgeoaa
open Go Go.CM
attribute [local irreducible] AsBool AsWant AsNat AsInt AsCnt AsPtr AsSlc AsLen AsStr AsAgg AsTup AsFn AsIfc Nth Sc NotNil IsNil Must Cd codeW funW Sat SatL wrapN subM mkRow ltZ leZ ltN leN
variable {con : CallT}
theorem keepsA_ok (hc : Con con lives) {R : List HP} {H : CH} {p fl n : Nat} {xn va wn ww : Value} {nd st l : List Nat} {σ : TF} {Q : KX} (hs : Sat (Own p [u64 fl, xn] :: R) H) (hxn : Has R (Nums xn nd)) (hva : Has R (Nums va l))
    (hwn : Has R (Vec wn tV 2 ((keptK n fl nd st).map (vrow st)))) (hww : Has R (Vec ww tV 2 ((List.range n).map (vrow st)))) (hnl : nd.length ≤ 1000000000) (hl : l.length ≤ 1000000000) (hb : ∀ x ∈ l, x < 18446744073709551616) (hn : n ≤ 1000) (hkl : (keptK n fl nd st).length ≤ n)
    (a4 : σ 4 = ptr p 0) (a11 : σ 11 = ww) (a13 : σ 13 = wn) (a14 : σ 14 = va) (a15 : σ 15 = iN 0)
    (hQ : ∀ σ1 H1, σ1 4 = ptr p 0 → σ1 13 = wn → Sat (Own p [u64 fl, xn] :: R) H1 → Q (.exit 0) σ1 H1) : LoopC Try.prog con (lpAt Try.prog 4 0) σ H Q := by
  obtain ⟨pa, ca, ea⟩ := (hs.has (Has.skip hva)).len
  have hcx : isCell xn = true := by obtain ⟨px, cx, ex⟩ := (hs.has (Has.skip hxn)).len; rw [ex]; rfl
  refine LoopC.ind (n := 300) (by kernel_rfl)
    (fun (i : Nat) σ1 H1 => i ≤ l.length ∧ σ1 4 = ptr p 0 ∧ σ1 11 = ww ∧ σ1 13 = wn ∧ σ1 14 = va ∧ σ1 15 = iN i ∧ Sat (Own p [u64 fl, xn] :: R) H1)
    (fun i => l.length - i) (fun i σ1 H1 hI => ?_) 0 _ _ ⟨Nat.zero_le _, a4, a11, a13, a14, a15, hs⟩
  obtain ⟨hi, a4, a11, a13, a14, a15, hs1⟩ := hI
  rw [cutKeepsA_W]
  simp only [a4, a11, a13, a15]
  refine AsLen.eq (a14.trans ea) ?_
  repeat (refine gO ?_; intros)
  by_cases h : i < l.length
  · refine Cd.t (ltZ_t h) ?_
    rcases (hs.has (Has.skip hva)).shape with ⟨h3, h4⟩ | ⟨b', o, c', h3⟩
    · rw [h4] at h; simp at h
    repeat (refine gO ?_; intros)
    refine AsSlc.eq (a14.trans h3) ?_
    repeat (refine gO ?_; intros)
    refine Must.mk (ltN_t h) ?_
    refine ldSrc hs1 ((Has.skip hva).src h3) (by rw [show Nat.mul i 1 = i from Nat.mul_one i]; rfl) (map_get _ h) ?_
    refine AsSlc.eq (a14.trans h3) ?_
    repeat (refine gO ?_; intros)
    refine Must.mk (ltN_t h) ?_
    refine ldSrc hs1 ((Has.skip hva).src h3) (by rw [show Nat.mul i 1 = i from Nat.mul_one i]; rfl) (map_get _ h) ?_
    repeat (refine gO ?_; intros)
    refine refNeeded_ok hc hs1 (Has.skip hxn) hnl fun H21 h21 => ?_
    generalize ht : l.getD i 0 = t at *
    have htb : t < 18446744073709551616 := by
      rw [← ht, List.getD_eq_getElem?_getD, List.getElem?_eq_getElem h]
      exact hb _ (List.getElem_mem h)
    have hg : (l.map u64)[i]? = some (u64 t) := by rw [← ht]; exact map_get _ h
    cases hnd : needed fl nd t (Nat.mod (Nat.add t 1) 18446744073709551616) with
    | false =>
      repeat (refine gO ?_; intros)
      rw [show Int.add (Int.ofNat i) (Int.ofNat 1) = Int.ofNat (i + 1) from addInt _ _]
      refine inR_nat (by omega) ?_
      show ∃ y, _ ∧ _
      exact ⟨i + 1, by omega, h, a4, a11, a13, a14, rfl, h21⟩
    | true =>
      repeat (refine gO ?_; intros)
      refine AsSlc.eq (a14.trans h3) ?_
      repeat (refine gO ?_; intros)
      refine Must.mk (ltN_t h) ?_
      refine ldSrc h21 ((Has.skip hva).src h3) (by rw [show Nat.mul i 1 = i from Nat.mul_one i]; rfl) hg ?_
      refine at_ok hc h21 (Has.skip hwn) (by omega) fun H30 h30 => ?_
      refine AsSlc.eq (a14.trans h3) ?_
      repeat (refine gO ?_; intros)
      refine Must.mk (ltN_t h) ?_
      refine ldSrc h30 ((Has.skip hva).src h3) (by rw [show Nat.mul i 1 = i from Nat.mul_one i]; rfl) hg ?_
      refine at_ok hc h30 (Has.skip hww) (by simpa using hn) fun H38 h38 => ?_
      rw [at_kept hnd htb]
      refine OpN.neAgg (a := ⟨[u64 (atK st t (List.range n)).1, u64 (atK st t (List.range n)).2]⟩) (c := ⟨[u64 (atK st t (List.range n)).1, u64 (atK st t (List.range n)).2]⟩) rfl rfl ver_guard (ver_eq _ _ _ _ _) ?_
      refine ldSrc h21 ((Has.skip hva).src h3) (by rw [show Nat.mul i 1 = i from Nat.mul_one i]; rfl) hg ?_
      repeat (refine gO ?_; intros)
      refine ldSrc h30 ((Has.skip hva).src h3) (by rw [show Nat.mul i 1 = i from Nat.mul_one i]; rfl) hg ?_
      repeat (refine gO ?_; intros)
      refine Cd.f (by rw [eqN_self, eqN_self]; rfl) ?_
      repeat (refine gO ?_; intros)
      rw [show Int.add (Int.ofNat i) (Int.ofNat 1) = Int.ofNat (i + 1) from addInt _ _]
      refine inR_nat (by omega) ?_
      show ∃ y, _ ∧ _
      exact ⟨i + 1, by omega, h, a4, a11, a13, a14, rfl, h38⟩
  · refine Cd.f (ltZ_f (by omega)) ?_
    exact hQ _ _ a4 a13 hs1
theorem keepsB_ok (hc : Con con lives) {R : List HP} {H : CH} {p fl n : Nat} {xn wn : Value} {nd st : List Nat} {σ : TF} {Q : KX} (hs : Sat (Own p [u64 fl, xn] :: R) H) (hxn : Has R (Nums xn nd))
    (hwn : Has R (Vec wn tV 2 ((keptK n fl nd st).map (vrow st)))) (hnl : nd.length ≤ 1000000000) (hn : n ≤ 1000) (hkl : (keptK n fl nd st).length ≤ n)
    (a4 : σ 4 = ptr p 0) (a13 : σ 13 = wn) (a16 : σ 16 = iN 1)
    (hQ : ∀ σ1 H1, Q (.exit 2) σ1 H1) : LoopC Try.prog con (lpAt Try.prog 4 1) σ H Q := by
  generalize hK : keptK n fl nd st = KS at *
  obtain ⟨pv, ev⟩ := (hs.has (Has.skip hwn)).shape
  rw [show (KS.map (vrow st)).length = KS.length from by simp] at ev
  have hcx : isCell xn = true := by obtain ⟨px, cx, ex⟩ := (hs.has (Has.skip hxn)).len; rw [ex]; rfl
  refine LoopC.ind (n := 300) (by kernel_rfl)
    (fun (i : Nat) σ1 H1 => 0 < i ∧ σ1 4 = ptr p 0 ∧ σ1 13 = wn ∧ σ1 16 = iN i ∧ Sat (Own p [u64 fl, xn] :: R) H1)
    (fun i => KS.length - i) (fun i σ1 H1 hI => ?_) 1 _ _ ⟨Nat.one_pos, a4, a13, a16, hs⟩
  obtain ⟨h0, a4, a13, a16, hs1⟩ := hI
  rw [cutKeepsB_W]
  simp only [a4, a16]
  refine AsLen.eq (a13.trans ev) ?_
  repeat (refine gO ?_; intros)
  by_cases h : i < KS.length
  · refine Cd.t (ltZ_t h) ?_
    obtain ⟨a, ea⟩ : ∃ k, KS[i - 1]? = some k := ⟨_, List.getElem?_eq_getElem (by omega)⟩
    obtain ⟨b, eb⟩ : ∃ k, KS[i]? = some k := ⟨_, List.getElem?_eq_getElem h⟩
    have hnd : needed fl nd (st.getD b 0) (sxv st a) = true := kept_next (n := n) (i := i - 1) (by rw [hK]; exact ea) (by rw [hK, show i - 1 + 1 = i from by omega]; exact eb)
    have ra : (KS.map (vrow st))[i - 1]? = some (vrow st a) := by rw [List.getElem?_map, ea]; rfl
    have rb : (KS.map (vrow st))[i]? = some (vrow st b) := by rw [List.getElem?_map, eb]; rfl
    obtain ⟨bb, ev2, _⟩ := (hs.has (Has.skip hwn)).slot rb
    rw [show (KS.map (vrow st)).length = KS.length from by simp] at ev2
    repeat (refine gO ?_; intros)
    rw [subInt (by omega : 1 ≤ i)]
    refine inR_nat (by omega) ?_
    refine AsSlc.eq (a13.trans ev2) ?_
    repeat (refine gO ?_; intros)
    refine Must.mk (ltN_t (by omega)) ?_
    refine ldVec hs1 (Has.skip hwn) ev2 ra (j := 1) (by show 0 + (i - 1) * 2 + 1 = _; omega) (by omega) rfl ?_
    repeat (refine gO ?_; intros)
    by_cases g : st.getD a 0 = 0
    · refine Cd.t (eqN_t g) ?_
      repeat (refine gO ?_; intros)
      refine AsSlc.eq (a13.trans ev2) ?_
      repeat (refine gO ?_; intros)
      refine Must.mk (ltN_t h) ?_
      refine ldVec hs1 (Has.skip hwn) ev2 rb (j := 1) (by show 0 + i * 2 + 1 = _; omega) (by omega) rfl ?_
      refine refNeeded_ok hc hs1 (Has.skip hxn) hnl fun H22 h22 => ?_
      rw [show sxv st a = 18446744073709551615 from if_pos g] at hnd
      rw [hnd]
      repeat (refine gO ?_; intros)
      rw [show Int.add (Int.ofNat i) (Int.ofNat 1) = Int.ofNat (i + 1) from addInt _ _]
      refine inR_nat (by omega) ?_
      show ∃ y, _ ∧ _
      exact ⟨i + 1, by omega, by omega, a4, a13, rfl, h22⟩
    · refine Cd.f (eqN_f g) ?_
      repeat (refine gO ?_; intros)
      refine AsSlc.eq (a13.trans ev2) ?_
      repeat (refine gO ?_; intros)
      refine Must.mk (ltN_t h) ?_
      refine ldVec hs1 (Has.skip hwn) ev2 rb (j := 1) (by show 0 + i * 2 + 1 = _; omega) (by omega) rfl ?_
      refine refNeeded_ok hc hs1 (Has.skip hxn) hnl fun H22 h22 => ?_
      rw [show sxv st a = st.getD a 0 from if_neg g] at hnd
      rw [hnd]
      repeat (refine gO ?_; intros)
      rw [show Int.add (Int.ofNat i) (Int.ofNat 1) = Int.ofNat (i + 1) from addInt _ _]
      refine inR_nat (by omega) ?_
      show ∃ y, _ ∧ _
      exact ⟨i + 1, by omega, by omega, a4, a13, rfl, h22⟩
  · refine Cd.f (ltZ_f (by omega)) ?_
    exact hQ _ _
end Go.Proofs.Ytlabejmlkhgeoaa

set_option linter.unusedVariables false
set_option linter.unusedSimpArgs false
namespace Go.Proofs.Ytlabejmlkhgeoaa
open Go Go.CM
attribute [local irreducible] AsBool AsWant AsNat AsInt AsCnt AsPtr AsSlc AsLen AsStr AsAgg AsTup AsFn AsIfc Nth Sc NotNil IsNil Must Cd codeW funW Sat SatL wrapN subM mkRow ltZ leZ ltN leN
variable {con : CallT}
theorem keepsTail (hc : Con con lives) {R : List HP} {H : CH} {p fl n : Nat} {px : Option Addr} {cx : Nat} {xa wn ww : Value} {nd st asked : List Nat} {σ : Value → Value → Value → TF} {p67 : Nat} {H68 : CH} (h2 : Has R (Nums (.slice px nd.length cx) nd)) (h3 : Has R (Nums xa asked))
    (hs : Sat (Own p [u64 fl, .slice px nd.length cx] :: R) H) (h68 : Sat (Row p67 tU 0 true [] :: Own p [u64 fl, .slice px nd.length cx] :: R) H68) (hwn : Has R (Vec wn tV 2 ((keptK n fl nd st).map (vrow st)))) (hww : Has R (Vec ww tV 2 ((List.range n).map (vrow st)))) (hl1 : nd.length ≤ 1048576) (hl2 : asked.length ≤ 1048576)
    (hb : ∀ x ∈ asked ++ nd, x < 18446744073709551616) (hn : n ≤ 1000) (hkl : (keptK n fl nd st).length ≤ n)
    (a4 : ∀ x y z, σ x y z 4 = ptr p 0) (a11 : ∀ x y z, σ x y z 11 = ww) (a13 : ∀ x y z, σ x y z 13 = wn) (a14 : ∀ x y z, σ x y z 14 = z) (a15 : ∀ x y z, σ x y z 15 = iN 0) :
      App Try.prog 23 23 H68 (.slice (some ⟨p67, 0, none⟩) 0 0) xa fun v69 H70 =>
      Ld H70 p 1 fun v71 =>
      App Try.prog 23 23 H70 v69 v71 fun v72 H73 =>
      Ld H p 1 fun v74 =>
      Same v71 v74 (
      Ld H68 p 1 fun v75 =>
      Same v71 v75 (
      Ld H70 p 1 fun v76 =>
      Same v71 v76 (
      LoopC Try.prog con (lpAt Try.prog 4 0) (σ v69 v71 v72) H73 (fun e => ceP e
      (fun a77 H78 =>
        LoopC Try.prog con (lpAt Try.prog 4 1) (upd a77 16 (.int .i64 (Int.ofNat 1))) H78 (fun e => ceP e
        (fun a80 H81 => (.bool true : Value) = .bool true)
        (fun i82 => fun a80 H81 => Cd (eqN i82 2) ((.bool true : Value) = .bool true) (False))
        (fun a80 H81 => a80 6 = .bool true)))
      (fun i79 => fun a77 H78 =>
        Cd (eqN i79 0) (
          LoopC Try.prog con (lpAt Try.prog 4 1) (upd a77 16 (.int .i64 (Int.ofNat 1))) H78 (fun e => ceP e
          (fun a83 H84 => (.bool true : Value) = .bool true)
          (fun i85 => fun a83 H84 => Cd (eqN i85 2) ((.bool true : Value) = .bool true) (False))
          (fun a83 H84 => a83 6 = .bool true))) (
          False))
      (fun a77 H78 => a77 6 = .bool true))))) := by
  refine app_first h68 (Has.skip h3) (by omega) fun v69 H70 h70 => ?_
  repeat (refine gO ?_; intros)
  refine app_second h70 (Has.skip h2) (by omega) fun v72 H73 h73 => ?_
  repeat (refine gO ?_; intros)
  refine keepsA_ok (R := Nums v72 (asked ++ nd) :: R) (n := n) (fl := fl) (nd := nd) (st := st) (l := asked ++ nd) (va := v72) (wn := wn) (ww := ww) (p := p) hc (h73.ent ee) (Has.skip h2) Has.nums (Has.skip hwn) (Has.skip hww) (by omega) (by simp; omega) hb hn hkl (a4 _ _ _) (a11 _ _ _) (a13 _ _ _) (a14 _ _ _) (a15 _ _ _) fun σ1 H1 b4 b13 g1 => ?_
  show Cd _ _ _
  refine Cd.t rfl ?_
  refine keepsB_ok (R := Nums v72 (asked ++ nd) :: R) (n := n) (fl := fl) (nd := nd) (st := st) (wn := wn) (p := p) hc g1 (Has.skip h2) (Has.skip hwn) (by omega) hn hkl b4 b13 rfl fun σ2 H2 => ?_
  show Cd _ _ _
  exact Cd.t rfl rfl
theorem cutKeeps_ok (hc : Con con lives) (hlive : ∀ H, con 18 ⟨[]⟩ H = some (.bool true, H)) {L : List HP} {H : CH} {fl : Nat} {xv xn xa : Value} {was nd asked : List Nat} (hs : Sat L H) (h1 : Has L (Nums xv was)) (h2 : Has L (Nums xn nd)) (h3 : Has L (Nums xa asked))
    (hl1 : was.length ≤ 1048576) (hl2 : nd.length ≤ 1048576) (hl3 : asked.length ≤ 1048576) (hb : ∀ x ∈ asked ++ nd, x < 18446744073709551616) :
    Call1 Try.prog con 4 [xv, .agg ⟨[u64 fl, xn]⟩, xa] H (fun v _ => v = .bool true) := by
  obtain ⟨pv, cv, ev⟩ := (hs.has h1).len
  obtain ⟨px, cx, rfl⟩ := (hs.has h2).len
  refine call_of (hc _ _ _ rfl) ?_
  rw [cutKeeps_W]
  refine nw hs fun p1 H1 g1 => ?_
  refine call_con (hlive _) ?_
  repeat (refine gO ?_; intros)
  refine falling_ok hc g1 (Has.skip h1) hl1 ?_ (fun hF => ?_)
  · repeat (refine gO ?_; intros)
    rfl
  repeat (refine gO ?_; intros)
  refine AsLen.eq ev ?_
  by_cases hn : was.length ≤ 1000
  case neg => exact Cd.t (ltZ_t (by omega)) rfl
  refine Cd.f (ltZ_f hn) ?_
  refine arenaNew_ok hc g1 (n := 8192) (by omega) (by omega) fun m H2 g2 => ?_
  repeat (refine gO ?_; intros)
  refine memView_ok hc g2 fun q H3 g3 => ?_
  have g4 : Sat (MemP m (mem0 8192) :: ViewAt q m 0 0 :: Own p1 [u64 fl, .slice px nd.length cx] :: L) H3 := g3.ent ee
  clear g3
  refine row_ok hc g4 (Has.skip h1) hn fun M H4 D htr g5 => ?_
  refine versions_ok hc g5 Pull.here (was_chain D) (by rw [D.obj, was_first]) hn fun ww H5 g6 => ?_
  repeat (refine gO ?_; intros)
  refine newCut_ok hc g6 (st := nd) (by repeat (first | exact Has.nums | exact Has.vec | exact h1 | exact h2 | exact h3 | apply Has.skip)) (by omega) fun pc v' H6 g7 => ?_
  have g8 : Sat (Own pc (cutC ⟨1 + 3 * was.length, fl, nd, 0, 0, 0, 0, 0, 0, 0, 0, 0⟩ v') :: MemP m M :: ViewAt q m 0 (was.length + 1) :: Nums v' nd :: Vec ww tV 2 ((List.range was.length).map (vrow was)) :: Own p1 [u64 fl, .slice px nd.length cx] :: L) H6 := g7.ent ee
  refine alone_ok hc (fl := fl) (nd := nd) (st := was) hn (fun j h0 hj => (hF j h0 hj).1) g8 (.s0 ⟨D, rfl, rfl, rfl, rfl, rfl⟩ rfl rfl) Has.nums (by omega) (by omega) (by omega) fun s' M' c' H7 E g9 => ?_
  repeat (refine gO ?_; intros)
  refine versions_ok hc g9 (.there .here) (now_chain E) (by rw [E.obj, now_first]) hn fun wn H8 g10 => ?_
  have hfd := E.found
  obtain ⟨pw, ew⟩ := (g10.has (A := Vec ww tV 2 ((List.range was.length).map (vrow was))) (by repeat (first | exact Has.nums | exact Has.vec | exact h1 | exact h2 | exact h3 | apply Has.skip))).shape
  obtain ⟨pn, en⟩ := (g10.has Has.vec).shape
  rw [show ((List.range was.length).map (vrow was)).length = was.length from by simp] at ew
  rw [show ((keptK was.length fl nd was).map (vrow was)).length = (keptK was.length fl nd was).length from by simp] at en
  refine AsLen.eq ew ?_
  refine AsLen.eq ev ?_
  refine Cd.f (by rw [eqZ_self]; rfl) ?_
  refine AsLen.eq en ?_
  refine Must.mk (cv_small (by omega)) ?_
  refine cutCount_ok hc s' g10 ?_
  rw [if_pos E.at_]
  repeat (refine gO ?_; intros)
  refine AsLen.eq ew ?_
  refine Must.mk (cv_small (by omega)) ?_
  rw [wrapN_small (by omega), wrapN_small (by omega), show Nat.mod (Nat.add (keptK was.length fl nd was).length s'.found) 18446744073709551616 = was.length from by
    show ((keptK was.length fl nd was).length + s'.found) % _ = _
    rw [Nat.mod_eq_of_lt (by omega)]; omega]
  refine Cd.f (by rw [eqN_self]; rfl) ?_
  refine AsLen.eq ew ?_
  have g11 : Sat (Own p1 [u64 fl, .slice px nd.length cx] :: Vec wn tV 2 ((keptK was.length fl nd was).map (vrow was)) :: Vec ww tV 2 ((List.range was.length).map (vrow was)) :: Own pc (cutC s' v') :: L) H8 := g10.ent ee
  by_cases h0 : 0 < was.length
  · refine Cd.t (ltZ_t h0) ?_
    have hk0 : (keptK was.length fl nd was)[0]? = some 0 := by unfold keptK; rw [if_neg (by omega)]; rfl
    have hkp : 0 < (keptK was.length fl nd was).length := (List.getElem?_eq_some_iff.1 hk0).1
    have rn : ((keptK was.length fl nd was).map (vrow was))[0]? = some (vrow was 0) := by rw [List.getElem?_map, hk0]; rfl
    have rw0 : ((List.range was.length).map (vrow was))[0]? = some (vrow was 0) := by rw [List.getElem?_map, List.getElem?_range h0]; rfl
    obtain ⟨bn, en2, _⟩ := (g11.has (Has.skip Has.vec)).slot rn
    obtain ⟨bw, ew2, _⟩ := (g11.has (Has.skip (Has.skip Has.vec))).slot rw0
    rw [show ((List.range was.length).map (vrow was)).length = was.length from by simp] at ew2
    rw [show ((keptK was.length fl nd was).map (vrow was)).length = (keptK was.length fl nd was).length from by simp] at en2
    refine AsLen.eq en ?_
    refine Cd.f (eqZ_f (by omega)) ?_
    refine AsSlc.eq en2 ?_
    refine Must.mk (ltN_t hkp) ?_
    refine ldVec g11 (Has.skip Has.vec) en2 rn (i := 0) (j := 0) rfl (by omega) rfl ?_
    refine ldVec g11 (Has.skip Has.vec) en2 rn (i := 0) (j := 1) rfl (by omega) rfl ?_
    refine AsSlc.eq ew2 ?_
    refine Must.mk (ltN_t h0) ?_
    refine ldVec g11 (Has.skip (Has.skip Has.vec)) ew2 rw0 (i := 0) (j := 0) rfl (by omega) rfl ?_
    refine ldVec g11 (Has.skip (Has.skip Has.vec)) ew2 rw0 (i := 0) (j := 1) rfl (by omega) rfl ?_
    refine OpN.neAgg (a := ⟨[u64 (0 + 1), u64 (was.getD 0 0)]⟩) (c := ⟨[u64 (0 + 1), u64 (was.getD 0 0)]⟩) rfl rfl ver_guard (ver_eq _ _ _ _ _) ?_
    rw [eqN_self, eqN_self]
    repeat (refine gO ?_; intros)
    refine cutHead_ok hc s' g11 ?_
    rw [E.head h0]
    refine AsSlc.eq ew2 ?_
    refine Must.mk (ltN_t h0) ?_
    refine ldVec g11 (Has.skip (Has.skip Has.vec)) ew2 rw0 (i := 0) (j := 0) rfl (by omega) rfl ?_
    repeat (refine gO ?_; intros)
    refine ldVec g11 (Has.skip (Has.skip Has.vec)) ew2 rw0 (i := 0) (j := 0) rfl (by omega) rfl ?_
    repeat (refine gO ?_; intros)
    refine ldVec g11 (Has.skip (Has.skip Has.vec)) ew2 rw0 (i := 0) (j := 0) rfl (by omega) rfl ?_
    refine Same.int ?_
    refine Cd.f (by rw [eqN_t rfl]; rfl) ?_
    refine nwR g11 fun p67 H68 h68 => ?_
    refine keepsTail hc (n := was.length) (fl := fl) (st := was) (nd := nd) (ww := ww) (wn := wn) (asked := asked) (by repeat (first | exact Has.nums | exact Has.vec | exact h1 | exact h2 | exact h3 | apply Has.skip)) (by repeat (first | exact Has.nums | exact Has.vec | exact h1 | exact h2 | exact h3 | apply Has.skip)) g11 h68 Has.vec (Has.skip Has.vec) hl2 hl3 hb hn (by omega) ?_ ?_ ?_ ?_ ?_
    all_goals exact fun _ _ _ => rfl
  · refine Cd.f (ltZ_f (by omega)) ?_
    refine nwR g11 fun p67 H68 h68 => ?_
    refine keepsTail hc (n := was.length) (fl := fl) (st := was) (nd := nd) (ww := ww) (wn := wn) (asked := asked) (by repeat (first | exact Has.nums | exact Has.vec | exact h1 | exact h2 | exact h3 | apply Has.skip)) (by repeat (first | exact Has.nums | exact Has.vec | exact h1 | exact h2 | exact h3 | apply Has.skip)) g11 h68 Has.vec (Has.skip Has.vec) hl2 hl3 hb hn (by omega) ?_ ?_ ?_ ?_ ?_
    all_goals exact fun _ _ _ => rfl
end Go.Proofs.Ytlabejmlkhgeoaa

