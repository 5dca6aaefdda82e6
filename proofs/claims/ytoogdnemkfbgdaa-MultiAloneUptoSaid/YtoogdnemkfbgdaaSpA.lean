/- What the functions do to the memories and procs that they are given: their contracts. The conditions stand in each. -/
import Derived.Test.YtoogdnemkfbgdaaDec
import Derived.Test.YtoogdnemkfbgdaaCmF
import Derived.Sort.AssemblyPlain
set_option linter.unusedVariables false
set_option linter.unusedSimpArgs false

set_option linter.unusedVariables false
set_option linter.unusedSimpArgs false
namespace Go.Proofs.Ytoogdnemkfbgdaa
open Go Go.CM
abbrev lives : List Nat := [5]
abbrev tPl : Nat := 101
abbrev tA : Nat := 118
abbrev tU : Nat := 22
abbrev tAS : Nat := 98
abbrev tUS : Nat := 57
abbrev MemP (m : Nat) (M : Mem) : HP := MemAt tPl tA tU m M
abbrev RefP (m : Nat) (M : Mem) : HP := RefAt tA tU m M
attribute [local irreducible] AsBool AsWant AsNat AsInt AsCnt AsPtr AsSlc AsLen AsStr AsAgg AsTup AsFn AsIfc Nth Sc NotNil IsNil Must Cd codeW funW Sat SatL wrapN subM mkRow ltZ leZ ltN leN
variable {con : CallT}
theorem el_acc : elemOk Try.prog tAS tA 8 80 = true := by kernel_rfl
theorem el_u64 : elemOk Try.prog tUS tU 1 8 = true := by kernel_rfl
theorem sl_acc : ∃ e,Try.prog.underlying tAS = some (.slice e) := ⟨tA,by kernel_rfl⟩
theorem sl_u64 : ∃ e,Try.prog.underlying tUS = some (.slice e) := ⟨tU,by kernel_rfl⟩
theorem off1 (a : Nat) : Nat.add 0 (Nat.mul a 1) = a := by show 0 + a * 1 = a; omega
theorem map_get (l : List Nat) {a : Nat} (h : a < l.length) : (l.map u64)[a]? = some (u64 (l.getD a 0)) := by
 rw [List.getElem?_map,List.getElem?_eq_getElem h,List.getD_eq_getElem?_getD,List.getElem?_eq_getElem h]; rfl
theorem plainSize_ok (hc : Con con lives) {L : List HP} {H : CH} {b x c n : Nat} {o : Nat} {f : Value} {K : KP} (hs : Sat L H) [HasCell L b [slc x o n c,f]] (k : K (iN n) H) : Call1 Try.prog con 112 [ptr b 0] H K := by
 refine call_of (hc _ _ _ rfl) ?_
 rw [plainSize_W]
 repeat (refine gO ?_; intros)
 exact k
theorem plainLoad_ok (hc : Con con lives) {L : List HP} {H : CH} {b x c n a : Nat} {f v : Value} {cs : List Value} {K : KP} (hs : Sat L H) [HasCell L b [slc x 0 n c,f]] [HasCell L x cs] (ha : a < n) (hv : cs[a]? = some v) (k : K v H) : Call1 Try.prog con 110 [ptr b 0,u64 a] H K := by
 refine call_of (hc _ _ _ rfl) ?_
 rw [plainLoad_W]
 repeat (refine gO ?_; intros)
 refine Must.mk (ltN_t ha) (ld hs (by rw [off1]; exact hv) k)
theorem memHas_ok (hc : Con con lives) {L R : List HP} {H : CH} {m a : Nat} {M : Mem} {K : KP} (hs : Sat L H) (hp : Pull L (MemP m M) R) (k : K (.bool (ltN a M.cells.length)) H) : Call1 Try.prog con 30 [ptr m 0,u64 a] H K := by
 refine call_of (hc _ _ _ rfl) ?_
 rw [memHas_W]
 obtain ⟨h1,h2,s1,s2,d,⟨bp,bl,tr,⟨hn,hf⟩,hin⟩,hR⟩ := hs.opens hp
 have hs1 := Sat.merge s1 s2 d hin hR
 simp only [List.cons_append,List.nil_append] at hs1
 repeat (refine gO ?_; intros)
 refine Mth.of (f := 112) (rc := ptr bp 0) (by kernel_rfl) (by kernel_rfl) ?_
 refine plainSize_ok hc hs1 ?_
 repeat (refine gO ?_; intros)
 refine Must.mk (cv_small (by omega)) ?_
 rw [wrapN_small (by omega)]
 exact k
theorem memPeek_ok (hc : Con con lives) {L R : List HP} {H : CH} {m a : Nat} {M : Mem} {K : KP} (hs : Sat L H) (hp : Pull L (MemP m M) R) (k : K (u64 (M.peek a)) H) : Call1 Try.prog con 23 [ptr m 0,u64 a] H K := by
 refine call_of (hc _ _ _ rfl) ?_
 rw [memPeek_W]
 refine memHas_ok hc hs hp ?_
 obtain ⟨h1,h2,s1,s2,d,⟨bp,bl,tr,⟨hn,hf⟩,hin⟩,hR⟩ := hs.opens hp
 have hs1 := Sat.merge s1 s2 d hin hR
 simp only [List.cons_append,List.nil_append] at hs1
 repeat (refine gO ?_; intros)
 by_cases h : a < M.cells.length
 ·refine Cd.f (by rw [ltN_t h]; rfl) ?_
  repeat (refine gO ?_; intros)
  refine Mth.of (f := 110) (rc := ptr bp 0) (by kernel_rfl) (by kernel_rfl) ?_
  exact plainLoad_ok hc hs1 h (map_get _ h) k
 ·refine Cd.t (by rw [ltN_f (by omega)]; rfl) ?_
  have e : M.peek a = 0 := by unfold Mem.peek; rw [List.getD_eq_getElem?_getD,List.getElem?_eq_none (by omega)]; rfl
  rw [e] at k
  exact k
theorem note_ok (hc : Con con lives) {L R1 R2 R3 : List HP} {H : CH} {p m n : Nat} {th : Int} {M : Mem} {v0 : Value} {c : Acs} {K : KP} (hs : Sat L H) (hm' : Pull L (MemP m M) R1) (hv : Pull R1 (ViewAt p m th n) R2) (hq : Pull R2 (Nums v0 c.vals) R3)
  (hn : n < 1000000000) (ht : M.tr.length < 1000000000) (hv0 : isCell v0 = true) (k : ∀ H1,Sat (MemP m (M.note { c with th := th })::ViewAt p m th (n + 1)::R3) H1→K unit H1) :
  Call1 Try.prog con 32 [ptr p 0,.agg ⟨[i64 (Int.ofNat 0),u8 c.kind,u64 c.a,u64 c.x,u64 c.y,v0,u64 c.got,.bool c.ok]⟩] H K := by
 refine call_of (hc _ _ _ rfl) ?_
 rw [viewNote_W]
 have hs0 := hs.takes (.cons hm' (.cons hv (.cons hq .nil)))
 simp only [List.cons_append,List.nil_append] at hs0
 obtain ⟨h1,h2,s1,s2,d,⟨bp,bl,tr,⟨hn1,hf⟩,hin⟩,hR⟩ := hs0.opens Pull.here
 have hs1 := Sat.merge s1 s2 d hin hR
 simp only [List.cons_append,List.nil_append] at hs1
 obtain ⟨g1,g2,t1,t2,d2,hT,_⟩ := hs1.opens (.there (.there (.there .here)))
 obtain ⟨q,rfl⟩ := hT.shape
 repeat (refine gO ?_; intros)
 refine inR_nat (n := n + 1) (by omega) ?_
 repeat (refine gO ?_; intros)
 refine app_trace (c := { c with th := th }) (v0 := v0) (by assumption) pp pp el_acc (by omega) sl_acc hv0 ht (fun q H1 hs2 => ?_)
 repeat (refine gO ?_; intros)
 refine k _ (Sat.close (L1 := [_,_,_,_]) (Sat.ent (by assumption) ee) fun g a => ⟨bp,bl,_,⟨hn1,hf⟩,a⟩)
end Go.Proofs.Ytoogdnemkfbgdaa

set_option linter.unusedVariables false
set_option linter.unusedSimpArgs false
namespace Go.Proofs.Ytoogdnemkfbgdaa
open Go Go.CM
attribute [local irreducible] AsBool AsWant AsNat AsInt AsCnt AsPtr AsSlc AsLen AsStr AsAgg AsTup AsFn AsIfc Nth Sc NotNil IsNil Must Cd codeW funW Sat SatL wrapN subM mkRow ltZ leZ ltN leN
variable {con : CallT}
theorem viewLoad_ok (hc : Con con lives) {L R1 R2 : List HP} {H : CH} {p m n a : Nat} {th : Int} {M : Mem} {K : KP} (hs : Sat L H) (hm : Pull L (MemP m M) R1) (hv : Pull R1 (ViewAt p m th n) R2)
  (hn : n < 1000000000) (ht : M.tr.length < 1000000000) (k : ∀ H1,Sat (MemP m (M.load th a)::ViewAt p m th (n + 1)::R2) H1→K (u64 (M.peek a)) H1) : Call1 Try.prog con 58 [ptr p 0,u64 a] H K := by
 refine call_of (hc _ _ _ rfl) ?_
 rw [viewLoad_W]
 have hs0 := hs.takes (.cons hm (.cons hv .nil))
 simp only [List.cons_append,List.nil_append] at hs0
 repeat (refine gO ?_; intros)
 refine memPeek_ok hc hs0 pp ?_
 repeat (refine gO ?_; intros)
 refine note_ok (c := accLd 0 a (M.peek a)) (v0 := snil) hc hs0.nil pp pp pp hn ht rfl fun H1 h => ?_
 exact k _ h
theorem plainCas_ok (hc : Con con lives) {L : List HP} {H : CH} {b x c n a y z v : Nat} {f : Value} {cs : List Value} {F : List Value→List HP} {K : KP} (hs : Sat L H) [HasCell L b [slc x 0 n c,f]] [HasObj L x cs F] [HasCell L x cs] (ha : a < n) (hn : n = cs.length) (hv : cs[a]? = some (u64 v))
  (k : v ≠ y→K (.bool false) H) (k2 : v = y→∀ H1,Sat (F (cs.set a (u64 z))) H1→K (.bool true) H1) : Call1 Try.prog con 108 [ptr b 0,u64 a,u64 y,u64 z] H K := by
 refine call_of (hc _ _ _ rfl) ?_
 rw [plainCas_W]
 repeat (refine gO ?_; intros)
 refine Must.mk (ltN_t ha) (ld hs (by rw [off1]; exact hv) ?_)
 repeat (refine gO ?_; intros)
 by_cases e : v = y
 ·refine Cd.f (by rw [eqN_t e]; rfl) ?_
  repeat (refine gO ?_; intros)
  refine Must.mk (ltN_t ha) (st hs (by rw [off1]; omega) rfl fun H1 h => k2 e H1 ?_)
  rw [off1] at h
  exact h
 ·exact Cd.t (by rw [eqN_f e]; rfl) (k e)
theorem viewCas_ok (hc : Con con lives) {L R1 R2 : List HP} {H : CH} {p m n a x y : Nat} {th : Int} {M : Mem} {K : KP} (hs : Sat L H) (hm : Pull L (MemP m M) R1) (hv : Pull R1 (ViewAt p m th n) R2)
  (hn : n < 1000000000) (ht : M.tr.length < 1000000000) (k : ∀ H1,Sat (MemP m (M.cas th a x y)::ViewAt p m th (n + 1)::R2) H1→K (.bool (M.swaps a x)) H1) : Call1 Try.prog con 69 [ptr p 0,u64 a,u64 x,u64 y] H K := by
 refine call_of (hc _ _ _ rfl) ?_
 rw [viewCas_W]
 have hs0 := hs.takes (.cons hm (.cons hv .nil))
 simp only [List.cons_append,List.nil_append] at hs0
 repeat (refine gO ?_; intros)
 refine memHas_ok hc hs0 pp ?_
 repeat (refine gO ?_; intros)
 refine Cd.of (fun hlt => ?_) (fun hge => ?_)
 ·have hlt' : a < M.cells.length := ltN_iff.1 hlt
  obtain ⟨h1,h2,s1,s2,d,⟨bp,bl,tr,⟨hn1,hf⟩,hin⟩,hR⟩ := hs0.opens Pull.here
  have hs1 := Sat.merge s1 s2 d hin hR
  simp only [List.cons_append,List.nil_append] at hs1
  repeat (refine gO ?_; intros)
  refine Mth.of (f := 108) (rc := ptr bp 0) (by kernel_rfl) (by kernel_rfl) ?_
  refine plainCas_ok hc hs1 hlt' (by simp) (map_get _ hlt') (fun hne => ?_) (fun he H1 h => ?_)
  ·have e : M.swaps a x = false := by unfold Mem.swaps Mem.peek; rw [decide_eq_false hne,Bool.and_false]
   repeat (refine gO ?_; intros)
   refine note_ok (c := accCas 0 a x y false) (v0 := snil) hc hs0.nil pp pp pp hn ht rfl fun H1 h => ?_
   have e2 : M.cas th a x y = M.note { accCas 0 a x y false with th := th } := by unfold Mem.cas; rw [e]; rfl
   rw [← e2] at h
   rw [← e]
   exact k _ h
  ·have e : M.swaps a x = true := by unfold Mem.swaps Mem.peek; rw [decide_eq_true hlt',decide_eq_true he]; rfl
   rw [← List.map_set] at h
   have hs2 : Sat (MemP m (M.put a y)::ViewAt p m th n::R2) H1 := Sat.close (L1 := [_,_,_,_]) (h.ent ee) fun g a => ⟨bp,bl,tr,⟨by rw [put_len]; exact hn1,by rw [put_len]; exact hf⟩,by rw [put_len]; exact a⟩
   repeat (refine gO ?_; intros)
   refine note_ok (M := M.put a y) (c := accCas 0 a x y true) (v0 := snil) hc hs2.nil pp pp pp hn ht rfl fun H1 h => ?_
   have e2 : M.cas th a x y = (M.put a y).note { accCas 0 a x y true with th := th } := by unfold Mem.cas; rw [e]; rfl
   rw [← e2] at h
   rw [← e]
   exact k _ h
 ·have hge' : M.cells.length ≤ a := by
   rcases Nat.lt_or_ge a M.cells.length with h | h
   ·rw [ltN_t h] at hge; cases hge
   ·exact h
  have e : M.swaps a x = false := by unfold Mem.swaps; rw [decide_eq_false (by omega)]; rfl
  refine note_ok (c := accCas 0 a x y false) (v0 := snil) hc hs0.nil pp pp pp hn ht rfl fun H1 h => ?_
  have e2 : M.cas th a x y = M.note { accCas 0 a x y false with th := th } := by unfold Mem.cas; rw [e]; rfl
  rw [← e2] at h
  rw [← e]
  exact k _ h
theorem memView_ok (hc : Con con lives) {L : List HP} {H : CH} {m : Nat} {th : Int} {K : KP} (hs : Sat L H) (k : ∀ p H1,Sat (ViewAt p m th 0::L) H1→K (ptr p 0) H1) : Call1 Try.prog con 6 [ptr m 0,i64 th] H K := by
 refine call_of (hc _ _ _ rfl) ?_
 rw [memView_W]
 exact nw hs k
def mem0 (n : Nat) : Mem := { cells := List.replicate n 0,free := 1,tr := [] }
theorem zero_u : (zeroOf Try.prog tU).map cellsF = some [u64 0] := by kernel_rfl
theorem rep_u (n : Nat) : (List.replicate n [u64 0]).flatten = (List.replicate n 0).map u64 := by
 induction n with
 | zero => rfl
 | succ n ih => rw [List.replicate_succ,List.replicate_succ,List.flatten_cons,List.map_cons,ih]; rfl
theorem arenaNew_ok (hc : Con con lives) {L : List HP} {H : CH} {n : Nat} {K : KP} (hs : Sat L H) (h1 : 128 ≤ n) (h2 : n ≤ 4194304) (k : ∀ m H1,Sat (MemP m (mem0 n)::L) H1→K (.tuple ⟨[ptr m 0,iN 0]⟩) H1) : Call1 Try.prog con 15 [iN n,.bool false] H K := by
 refine call_of (hc _ _ _ rfl) ?_
 rw [arenaNew_W]
 refine Cd.f (ltZ_f (by omega)) ?_
 refine Cd.f (ltZ_f (by omega)) ?_
 repeat (refine gO ?_; intros)
 refine mkS hs el_u64 zero_u (Nat.le_refl n) (by omega) (by omega) fun b H1 h => ?_
 rw [rep_u] at h
 refine Sc.mk rfl ?_
 refine nw h fun bp H2 h2 => nw h2 fun m H3 h3 => ?_
 refine k _ _ (Sat.close (L1 := [Own m [.iface tPl (ptr bp 0),.bool false,snil],Own bp [slc b 0 n n,iN 1],Row b tU 0 true ((List.replicate n 0).map u64),TrAt snil tA []]) (Sat.ent (Sat.nilT (e := tA) h3) ee) fun g a => ⟨bp,b,snil,⟨by simp [mem0]; omega,by simp [mem0]; omega⟩,by simpa only [mem0,List.length_replicate] using a⟩)
theorem refNew_ok (hc : Con con lives) {L : List HP} {H : CH} {n : Nat} {K : KP} (hs : Sat L H) (h1 : 128 ≤ n) (h2 : n ≤ 4194304) (k : ∀ m H1,Sat (RefP m (mem0 n)::L) H1→K (.tuple ⟨[ptr m 0,iN 0]⟩) H1) : Call1 Try.prog con 16 [iN n,.bool false] H K := by
 refine call_of (hc _ _ _ rfl) ?_
 rw [refNew_W]
 refine Cd.f (ltZ_f (by omega)) ?_
 refine Cd.f (ltZ_f (by omega)) ?_
 refine mkS hs el_u64 zero_u (Nat.le_refl n) (by omega) (by omega) fun b H1 h => ?_
 rw [rep_u] at h
 refine Sc.mk rfl ?_
 refine nw h fun m H3 h3 => ?_
 refine k _ _ (Sat.close (L1 := [Own m [slc b 0 n n,iN 1,snil,.bool false],Row b tU 0 true ((List.replicate n 0).map u64),TrAt snil tA []]) (Sat.ent (Sat.nilT (e := tA) h3) ee) fun g a => ⟨b,snil,⟨by simp [mem0]; omega,by simp [mem0]; omega⟩,by simpa only [mem0,List.length_replicate] using a⟩)
theorem refNote_ok (hc : Con con lives) {L R2 R3 : List HP} {H : CH} {m : Nat} {M : Mem} {v0 : Value} {c : Acs} {K : KP} (hs : Sat L H) (hm' : Pull L (RefP m M) R2) (hq : Pull R2 (Nums v0 c.vals) R3)
  (ht : M.tr.length < 1000000000) (hv0 : isCell v0 = true) (k : ∀ H1,Sat (RefP m (M.note c)::R3) H1→K unit H1) :
  Call1 Try.prog con 35 [ptr m 0,.agg ⟨[i64 c.th,u8 c.kind,u64 c.a,u64 c.x,u64 c.y,v0,u64 c.got,.bool c.ok]⟩] H K := by
 refine call_of (hc _ _ _ rfl) ?_
 rw [refNote_W]
 have hs0 := hs.takes (.cons hm' (.cons hq .nil))
 simp only [List.cons_append,List.nil_append] at hs0
 obtain ⟨h1,h2,s1,s2,d,⟨bl,tr,⟨hn1,hf⟩,hin⟩,hR⟩ := hs0.opens Pull.here
 have hs1 := Sat.merge s1 s2 d hin hR
 simp only [List.cons_append,List.nil_append] at hs1
 obtain ⟨g1,g2,t1,t2,d2,hT,_⟩ := hs1.opens (A := TrAt tr tA M.tr) (.there (.there .here))
 obtain ⟨q,rfl⟩ := hT.shape
 repeat (refine gO ?_; intros)
 refine app_trace (c := c) (v0 := v0) (by assumption) pp pp el_acc (by omega) sl_acc hv0 ht (fun q H1 hs2 => ?_)
 repeat (refine gO ?_; intros)
 refine k _ (Sat.close (L1 := [_,_,_]) (Sat.ent (by assumption) ee) fun g a => ⟨bl,_,⟨hn1,hf⟩,a⟩)
end Go.Proofs.Ytoogdnemkfbgdaa

set_option linter.unusedVariables false
set_option linter.unusedSimpArgs false
namespace Go.Proofs.Ytoogdnemkfbgdaa
open Go Go.CM
attribute [local irreducible] AsBool AsWant AsNat AsInt AsCnt AsPtr AsSlc AsLen AsStr AsAgg AsTup AsFn AsIfc Nth Sc NotNil IsNil Must Cd codeW funW Sat SatL wrapN subM mkRow ltZ leZ ltN leN
variable {con : CallT}
theorem cloneN_ok (hc : Con con lives) {L : List HP} {H : CH} {v : Value} {l : List Nat} {K : KP} (hs : Sat L H) (hq : Has L (Nums v l)) (hl : l.length ≤ 1000000000) (k : ∀ v' H1,isCell v' = true→Sat (Nums v' l::L) H1→K v' H1) : Call1 Try.prog con 33 [v] H K := by
 refine call_of (hc _ _ _ rfl) ?_
 rw [cloneN_W]
 rcases (hs.has hq).shape with ⟨rfl,rfl⟩ | ⟨b,o,c,rfl⟩
 ·repeat (refine gO ?_; intros)
  exact k _ _ rfl hs.nil
 ·refine IsNil.slc (Cd.f rfl ?_)
  refine nwR hs fun p H1 h1 => ?_
  rcases Nat.eq_zero_or_pos l.length with h0 | hpos
  ·have hl0 : l = [] := List.eq_nil_of_length_eq_zero h0
   subst hl0
   refine app_none h1 el_u64 sl_u64 (Src.skip (hq.src rfl)) ?_
   exact k _ _ rfl (h1.imp fun g r => .inr ⟨p,0,0,tU,0,true,[],rfl,Nat.le_refl _,Nat.le_refl _,rfl,r⟩)
  ·refine app_clone (new := l.map fun x => [u64 x]) h1 el_u64 (by omega) sl_u64 (by rw [flat1]; exact hq.src rfl) (by simp) (by simp) hl hpos fun v' H2 h2 => ?_
   have h3 : Sat (Nums v' l::L) H2 := h2.imp fun g a => a.nums
   refine k _ _ ?_ h3
   obtain ⟨p,c,rfl⟩ := (h3.has Has.nums).len
   rfl
end Go.Proofs.Ytoogdnemkfbgdaa

set_option linter.unusedVariables false
set_option linter.unusedSimpArgs false
namespace Go.Proofs.Ytoogdnemkfbgdaa
open Go Go.CM
attribute [local irreducible] AsBool AsWant AsNat AsInt AsCnt AsPtr AsSlc AsLen AsStr AsAgg AsTup AsFn AsIfc Nth Sc NotNil IsNil Must Cd codeW funW Sat SatL wrapN subM mkRow ltZ leZ ltN leN
variable {con : CallT}
theorem plainAlloc_ok (hc : Con con lives) {R : List HP} {H : CH} {bp bl fr : Nat} {cells vals : List Nat} {v : Value} {K : KP} (hs : Sat (Own bp [slc bl 0 cells.length cells.length,iN fr]::Row bl tU 0 true (cells.map u64)::R) H)
  (hn : cells.length ≤ 4194304) (hf : fr ≤ cells.length) (hv : Has R (Nums v vals)) (hl : vals.length ≤ 1000000000) (hp : 0 < vals.length)
  (k0 : cells.length - fr < vals.length→K (u64 0) H) (k1 : vals.length ≤ cells.length - fr→∀ H1,Sat (Own bp [slc bl 0 cells.length cells.length,iN (fr + vals.length)]::Row bl tU 0 true ((ovN vals cells fr).map u64)::R) H1→K (u64 fr) H1) :
  Call1 Try.prog con 107 [ptr bp 0,v] H K := by
 refine call_of (hc _ _ _ rfl) ?_
 rw [plainAlloc_W]
 rcases (hs.has (Has.skip (Has.skip hv))).shape with ⟨rfl,rfl⟩ | ⟨b,o,c,rfl⟩
 ·simp at hp
 repeat (refine gO ?_; intros)
 rw [subInt hf]
 refine inR_nat (by omega) ?_
 refine Cd.of (fun h => ?_) (fun h => ?_)
 ·refine k0 ?_
  exact ltZ_e h
 ·have hle : vals.length ≤ cells.length - fr := ltZ_n h
  repeat (refine gO ?_; intros)
  have hs2 : Sat (Row bl tU 0 true (cells.map u64)::Own bp [slc bl 0 cells.length cells.length,iN fr]::R) H := hs.ent ee
  refine slcR hs2 el_u64 hf (Nat.le_refl _) fun o' ho' => ?_
  obtain rfl := ho' (by omega)
  refine cpy (n := vals.length) hs el_u64 (Nat.min_eq_left (by omega)) (Src.skip (Src.skip (hv.src rfl))) (by simp) (by simp; omega) (isCell_u64 _) fun H1 h1 => ?_
  rw [Nat.mul_one,ovw_map] at h1
  repeat (refine gO ?_; intros)
  rw [addInt]
  refine inR_nat (by omega) ?_
  refine stB h1 rfl rfl fun H2 h2 => ?_
  repeat (refine gO ?_; intros)
  refine Must.mk (cv_small (by omega)) ?_
  rw [wrapN_small (by omega)]
  exact k1 hle _ h2
theorem viewAlloc_ok (hc : Con con lives) {L R1 R2 : List HP} {H : CH} {p m n : Nat} {th : Int} {M : Mem} {v : Value} {vals : List Nat} {K : KP} (hs : Sat L H) (hm : Pull L (MemP m M) R1) (hv : Pull R1 (ViewAt p m th n) R2) (hq : Has R2 (Nums v vals)) (hl : vals.length ≤ 1000000000)
  (hn : n < 1000000000) (ht : M.tr.length < 1000000000) (k : ∀ H1,Sat (MemP m (M.alloc th vals)::ViewAt p m th (n + 1)::R2) H1→K (u64 (M.room vals)) H1) : Call1 Try.prog con 26 [ptr p 0,v] H K := by
 refine call_of (hc _ _ _ rfl) ?_
 rw [viewAlloc_W]
 have hs0 := hs.takes (.cons hm (.cons hv .nil))
 simp only [List.cons_append,List.nil_append] at hs0
 have tail : ∀ {a : Nat} {M' : Mem} {H1 : CH} {K' : KP},Sat (MemP m M'::ViewAt p m th n::R2) H1→M'.tr.length < 1000000000→(∀ H2,Sat (MemP m (M'.note (accNew th a vals))::ViewAt p m th (n + 1)::R2) H2→K' (u64 a) H2) →
   Call1 Try.prog con 33 [v] H1 fun v8 H9 => Sc (u64 a) (Sc v8 (Call1 Try.prog con 32 [ptr p 0,.agg ⟨[i64 (Int.ofNat 0),u8 5,u64 a,u64 0,u64 0,v8,u64 0,.bool false]⟩] H9 fun v10 H11 => K' (u64 a) H11)) := by
  intro a M' H1 K' h1 ht' k'
  refine cloneN_ok hc h1 (Has.skip (Has.skip hq)) hl fun v' H2 hc' h2 => ?_
  refine Sc.mk rfl (Sc.mk hc' ?_)
  exact note_ok (th := th) (M := M') (c := accNew 0 a vals) (v0 := v') hc h2 pp pp pp hn ht' hc' fun H3 h3 => k' _ h3
 obtain ⟨pv,cv,rfl⟩ := (hs0.has (Has.skip (Has.skip hq))).len
 repeat (refine gO ?_; intros)
 refine Cd.of (fun h => ?_) (fun h => ?_)
 ·have hpos : 0 < vals.length := ltZ_e h
  obtain ⟨h1,h2,s1,s2,d,⟨bp,bl,tr,⟨hn1,hf1⟩,hin⟩,hR⟩ := hs0.opens Pull.here
  have hs1 := Sat.merge s1 s2 d hin hR
  simp only [List.cons_append,List.nil_append] at hs1
  repeat (refine gO ?_; intros)
  refine Mth.of (f := 107) (rc := ptr bp 0) (by kernel_rfl) (by kernel_rfl) ?_
  have hs2 : Sat (Own bp [slc bl 0 M.cells.length M.cells.length,iN M.free]::Row bl tU 0 true (M.cells.map u64)::Own m [.iface tPl (ptr bp 0),.bool false,tr]::TrAt tr tA M.tr::ViewAt p m th n::R2) H := hs1.ent ee
  refine plainAlloc_ok hc hs2 hn1 hf1 (Has.skip (Has.skip (Has.skip hq))) hl hpos (fun hlt => ?_) (fun hle H3 h3 => ?_)
  ·have hno : ¬ (0 < vals.length∧vals.length ≤ M.cells.length - M.free) := by omega
   have e1 := room_f hno
   rw [alloc_f hno,e1] at k
   exact tail hs0 ht k
  ·rw [alloc_t hpos hle,room_t hpos hle] at k
   have h4 : Sat (MemP m (M.take vals)::ViewAt p m th n::R2) H3 := Sat.close (L1 := [Own m [.iface tPl (ptr bp 0),.bool false,tr],Own bp [slc bl 0 M.cells.length M.cells.length,iN (M.free + vals.length)],Row bl tU 0 true ((ovN vals M.cells M.free).map u64),TrAt tr tA M.tr]) (h3.ent ee) fun g a => ⟨bp,bl,tr,⟨by show (ovN vals M.cells M.free).length ≤ _; rw [ovN_len]; exact hn1,by show M.free + vals.length ≤ (ovN vals M.cells M.free).length; rw [ovN_len]; omega⟩,by show SatL [_,Own bp [slc bl 0 (ovN vals M.cells M.free).length (ovN vals M.cells M.free).length,iN (M.free + vals.length)],_,_] g; rw [ovN_len]; exact a⟩
   exact tail h4 ht k
 ·have h0 : vals.length = 0 := by
   have := ltZ_n h
   omega
  have hno : ¬ (0 < vals.length∧vals.length ≤ M.cells.length - M.free) := by omega
  rw [alloc_f hno,room_f hno] at k
  have := tail (a := 0) (K' := K) hs0 ht k
  refine cloneN_ok hc hs0 (Has.skip (Has.skip hq)) hl fun v' H2 hc' h2 => ?_
  refine Sc.mk hc' ?_
  exact note_ok (th := th) (M := M) (c := accNew 0 0 vals) (v0 := v') hc h2 pp pp pp hn ht hc' fun H3 h3 => k _ h3
theorem refLeft_ok (hc : Con con lives) {L R : List HP} {H : CH} {m : Nat} {M : Mem} {K : KP} (hs : Sat L H) (hp : Pull L (RefP m M) R) (k : M.free ≤ M.cells.length→M.cells.length ≤ 4194304→K (iN (M.cells.length - M.free)) H) : Call1 Try.prog con 34 [ptr m 0] H K := by
 refine call_of (hc _ _ _ rfl) ?_
 rw [refLeft_W]
 obtain ⟨h1,h2,s1,s2,d,⟨bl,tr,⟨hn,hf⟩,hin⟩,hR⟩ := hs.opens hp
 have hs1 := Sat.merge s1 s2 d hin hR
 simp only [List.cons_append,List.nil_append] at hs1
 repeat (refine gO ?_; intros)
 rw [subInt hf]
 refine inR_nat (by omega) ?_
 exact k hf hn
theorem refAlloc_ok (hc : Con con lives) {L R : List HP} {H : CH} {m : Nat} {th : Int} {M : Mem} {v : Value} {vals : List Nat} {K : KP} (hs : Sat L H) (hp : Pull L (RefP m M) R) (hq : Has R (Nums v vals)) (hl : vals.length ≤ 1000000000)
  (ht : M.tr.length < 1000000000) (k : ∀ H1,Sat (RefP m (M.alloc th vals)::R) H1→K (u64 (M.room vals)) H1) : Call1 Try.prog con 28 [ptr m 0,i64 th,v] H K := by
 refine call_of (hc _ _ _ rfl) ?_
 rw [refAlloc_W]
 have hs0 := hs.pull hp
 have app : ∀ {M' : Mem} {H1 : CH} {K' : KP},Sat (RefP m M'::R) H1→(∀ v' H2,isCell v' = true→Sat (Nums v' vals::RefP m M'::R) H2→K' v' H2)→App Try.prog tUS tUS H1 (.slice none 0 0) v K' := by
  intro M' H1 K' h1 k'
  have h2 := h1.nilV (e := tU) (s := 1)
  rcases (h1.has (Has.skip hq)).shape with ⟨rfl,rfl⟩ | ⟨b,o,c,rfl⟩
  ·exact App.of (v := snil) (H1 := H1) (by kernel_rfl) (k' _ _ rfl h1.nil)
  ·refine app_vec (x := .slice none 0 0) (new := vals.map fun x => [u64 x]) h2 pp el_u64 (by omega) sl_u64 (by rw [flat1]; exact Src.skip (Src.skip (hq.src rfl))) (by simp) (by simp) (by simpa using hl) (by rw [flat1]; exact isCell_u64 _) fun v' H2 h3 => ?_
   rw [List.nil_append] at h3
   have h4 : Sat (Nums v' vals::RefP m M'::R) H2 := h3.imp fun g a => a.nums
   obtain ⟨p,c',rfl⟩ := (h4.has Has.nums).len
   exact k' _ _ rfl h4
 have tail : ∀ {a : Nat} {M' : Mem} {H1 : CH} {K' : KP},a < 9223372036854775808→Sat (RefP m M'::R) H1→M'.tr.length < 1000000000→(∀ H2,Sat (RefP m (M'.note (accNew th a vals))::R) H2→K' (u64 a) H2) →
   App Try.prog tUS tUS H1 (.slice none 0 0) v fun v26 H27 => Must (cvOk .i64 (Int.ofNat a)) (Sc v26 (Call1 Try.prog con 35 [ptr m 0,.agg ⟨[i64 th,u8 5,u64 (wrapN .u64 (Int.ofNat a)),u64 0,u64 0,v26,u64 0,.bool false]⟩] H27 fun v28 H29 => Must (cvOk .i64 (Int.ofNat a)) (K' (u64 (wrapN .u64 (Int.ofNat a))) H29))) := by
  intro a M' H1 K' ha h1 ht' k'
  refine app h1 fun v' H2 hc' h2 => ?_
  refine Must.mk (cv_small ha) (Sc.mk hc' ?_)
  rw [wrapN_small (by omega)]
  exact refNote_ok (M := M') (c := accNew th a vals) (v0 := v') hc h2 pp pp ht' hc' fun H3 h3 => Must.mk (cv_small ha) (k' _ h3)
 obtain ⟨pv,cv,ev⟩ := (hs0.has (Has.skip hq)).len
 have eL : ∀ {K : Nat→Prop},K vals.length→AsLen v K := fun {K} h => by rw [ev]; exact AsLen.mk h
 refine eL ?_
 refine Cd.of (fun h => ?_) (fun h => ?_)
 ·have hpos : 0 < vals.length := ltZ_e h
  refine eL ?_
  refine refLeft_ok hc hs0 pp fun hfree hcells => ?_
  repeat (refine gO ?_; intros)
  refine Cd.of (fun h => ?_) (fun h => ?_)
  ·have hle : vals.length ≤ M.cells.length - M.free := leZ_e h
   rw [alloc_t hpos hle,room_t hpos hle] at k
   obtain ⟨h1,h2,s1,s2,d,⟨bl,tr,⟨hn1,hf1⟩,hin⟩,hR⟩ := hs0.opens Pull.here
   have hs1 := Sat.merge s1 s2 d hin hR
   simp only [List.cons_append,List.nil_append] at hs1
   refine ld hs1 rfl (ld hs1 rfl (eL (AsInt.mk ?_)))
   rw [addInt]
   refine inR_nat (by omega) ?_
   refine stB hs1 rfl rfl fun H2 h2 => ?_
   refine LoopC.indP (n := 100) (id := 0) (fun σ H => σ 0 = ptr m 0∧σ 1 = i64 th∧σ 2 = v∧σ 7 = iN M.free∧Sat (RefP m (M.take vals)::R) H) (by kernel_rfl)
    (fun (i : Nat) σ H => σ 0 = ptr m 0∧σ 1 = i64 th∧σ 2 = v∧σ 7 = iN M.free∧σ 8 = iN i∧i ≤ vals.length∧∃ cs : List Nat,cs.length = M.cells.length∧ovN (vals.drop i) cs (M.free + i) = ovN vals M.cells M.free ∧
     Sat (Own m [slc bl 0 M.cells.length M.cells.length,iN (M.free + vals.length),tr,.bool false]::Row bl tU 0 true (cs.map u64)::TrAt tr tA M.tr::R) H) (fun i => vals.length - i) (fun i σ H hI => ?_) (fun σ H hP => ?_) 0 _ _
    ⟨rfl,rfl,rfl,rfl,rfl,Nat.zero_le _,M.cells,rfl,rfl,h2⟩
   ·obtain ⟨e0,e1,e2,e7,e8,hi,cs,hcs,hov,hs2⟩ := hI
    rw [refAllocL_W]
    simp only [e0,e1,e2,e7,e8]
    refine eL ?_
    repeat (refine gO ?_; intros)
    by_cases hlt : i < vals.length
    ·refine Cd.t (ltZ_t hlt) ?_
     repeat (refine gO ?_; intros)
     rw [addInt]
     refine inR_nat (by omega) ?_
     have eS : ∃ b o c,v = slc b o vals.length c := by
      rcases (hs2.has (Has.skip (Has.skip (Has.skip hq)))).shape with ⟨_,h4⟩ | ⟨b,o,c,h⟩
      ·rw [h4] at hlt; simp at hlt
      ·exact ⟨b,o,c,h⟩
     obtain ⟨b,o,c,e3⟩ := eS
     have hsrc := hq.src e3
     rw [e3]
     repeat (refine gO ?_; intros)
     refine Must.mk (ltN_t hlt) ?_
     refine ldSrc hs2 (Src.skip (Src.skip (Src.skip hsrc))) (by rw [show Nat.mul i 1 = i from Nat.mul_one i]; rfl) (map_get _ hlt) ?_
     repeat (refine gO ?_; intros)
     refine Must.mk (ltN_t (by omega)) ?_
     refine Sc.mk rfl (st hs2 (by rw [off1]; simp [hcs]; omega) rfl fun H5 h5 => ?_)
     rw [off1,← List.map_set] at h5
     repeat (refine gO ?_; intros)
     rw [show Int.add (Int.ofNat i) (Int.ofNat 1) = Int.ofNat (i + 1) from rfl]
     refine inR_nat (n := i + 1) (by omega) ?_
     show ∃ y,_∧_
     refine ⟨i + 1,by omega,e0,e1,e2.trans e3,e7,rfl,hlt,cs.set (M.free + i) (vals.getD i 0),by simp [hcs],?_,h5⟩
     rw [← hov,List.drop_eq_getElem_cons hlt,ovN,List.getD_eq_getElem?_getD,List.getElem?_eq_getElem hlt]
     rfl
    ·refine Cd.f (ltZ_f (by omega)) ?_
     show _ = _∧_
     have : i = vals.length := by omega
     subst this
     rw [List.drop_of_length_le (Nat.le_refl _)] at hov
     simp only [ovN] at hov
     subst hov
     exact ⟨rfl,e0,e1,e2,e7,Sat.close (L1 := [_,_,_]) (hs2.ent ee) fun g a => ⟨bl,tr,⟨by show (ovN vals M.cells M.free).length ≤ _; rw [ovN_len]; exact hn1,by show M.free + vals.length ≤ (ovN vals M.cells M.free).length; rw [ovN_len]; omega⟩,by show SatL [Own m [slc bl 0 (ovN vals M.cells M.free).length (ovN vals M.cells M.free).length,iN (M.free + vals.length),tr,.bool false],_,_] g; rw [ovN_len]; exact a⟩⟩
   ·obtain ⟨e0,e1,e2,e7,hs2⟩ := hP
    show Cd _ _ _
    refine Cd.t (eqN_self 0) ?_
    simp only [e0,e1,e2,e7]
    refine app hs2 fun v' H2 hc' h2 => ?_
    refine AsInt.mk (Must.mk (cv_small (by omega)) (Sc.mk rfl (Sc.mk hc' ?_)))
    rw [wrapN_small (by omega)]
    exact refNote_ok (M := M.take vals) (c := accNew th M.free vals) (v0 := v') hc h2 pp pp ht hc' fun H3 h3 => AsInt.mk (Must.mk (cv_small (by omega)) (by rw [wrapN_small (by omega)]; exact k _ h3))
  ·have hno : ¬ (0 < vals.length∧vals.length ≤ M.cells.length - M.free) := by
    have := leZ_n h
    omega
   rw [alloc_f hno,room_f hno] at k
   exact tail (a := 0) (by omega) hs0 ht k
 ·have hno : ¬ (0 < vals.length∧vals.length ≤ M.cells.length - M.free) := by
   have := ltZ_n h
   omega
  rw [alloc_f hno,room_f hno] at k
  exact tail (a := 0) (by omega) hs0 ht k
end Go.Proofs.Ytoogdnemkfbgdaa

set_option linter.unusedVariables false
set_option linter.unusedSimpArgs false
namespace Go.Proofs.Ytoogdnemkfbgdaa
open Go Go.CM
abbrev m64 (x : Nat) : Nat := x % 18446744073709551616
structure SettP where
 word : Nat
 at_ : Nat
 p : Nat
 a : Nat
 o : Nat
 w : Nat
 s : Nat
def SettP.go (x : SettP) (M : Mem) (th : Int) : SettP × Mem × Bool :=
 if x.at_ = 0 then ({ x with at_ := 1,p := M.peek (x.word / 4) },M.load th (x.word / 4),false)
 else if x.at_ = 1 then ({ x with at_ := 2,a := M.peek (m64 (x.word / 4 + 1)) },M.load th (m64 (x.word / 4 + 1)),false)
 else if x.at_ = 2 then ({ x with at_ := 3,o := M.peek (m64 (x.word / 4 + 2)) },M.load th (m64 (x.word / 4 + 2)),false)
 else if x.at_ = 3 then ({ x with at_ := 4,w := M.peek (m64 (x.word / 4 + 3)) },M.load th (m64 (x.word / 4 + 3)),false)
 else if x.at_ = 4 then ({ x with at_ := 5,s := M.peek x.p },M.load th x.p,false)
 else ({ x with at_ := x.at_ + 1 },M.cas th x.a x.word (if x.s = 0 then x.w else x.o),true)
structure SettD where
 at_ : Nat
 r : Nat
 p : Nat
 a : Nat
 o : Nat
 w : Nat
def SettD.go (x : SettD) (M : Mem) (th : Int) : SettD × Mem × Bool :=
 if x.at_ = 0 then ({ x with at_ := 1,p := M.peek (x.r / 4) },M.load th (x.r / 4),false)
 else if x.at_ = 1 then ({ x with at_ := 2,a := M.peek (m64 (x.r / 4 + 1)) },M.load th (m64 (x.r / 4 + 1)),false)
 else if x.at_ = 2 then ({ x with at_ := 3,o := M.peek (m64 (x.r / 4 + 2)) },M.load th (m64 (x.r / 4 + 2)),false)
 else if x.at_ = 3 then ({ x with at_ := 4,w := M.peek (m64 (x.r / 4 + 3)) },M.load th (m64 (x.r / 4 + 3)),false)
 else if x.at_ = 4 then ({ x with at_ := 5,w := if M.peek x.p = 0 then x.w else x.o },M.load th x.p,false)
 else if x.at_ = 5 then ({ x with at_ := 6 },M.cas th x.a x.r x.w,true)
 else ({ x with at_ := x.at_ + 1 },M,false)
structure FrP where
 d : Nat
 at_ : Nat
 s : Nat
 n : Nat
 i : Nat
 a : Nat
 o : Nat
 x : Nat
 w : Nat
 oc : Nat
 st : SettP
 meets : Bool
 other : Nat
def FrP.next (f : FrP) (b : Nat) : FrP := if f.n ≤ f.i + b then { f with i := f.i + b,oc := 1,at_ := 10 } else { f with i := f.i + b,at_ := 2 }
def FrP.clear (f : FrP) (i : Nat) : FrP := if f.n ≤ i then { f with i := i,at_ := 15 } else { f with i := i,at_ := 12 }
def lockW (x : Nat) : Nat := m64 (4 * x + 1)
def planW (x : Nat) : Nat := m64 (4 * x + 2)
def FrP.part (f : FrP) (k : Nat) : Nat := m64 (f.d + 2 + 3 * f.i + k)
def sett0 (r : Nat) : SettP := ⟨r,0,0,0,0,0,0⟩
def FrP.look (f : FrP) (r : Nat) : FrP :=
 if r % 4 = 1 then { f with st := sett0 r,at_ := 9 }
 else if r = f.o then { f with at_ := 5 }
 else if r = planW f.d then f.next 1
 else if r % 4 = 2 then { f with meets := true,other := r / 4,at_ := 5 }
 else { f with oc := 2,at_ := 10 }
def FrP.go (f : FrP) (M : Mem) (th : Int) : FrP × Mem :=
 if f.at_ = 0 then ({ f with s := M.peek f.d,at_ := 1 },M.load th f.d)
 else if f.at_ = 1 then (let g : FrP := { f with n := min (M.peek (m64 (f.d + 1))) 16,at_ := 11 }; (if f.s = 0 then g.next 0 else g),M.load th (m64 (f.d + 1)))
 else if f.at_ = 2 then ({ f with a := M.peek (f.part 0),at_ := 3 },M.load th (f.part 0))
 else if f.at_ = 3 then ({ f with o := M.peek (f.part 1),at_ := 4 },M.load th (f.part 1))
 else if f.at_ = 4 then (let y := M.room [f.d,f.a,f.o,planW f.d]; (if y = 0 then { f with x := 0,oc := 3,at_ := 10 } else { f with x := y,at_ := 5 }),M.alloc th [f.d,f.a,f.o,planW f.d])
 else if f.at_ = 5 then ({ f with at_ := if M.swaps f.a f.o then 6 else 8 },M.cas th f.a f.o (lockW f.x))
 else if f.at_ = 6 then ({ f with s := M.peek f.d,at_ := 7 },M.load th f.d)
 else if f.at_ = 7 then (f.next 1,M.cas th f.a (lockW f.x) (if f.s = 0 then planW f.d else f.o))
 else if f.at_ = 8 then (f.look (M.peek f.a),M.load th f.a)
 else if f.at_ = 9 then (let r := f.st.go M th; ({ f with st := r.1,at_ := if r.2.2 then 5 else 9 },r.2.1))
 else if f.at_ = 10 then ({ f with at_ := 11 },M.cas th f.d 0 f.oc)
 else if f.at_ = 11 then (({ f with s := M.peek f.d } : FrP).clear 0,M.load th f.d)
 else if f.at_ = 12 then ({ f with a := M.peek (f.part 0),at_ := 13 },M.load th (f.part 0))
 else if f.at_ = 13 then (let b := f.part (if f.s = 1 then 2 else 1); ({ f with w := M.peek b,at_ := 14 },M.load th b))
 else (f.clear (f.i + 1),M.cas th f.a (planW f.d) f.w)
structure FrD where
 at_ : Nat
 d : Nat
 s : Nat
 n : Nat
 i : Nat
 a : Nat
 o : Nat
 x : Nat
 w : Nat
 oc : Nat
 st : SettD
def FrD.next (f : FrD) : FrD := if f.n ≤ f.i + 1 then { f with i := f.i + 1,oc := 1,at_ := 10 } else { f with i := f.i + 1,at_ := 2 }
def FrD.end_ (f : FrD) : FrD := if f.at_ = 12∧f.n ≤ f.i then { f with at_ := 15 } else f
def FrD.part (f : FrD) (k : Nat) : Nat := m64 (f.d + 2 + 3 * f.i + k)
def settD0 (r : Nat) : SettD := ⟨0,r,0,0,0,0⟩
def FrD.look (f : FrD) (r : Nat) : FrD × Option Nat :=
 if r % 4 = 1 then ({ f with st := settD0 r,at_ := 9 },none)
 else if r = f.o then ({ f with at_ := 5 },none)
 else if r = planW f.d then (f.next,none)
 else if r % 4 = 2 then ({ f with at_ := 5 },some (r / 4))
 else ({ f with oc := 2,at_ := 10 },none)
def FrD.go (f : FrD) (M : Mem) (th : Int) : FrD × Mem × Option Nat :=
 if f.at_ = 0 then ({ f with s := M.peek f.d,at_ := 1 },M.load th f.d,none)
 else if f.at_ = 1 then (let k := min (M.peek (m64 (f.d + 1))) 16; (if f.s ≠ 0 then { f with n := k,i := 0,at_ := 11 } else if k = 0 then { f with n := k,i := 0,oc := 1,at_ := 10 } else { f with n := k,i := 0,at_ := 2 }),M.load th (m64 (f.d + 1)),none)
 else if f.at_ = 2 then ({ f with a := M.peek (f.part 0),at_ := 3 },M.load th (f.part 0),none)
 else if f.at_ = 3 then ({ f with o := M.peek (f.part 1),at_ := 4 },M.load th (f.part 1),none)
 else if f.at_ = 4 then (let y := M.room [f.d,f.a,f.o,planW f.d]; (if y = 0 then { f with x := 0,oc := 3,at_ := 10 } else { f with x := y,at_ := 5 }),M.alloc th [f.d,f.a,f.o,planW f.d],none)
 else if f.at_ = 5 then ({ f with at_ := if M.swaps f.a f.o then 6 else 8 },M.cas th f.a f.o (lockW f.x),none)
 else if f.at_ = 6 then ({ f with w := if M.peek f.d = 0 then planW f.d else f.o,at_ := 7 },M.load th f.d,none)
 else if f.at_ = 7 then (f.next,M.cas th f.a (lockW f.x) f.w,none)
 else if f.at_ = 8 then ((f.look (M.peek f.a)).1,M.load th f.a,(f.look (M.peek f.a)).2)
 else if f.at_ = 9 then (let r := f.st.go M th; ({ f with st := r.1,at_ := if r.2.2 then 5 else 9 },r.2.1,none))
 else if f.at_ = 10 then ({ f with at_ := 11 },M.cas th f.d 0 f.oc,none)
 else if f.at_ = 11 then (({ f with s := M.peek f.d,i := 0,at_ := 12 } : FrD).end_,M.load th f.d,none)
 else if f.at_ = 12 then ({ f with a := M.peek (f.part 0),at_ := 13 },M.load th (f.part 0),none)
 else if f.at_ = 13 then (let b := f.part (if f.s = 1 then 2 else 1); ({ f with w := M.peek b,at_ := 14 },M.load th b,none))
 else (({ f with i := f.i + 1,at_ := 12 } : FrD).end_,M.cas th f.a (planW f.d) f.w,none)
end Go.Proofs.Ytoogdnemkfbgdaa

set_option linter.unusedVariables false
set_option linter.unusedSimpArgs false
namespace Go.Proofs.Ytoogdnemkfbgdaa
open Go Go.CM
end Go.Proofs.Ytoogdnemkfbgdaa

set_option linter.unusedVariables false
set_option linter.unusedSimpArgs false
namespace Go.Proofs.Ytoogdnemkfbgdaa
open Go Go.CM
def fr0 (d : Nat) : FrP := ⟨d,0,0,0,0,0,0,0,0,0,sett0 0,false,0⟩
def frD0 (d : Nat) : FrD := ⟨0,d,0,0,0,0,0,0,0,0,settD0 0⟩
def stkP : List FrP→Mem→Int→List FrP × Mem
 | [],M,_ => ([],M)
 | f::r,M,th => (if (f.go M th).1.meets = true then fr0 (f.go M th).1.other::{ (f.go M th).1 with meets := false }::r else if (f.go M th).1.at_ = 15 then r else (f.go M th).1::r,(f.go M th).2)
def popD : List FrD→List FrD
 | [] => []
 | g::r => if g.at_ = 15 then popD r else g::r
def stkD : List FrD→Mem→Int→List FrD × Mem
 | [],M,_ => ([],M)
 | g::r,M,th => (match (g.go M th).2.2 with | some d => frD0 d::(g.go M th).1::r | none => popD ((g.go M th).1::r),(g.go M th).2.1)
structure RdP where
 addr : Nat
 kind : Nat
 st : SettP
 stk : List FrP
 val : Nat
def RdP.go (x : RdP) (M : Mem) (th : Int) : RdP × Mem :=
 if x.kind = 0 then
  (if M.peek x.addr % 4 = 1 then { x with kind := 1,st := sett0 (M.peek x.addr) } else if M.peek x.addr % 4 = 2 then { x with kind := 2,stk := [fr0 (M.peek x.addr / 4)] } else { x with kind := 3,val := M.peek x.addr / 4 },M.load th x.addr)
 else if x.kind = 1 then ({ x with st := (x.st.go M th).1,kind := if (x.st.go M th).2.2 then 0 else 1 },(x.st.go M th).2.1)
 else if x.kind = 2 then ({ x with stk := (stkP x.stk M th).1,kind := if (stkP x.stk M th).1 = [] then 0 else 2 },(stkP x.stk M th).2)
 else (x,M)
structure RdD where
 addr : Nat
 kind : Nat
 st : SettD
 stk : List FrD
 val : Nat
def RdD.go (x : RdD) (M : Mem) (th : Int) : RdD × Mem :=
 if x.kind = 0 then
  (if M.peek x.addr % 4 = 1 then { x with kind := 1,st := settD0 (M.peek x.addr) } else if M.peek x.addr % 4 = 2 then { x with kind := 2,stk := [frD0 (M.peek x.addr / 4)] } else { x with kind := 3,val := M.peek x.addr / 4 },M.load th x.addr)
 else if x.kind = 1 then ({ x with st := (x.st.go M th).1,kind := if (x.st.go M th).2.2 then 0 else 1 },(x.st.go M th).2.1)
 else if x.kind = 2 then ({ x with stk := (stkD x.stk M th).1,kind := if (stkD x.stk M th).1 = [] then 0 else 2 },(stkD x.stk M th).2)
 else (x,M)
end Go.Proofs.Ytoogdnemkfbgdaa

set_option linter.unusedVariables false
set_option linter.unusedSimpArgs false
namespace Go.Proofs.Ytoogdnemkfbgdaa
open Go Go.CM
structure E3 where
 a : Nat
 o : Nat
 n : Nat
def insE (x : E3) : List E3→List E3
 | [] => [x]
 | y::r => if y.a < x.a then y::insE x r else x::y::r
def srtE (l : List E3) : List E3 := l.foldl (fun row x => insE x row) []
theorem insE_perm (x : E3) : ∀ l : List E3,(insE x l).Perm (x::l)
 | [] => List.Perm.refl _
 | y::r => by
  unfold insE
  split
  ·exact ((insE_perm x r).cons y).trans (List.Perm.swap x y r)
  ·exact List.Perm.refl _
theorem foldE_perm : ∀ (l row : List E3),(l.foldl (fun row x => insE x row) row).Perm (row++l)
 | [],row => by rw [List.append_nil]; exact List.Perm.refl _
 | x::r,row => by
  refine (foldE_perm r (insE x row)).trans ?_
  refine ((insE_perm x row).append_right r).trans ?_
  exact List.perm_middle.symm
theorem srtE_perm (l : List E3) : (srtE l).Perm l := foldE_perm l []
abbrev IncE (l : List E3) : Prop := l.Pairwise fun x y => x.a ≤ y.a
theorem insE_inc {x : E3} : ∀ {l : List E3},IncE l→IncE (insE x l)
 | [],_ => by simp [insE,IncE]
 | y::r,h => by
  unfold insE
  obtain ⟨h1,h2⟩ := List.pairwise_cons.1 h
  split
  ·rename_i q
   refine List.pairwise_cons.2 ⟨fun z hz => ?_,insE_inc h2⟩
   rcases List.mem_cons.1 ((insE_perm x r).mem_iff.1 hz) with e | e
   ·rw [e]; omega
   ·exact h1 z e
  ·rename_i q
   refine List.pairwise_cons.2 ⟨fun z hz => ?_,h⟩
   rcases List.mem_cons.1 hz with e | e
   ·rw [e]; omega
   ·have := h1 z e; omega
theorem foldE_inc : ∀ (l : List E3) {row : List E3},IncE row→IncE (l.foldl (fun row x => insE x row) row)
 | [],_,h => h
 | _::r,_,h => foldE_inc r (insE_inc h)
theorem srtE_inc (l : List E3) : IncE (srtE l) := foldE_inc l List.Pairwise.nil
theorem incE_eq : ∀ {l k : List E3},l.Perm k→IncE l→IncE k→(l.map (·.a)).Nodup→l = k
 | [],k,h,_,_,_ => (List.nil_perm.1 h).symm
 | x::l,k,h,hl,hk,hn => by
  cases k with
  | nil => exact absurd h.symm.nil_eq (by simp)
  | cons y k =>
   have hxy : x = y := by
    obtain ⟨h1,h2⟩ := List.pairwise_cons.1 hl
    obtain ⟨h3,h4⟩ := List.pairwise_cons.1 hk
    have m1 : x ∈ y::k := h.mem_iff.1 (List.mem_cons_self ..)
    have m2 : y ∈ x::l := h.mem_iff.2 (List.mem_cons_self ..)
    rcases List.mem_cons.1 m1 with e | e1
    ·exact e
    ·rcases List.mem_cons.1 m2 with e | e2
     ·exact e.symm
     ·have a1 := h3 x e1
      have a2 := h1 y e2
      have : x.a ∈ l.map (·.a) := List.mem_map.2 ⟨y,e2,by omega⟩
      rw [List.map_cons] at hn
      exact absurd this (List.nodup_cons.1 hn).1
   subst hxy
   have hn2 : (l.map (·.a)).Nodup := by rw [List.map_cons] at hn; exact (List.nodup_cons.1 hn).2
   rw [incE_eq ((List.perm_cons x).1 h) (List.pairwise_cons.1 hl).2 (List.pairwise_cons.1 hk).2 hn2]
theorem sortE_eq {l k : List E3} (h : k.Perm l) (hk : IncE k) (hn : (l.map (·.a)).Nodup) : k = srtE l :=
 incE_eq (h.trans (srtE_perm l).symm) hk (srtE_inc l) ((h.map (·.a)).nodup_iff.2 hn)
def planE (l : List E3) : List Nat := 0::l.length::l.flatMap fun e => [e.a,Nat.mod (Nat.mul 4 e.o) 18446744073709551616,Nat.mod (Nat.mul 4 e.n) 18446744073709551616]
end Go.Proofs.Ytoogdnemkfbgdaa

set_option linter.unusedVariables false
set_option linter.unusedSimpArgs false
namespace Go.Proofs.Ytoogdnemkfbgdaa
open Go Go.CM
def rangeE (l : List E3) : Bool := l.any fun e => decide (e.a = 0) || (decide (4611686018427387904 ≤ e.o) || decide (4611686018427387904 ≤ e.n))
def errE (l : List E3) : Nat := if 16 < l.length then 6 else if rangeE l = true then 2 else if (l.map (·.a)).Nodup then 0 else 5
theorem errE_zero {l : List E3} (h : errE l = 0) : l.length ≤ 16∧rangeE l = false∧(l.map (·.a)).Nodup := by
 unfold errE at h
 by_cases h1 : 16 < l.length
 ·rw [if_pos h1] at h; cases h
 ·rw [if_neg h1] at h
  by_cases h2 : rangeE l = true
  ·rw [if_pos h2] at h; cases h
  ·rw [if_neg h2] at h
   by_cases h3 : (l.map (·.a)).Nodup
   ·exact ⟨by omega,by simpa using h2,h3⟩
   ·rw [if_neg h3] at h; cases h
structure MuP where
 l : List E3
 at_ : Nat
 d : Nat
 stk : List FrP
 done : Bool
 err : Nat
def MuP.go (x : MuP) (M : Mem) (th : Int) : MuP × Mem :=
  if x.at_ = 0 then
    (if errE x.l ≠ 0 ∨ x.l = [] then ({ x with at_ := 3,done := decide (errE x.l = 0),err := errE x.l },M)
     else ({ x with d := M.room (planE (srtE x.l)),stk := [fr0 (M.room (planE (srtE x.l)))],at_ := if M.room (planE (srtE x.l)) = 0 then 3 else 1,err := if M.room (planE (srtE x.l)) = 0 then 30 else 0 },M.alloc th (planE (srtE x.l))))
  else if x.at_ = 1 then ({ x with stk := (stkP x.stk M th).1,at_ := if (stkP x.stk M th).1 = [] then 2 else 1 },(stkP x.stk M th).2)
  else if x.at_ = 2 then ({ x with at_ := 3,done := decide (M.peek x.d = 1),err := if M.peek x.d = 3 then 30 else 0 },M.load th x.d)
  else (x,M)
structure MuD where
 l : List E3
 at_ : Nat
 d : Nat
 stk : List FrD
 done : Bool
 err : Nat
def MuD.go (x : MuD) (M : Mem) (th : Int) : MuD × Mem :=
  if x.at_ = 0 then
    (if errE x.l ≠ 0 ∨ x.l = [] then ({ x with at_ := 3,done := decide (errE x.l = 0),err := errE x.l },M)
     else ({ x with d := M.room (planE (srtE x.l)),stk := [frD0 (M.room (planE (srtE x.l)))],at_ := if M.room (planE (srtE x.l)) = 0 then 3 else 1,err := if M.room (planE (srtE x.l)) = 0 then 30 else 0 },M.alloc th (planE (srtE x.l))))
  else if x.at_ = 1 then ({ x with stk := (stkD x.stk M th).1,at_ := if (stkD x.stk M th).1 = [] then 2 else 1 },(stkD x.stk M th).2)
  else if x.at_ = 2 then ({ x with at_ := 3,done := decide (M.peek x.d = 1),err := if M.peek x.d = 3 then 30 else 0 },M.load th x.d)
  else (x,M)
end Go.Proofs.Ytoogdnemkfbgdaa

set_option linter.unusedVariables false
set_option linter.unusedSimpArgs false
namespace Go.Proofs.Ytoogdnemkfbgdaa
open Go Go.CM
theorem peek_put (M : Mem) (a x b : Nat) : (M.put a x).peek b = if a = b∧a < M.cells.length then x else M.peek b := by
 unfold Mem.peek Mem.put
 simp only [List.getD_eq_getElem?_getD,List.getElem?_set]
 by_cases h : a = b
 ·subst h
  by_cases h2 : a < M.cells.length
  ·simp [h2]
  ·simp [h2]
 ·simp [h]
theorem peek_note (M : Mem) (c : Acs) (b : Nat) : (M.note c).peek b = M.peek b := rfl
theorem len_note (M : Mem) (c : Acs) : (M.note c).cells.length = M.cells.length := rfl
theorem len_put (M : Mem) (a x : Nat) : (M.put a x).cells.length = M.cells.length := by simp [Mem.put]
theorem peek_cas (M : Mem) (th : Int) (a x y b : Nat) : (M.cas th a x y).peek b = if M.swaps a x = true∧a = b then y else M.peek b := by
 unfold Mem.cas
 rw [peek_note]
 cases h : M.swaps a x with
 | true =>
  simp only [if_true,true_and]
  rw [peek_put]
  have hl : a < M.cells.length := by
   unfold Mem.swaps at h
   simp only [Bool.and_eq_true,decide_eq_true_eq] at h
   exact h.1
  simp [hl]
 | false => simp
theorem swaps_eq {M : Mem} {a x : Nat} (h : M.swaps a x = true) : M.peek a = x := by
 unfold Mem.swaps at h
 simp only [Bool.and_eq_true,decide_eq_true_eq] at h
 exact h.2
theorem len_cas (M : Mem) (th : Int) (a x y : Nat) : (M.cas th a x y).cells.length = M.cells.length := by
 unfold Mem.cas
 rw [len_note]
 split
 ·exact len_put M a y
 ·rfl
theorem peek_ov {l : List Nat} : ∀ {vals : List Nat} {o b : Nat},o + vals.length ≤ l.length→(ovN vals l o).getD b 0 = if o ≤ b∧b < o + vals.length then vals.getD (b - o) 0 else l.getD b 0
 | [],o,b,_ => by rw [ovN,if_neg (by simp only [List.length_nil]; omega)]
 | x::r,o,b,h => by
  simp only [List.length_cons] at h
  rw [ovN,peek_ov (l := l.set o x) (by rw [List.length_set]; omega)]
  simp only [List.getD_eq_getElem?_getD,List.getElem?_set,List.length_cons]
  by_cases h1 : o + 1 ≤ b∧b < o + 1 + r.length
  ·rw [if_pos h1,if_pos (by omega),show b - o = (b - (o + 1)) + 1 by omega,List.getElem?_cons_succ]
  ·rw [if_neg h1]
   by_cases h2 : o = b
   ·subst h2
    rw [if_pos rfl,if_pos (by omega),if_pos (by omega),Nat.sub_self]; rfl
   ·rw [if_neg h2,if_neg (by omega)]
theorem peek_alloc {M : Mem} {th : Int} {vals : List Nat} (h1 : 0 < vals.length) (h2 : M.free + vals.length ≤ M.cells.length) (b : Nat) : (M.alloc th vals).peek b = if M.free ≤ b∧b < M.free + vals.length then vals.getD (b - M.free) 0 else M.peek b := by
 rw [alloc_t h1 (by omega)]
 exact peek_ov (l := M.cells) (vals := vals) (by omega)
theorem swaps_iff {M : Mem} {a x : Nat} (h : a < M.cells.length) : M.swaps a x = decide (M.peek a = x) := by
 unfold Mem.swaps; rw [decide_eq_true h,Bool.true_and]
structure Lim (M : Mem) : Prop where
 f6 : 6 ≤ M.free
 fl : M.free ≤ M.cells.length
 ll : M.cells.length ≤ 4194304
structure Fw (k : Nat) (M M' : Mem) : Prop where
 fr : M.free ≤ M'.free
 fl : M'.free ≤ M'.cells.length
 ln : M'.cells.length = M.cells.length
 tr : M'.tr.length ≤ M.tr.length + k
theorem Fw.refl {M : Mem} (h : Lim M) : Fw 0 M M := ⟨Nat.le_refl _,h.fl,rfl,Nat.le_refl _⟩
theorem Fw.trans {k m : Nat} {A B C : Mem} (h : Fw k A B) (g : Fw m B C) : Fw (k + m) A C :=
 ⟨Nat.le_trans h.fr g.fr,g.fl,g.ln.trans h.ln,by have := h.tr; have := g.tr; omega⟩
theorem Fw.lim {k : Nat} {M M' : Mem} (h : Fw k M M') (l : Lim M) : Lim M' := ⟨Nat.le_trans l.f6 h.fr,h.fl,by rw [h.ln]; exact l.ll⟩
theorem Fw.up {k k' : Nat} {M M' : Mem} (h : Fw k M M') (hk : k ≤ k') : Fw k' M M' := ⟨h.fr,h.fl,h.ln,by have := h.tr; omega⟩
theorem fw_load {M : Mem} (h : Lim M) (th : Int) (a : Nat) : Fw 1 M (M.load th a) := ⟨Nat.le_refl _,h.fl,rfl,by simp [Mem.load,Mem.note]⟩
theorem fw_cas {M : Mem} (h : Lim M) (th : Int) (a x y : Nat) : Fw 1 M (M.cas th a x y) := by
 refine ⟨?_,?_,len_cas M th a x y,?_⟩
 ·unfold Mem.cas; split <;> exact Nat.le_refl _
 ·rw [len_cas]; unfold Mem.cas; split <;> exact h.fl
 ·simp only [Mem.cas,Mem.note]
  split <;> simp [Mem.put]
theorem fw_alloc {M : Mem} (h : Lim M) (th : Int) (vals : List Nat) : Fw 1 M (M.alloc th vals) := by
 have hfl := h.fl
 unfold Mem.alloc
 split
 ·rename_i q
  refine ⟨by show M.free ≤ M.free + _; omega,?_,ovN_len _ _ _,by simp [Mem.note]⟩
  show M.free + vals.length ≤ (ovN vals M.cells M.free).length
  rw [ovN_len]; omega
 ·exact ⟨Nat.le_refl _,h.fl,rfl,by simp [Mem.note]⟩
inductive FSt (th : Int) : Nat→FrP × Mem→FrP × Mem→Prop where
 | refl (s : FrP × Mem) : FSt th 0 s s
 | step {k : Nat} {f f' : FrP} {M M' : Mem} {t : FrP × Mem} : f.go M th = (f',M')→f'.meets = false→f'.at_ ≠ 15→FSt th k (f',M') t→FSt th (k + 1) (f,M) t
theorem FSt.trans {th : Int} {k m : Nat} {a b c : FrP × Mem} (h : FSt th k a b) (g : FSt th m b c) : FSt th (k + m) a c := by
 induction h with
 | refl s => rw [Nat.zero_add]; exact g
 | step h1 h2 h3 _ ih => rw [show ∀ k : Nat,k + 1 + m = (k + m) + 1 from fun k => by omega]; exact .step h1 h2 h3 (ih g)
structure PlanAt (M : Mem) (d : Nat) (S : List E3) : Prop where
 d6 : 6 ≤ d
 fr : d + 2 + 3 * S.length ≤ M.free
 n : M.peek (d + 1) = S.length
 e : ∀ (i : Nat) (x : E3),S[i]? = some x→M.peek (d + 2 + 3 * i) = x.a∧M.peek (d + 2 + 3 * i + 1) = 4 * x.o∧M.peek (d + 2 + 3 * i + 2) = 4 * x.n
def EOk (x : E3) : Prop := 1 ≤ x.a∧x.a ≤ 5∧x.o < 4611686018427387904∧x.n < 4611686018427387904
theorem PlanAt.keep {M M' : Mem} {d : Nat} {S : List E3} (h : PlanAt M d S) (hf : M.free ≤ M'.free) (hp : ∀ b,5 < b→b ≠ d→b < M.free→M'.peek b = M.peek b) : PlanAt M' d S := by
 refine ⟨h.d6,Nat.le_trans h.fr hf,?_,fun i x hx => ?_⟩
 ·rw [hp _ (by have := h.d6; omega) (by omega) (by have := h.fr; omega)]; exact h.n
 ·have hi : i < S.length := (List.getElem?_eq_some_iff.1 hx).1
  have hfr := h.fr
  have hd := h.d6
  rw [hp _ (by omega) (by omega) (by omega),hp _ (by omega) (by omega) (by omega),hp _ (by omega) (by omega) (by omega)]
  exact h.e i x hx
theorem part_eq {M : Mem} {d : Nat} {S : List E3} {i k : Nat} (h : PlanAt M d S) (hl : Lim M) (hi : i < S.length) (hk : k < 3) : m64 (d + 2 + 3 * i + k) = d + 2 + 3 * i + k := by
 have := h.fr; have := hl.fl; have := hl.ll
 exact Nat.mod_eq_of_lt (by omega)
theorem planW_is {M : Mem} {d : Nat} {S : List E3} (h : PlanAt M d S) (hl : Lim M) : planW d = 4 * d + 2 := by
 have := h.fr; have := hl.fl; have := hl.ll
 exact Nat.mod_eq_of_lt (by omega)
set_option maxRecDepth 100000 in
theorem lock_round (th : Int) {M : Mem} {d i u : Nat} {S : List E3} {e : E3} (hP : PlanAt M d S) (hl : Lim M) (h0 : M.peek d = 0) (hS : S[i]? = some e) (he : EOk e) (hu : u < 4611686018427387904) (hc : M.peek e.a = 4 * u) {s a o x w oc other : Nat} {st : SettP} :
    ∃ k f' M',k ≤ 6∧FSt th k (⟨d,2,s,S.length,i,a,o,x,w,oc,st,false,other⟩,M) (f',M')∧Fw k M M'∧f'.d = d∧f'.n = S.length∧f'.meets = false ∧
      ((u = e.o∧f'.i = i + 1∧(if S.length ≤ i + 1 then f'.at_ = 10∧f'.oc = 1 else f'.at_ = 2)∧∀ b,b < M.free→M'.peek b = if b = e.a then planW d else M.peek b) ∨
       (f'.at_ = 10∧(f'.oc = 2∧u ≠ e.o ∨ f'.oc = 3)∧∀ b,b < M.free→M'.peek b = M.peek b)) := by
  have hi : i < S.length := (List.getElem?_eq_some_iff.1 hS).1
  obtain ⟨p0,p1,_⟩ := hP.e i e hS
  have q0 := part_eq hP hl hi (show 0 < 3 by omega)
  have q1 := part_eq hP hl hi (show 1 < 3 by omega)
  have hfr := hP.fr
  have hd6 := hP.d6
  obtain ⟨ha1,ha5,ho,_⟩ := he
  have g2 : ∀ (s a o x w oc other : Nat) (st : SettP) (N : Mem),FrP.go ⟨d,2,s,S.length,i,a,o,x,w,oc,st,false,other⟩ N th = (⟨d,3,s,S.length,i,N.peek (m64 (d + 2 + 3 * i + 0)),o,x,w,oc,st,false,other⟩,N.load th (m64 (d + 2 + 3 * i + 0))) := fun _ _ _ _ _ _ _ _ _ => rfl
  have g3 : ∀ (s a o x w oc other : Nat) (st : SettP) (N : Mem),FrP.go ⟨d,3,s,S.length,i,a,o,x,w,oc,st,false,other⟩ N th = (⟨d,4,s,S.length,i,a,N.peek (m64 (d + 2 + 3 * i + 1)),x,w,oc,st,false,other⟩,N.load th (m64 (d + 2 + 3 * i + 1))) := fun _ _ _ _ _ _ _ _ _ => rfl
  have g4 : ∀ (s a o x w oc other : Nat) (st : SettP) (N : Mem),FrP.go ⟨d,4,s,S.length,i,a,o,x,w,oc,st,false,other⟩ N th = (if N.room [d,a,o,planW d] = 0 then (⟨d,10,s,S.length,i,a,o,0,w,3,st,false,other⟩ : FrP) else ⟨d,5,s,S.length,i,a,o,N.room [d,a,o,planW d],w,oc,st,false,other⟩,N.alloc th [d,a,o,planW d]) := fun _ _ _ _ _ _ _ _ _ => rfl
  have g5 : ∀ (s a o x w oc other : Nat) (st : SettP) (N : Mem),FrP.go ⟨d,5,s,S.length,i,a,o,x,w,oc,st,false,other⟩ N th = (⟨d,if N.swaps a o then 6 else 8,s,S.length,i,a,o,x,w,oc,st,false,other⟩,N.cas th a o (lockW x)) := fun _ _ _ _ _ _ _ _ _ => rfl
  have g6 : ∀ (s a o x w oc other : Nat) (st : SettP) (N : Mem),FrP.go ⟨d,6,s,S.length,i,a,o,x,w,oc,st,false,other⟩ N th = (⟨d,7,N.peek d,S.length,i,a,o,x,w,oc,st,false,other⟩,N.load th d) := fun _ _ _ _ _ _ _ _ _ => rfl
  have g7 : ∀ (a o x w oc other : Nat) (st : SettP) (N : Mem),FrP.go ⟨d,7,0,S.length,i,a,o,x,w,oc,st,false,other⟩ N th = (if S.length ≤ i + 1 then (⟨d,10,0,S.length,i + 1,a,o,x,w,1,st,false,other⟩ : FrP) else ⟨d,2,0,S.length,i + 1,a,o,x,w,oc,st,false,other⟩,N.cas th a (lockW x) (planW d)) := fun _ _ _ _ _ _ _ _ => rfl
  have g8 : ∀ (s a o x w oc other : Nat) (st : SettP) (N : Mem),FrP.go ⟨d,8,s,S.length,i,a,o,x,w,oc,st,false,other⟩ N th = (FrP.look ⟨d,8,s,S.length,i,a,o,x,w,oc,st,false,other⟩ (N.peek a),N.load th a) := fun _ _ _ _ _ _ _ _ _ => rfl
  let M1 := M.load th (m64 (d + 2 + 3 * i + 0))
  let M2 := M1.load th (m64 (d + 2 + 3 * i + 1))
  have hM2 : ∀ b,M2.peek b = M.peek b := fun _ => rfl
  have e0 : M.peek (m64 (d + 2 + 3 * i + 0)) = e.a := by rw [q0]; exact p0
  have e1 : M1.peek (m64 (d + 2 + 3 * i + 1)) = 4 * e.o := by show M.peek _ = _; rw [q1]; exact p1
  have w1 : Fw 1 M M1 := fw_load hl _ _
  have l1 : Lim M1 := w1.lim hl
  have w2 : Fw 1 M1 M2 := fw_load l1 _ _
  have l2 : Lim M2 := w2.lim l1
  have G2 := g2 s a o x w oc other st M
  rw [e0] at G2
  have G3 := g3 s e.a o x w oc other st M1
  rw [e1] at G3
  have hfr2 : M2.free = M.free := rfl
  have hln2 : M2.cells.length = M.cells.length := rfl
  by_cases hroom : M2.room [d,e.a,4 * e.o,planW d] = 0
  · have G4 := g4 s e.a (4 * e.o) x w oc other st M2
    rw [if_pos hroom] at G4
    have w3 : Fw 1 M2 (M2.alloc th [d,e.a,4 * e.o,planW d]) := fw_alloc l2 _ _
    refine ⟨3,_,_,by omega,.step G2 rfl (by show ¬ 3 = 15; omega) (.step G3 rfl (by show ¬ 4 = 15; omega) (.step G4 rfl (by show ¬ 10 = 15; omega) (.refl _))),(w1.trans w2).trans w3,rfl,rfl,rfl,.inr ⟨rfl,.inr rfl,fun b hb => ?_⟩⟩
    have hno : ¬ (0 < [d,e.a,4 * e.o,planW d].length∧[d,e.a,4 * e.o,planW d].length ≤ M2.cells.length - M2.free) := fun q => by
      rw [room_t q.1 q.2] at hroom
      have := l2.f6
      omega
    rw [alloc_f hno]
    rfl
  · have hyes : 0 < [d,e.a,4 * e.o,planW d].length∧[d,e.a,4 * e.o,planW d].length ≤ M2.cells.length - M2.free := Classical.byContradiction fun q => hroom (room_f q)
    have hrm : M2.room [d,e.a,4 * e.o,planW d] = M.free := room_t hyes.1 hyes.2
    have G4 := g4 s e.a (4 * e.o) x w oc other st M2
    rw [if_neg hroom,hrm] at G4
    have w3 : Fw 1 M2 (M2.alloc th [d,e.a,4 * e.o,planW d]) := fw_alloc l2 _ _
    have l3 := w3.lim l2
    have hp3 : ∀ b,b < M.free→(M2.alloc th [d,e.a,4 * e.o,planW d]).peek b = M.peek b := fun b hb => by
      rw [peek_alloc hyes.1 (by have := l2.fl; have := hyes.2; omega),if_neg (by rw [hfr2]; omega)]
      rfl
    have hfr3 : M.free + 4 ≤ (M2.alloc th [d,e.a,4 * e.o,planW d]).free := by
      rw [alloc_t hyes.1 hyes.2]; exact Nat.le_refl _
    generalize M2.alloc th [d,e.a,4 * e.o,planW d] = M3 at *
    have hln3 : M3.cells.length = M.cells.length := w3.ln
    have hlt : e.a < M3.cells.length := by have := hl.f6; have := hl.fl; omega
    have hsw : M3.swaps e.a (4 * e.o) = decide (u = e.o) := by
      rw [swaps_iff hlt,hp3 _ (by have := hl.f6; omega),hc]
      by_cases q : u = e.o
      · rw [decide_eq_true q,decide_eq_true (by omega)]
      · rw [decide_eq_false q,decide_eq_false (by omega)]
    have w4 : Fw 1 M3 (M3.cas th e.a (4 * e.o) (lockW M.free)) := fw_cas l3 _ _ _ _
    have l4 := w4.lim l3
    have G5 := g5 s e.a (4 * e.o) M.free w oc other st M3
    rw [hsw] at G5
    have hlk : lockW M.free = 4 * M.free + 1 := Nat.mod_eq_of_lt (by have := hl.fl; have := hl.ll; omega)
    by_cases hue : u = e.o
    · rw [decide_eq_true hue] at G5 hsw
      simp only [if_true] at G5
      have hp4 : ∀ b,b < M.free→(M3.cas th e.a (4 * e.o) (lockW M.free)).peek b = if b = e.a then lockW M.free else M.peek b := fun b hb => by
        rw [peek_cas,hsw]
        by_cases q : b = e.a
        · rw [if_pos ⟨rfl,q.symm⟩,if_pos q]
        · rw [if_neg (fun z => q z.2.symm),if_neg q]; exact hp3 b hb
      generalize M3.cas th e.a (4 * e.o) (lockW M.free) = M4 at *
      have G6 := g6 s e.a (4 * e.o) M.free w oc other st M4
      have hd0 : M4.peek d = 0 := by rw [hp4 d (by omega),if_neg (by omega)]; exact h0
      rw [hd0] at G6
      have w5 : Fw 1 M4 (M4.load th d) := fw_load l4 _ _
      have l5 := w5.lim l4
      have G7 := g7 e.a (4 * e.o) M.free w oc other st (M4.load th d)
      have w6 : Fw 1 (M4.load th d) ((M4.load th d).cas th e.a (lockW M.free) (planW d)) := fw_cas l5 _ _ _ _
      have hsw6 : (M4.load th d).swaps e.a (lockW M.free) = true := by
        rw [swaps_iff (by show e.a < M4.cells.length; rw [w4.ln]; exact hlt)]
        refine decide_eq_true ?_
        show M4.peek e.a = _
        rw [hp4 _ (by have := hl.f6; omega),if_pos rfl]
      have hp6 : ∀ b,b < M.free→((M4.load th d).cas th e.a (lockW M.free) (planW d)).peek b = if b = e.a then planW d else M.peek b := fun b hb => by
        rw [peek_cas,hsw6]
        by_cases q : b = e.a
        · rw [if_pos ⟨rfl,q.symm⟩,if_pos q]
        · rw [if_neg (fun z => q z.2.symm),if_neg q]
          show M4.peek b = _
          rw [hp4 b hb,if_neg q]
      by_cases hlast : S.length ≤ i + 1
      · rw [if_pos hlast] at G7
        exact ⟨6,_,_,by omega,.step G2 rfl (by show ¬ 3 = 15; omega) (.step G3 rfl (by show ¬ 4 = 15; omega) (.step G4 rfl (by show ¬ 5 = 15; omega) (.step G5 rfl (by show ¬ 6 = 15; omega) (.step G6 rfl (by show ¬ 7 = 15; omega) (.step G7 rfl (by show ¬ 10 = 15; omega) (.refl _)))))),((((w1.trans w2).trans w3).trans w4).trans w5).trans w6,rfl,rfl,rfl,.inl ⟨hue,rfl,by rw [if_pos hlast]; exact ⟨rfl,rfl⟩,hp6⟩⟩
      · rw [if_neg hlast] at G7
        exact ⟨6,_,_,by omega,.step G2 rfl (by show ¬ 3 = 15; omega) (.step G3 rfl (by show ¬ 4 = 15; omega) (.step G4 rfl (by show ¬ 5 = 15; omega) (.step G5 rfl (by show ¬ 6 = 15; omega) (.step G6 rfl (by show ¬ 7 = 15; omega) (.step G7 rfl (by show ¬ 2 = 15; omega) (.refl _)))))),((((w1.trans w2).trans w3).trans w4).trans w5).trans w6,rfl,rfl,rfl,.inl ⟨hue,rfl,by rw [if_neg hlast],hp6⟩⟩
    · rw [decide_eq_false hue] at G5 hsw
      simp only [Bool.false_eq_true,if_false] at G5
      have hp4 : ∀ b,b < M.free→(M3.cas th e.a (4 * e.o) (lockW M.free)).peek b = M.peek b := fun b hb => by
        rw [peek_cas,hsw,if_neg (fun z => nomatch z.1)]; exact hp3 b hb
      generalize M3.cas th e.a (4 * e.o) (lockW M.free) = M4 at *
      have G8 := g8 s e.a (4 * e.o) M.free w oc other st M4
      have hv : M4.peek e.a = 4 * u := by rw [hp4 _ (by have := hl.f6; omega)]; exact hc
      have hpw := planW_is hP hl
      have hlook : FrP.look ⟨d,8,s,S.length,i,e.a,4 * e.o,M.free,w,oc,st,false,other⟩ (4 * u) = ⟨d,10,s,S.length,i,e.a,4 * e.o,M.free,w,2,st,false,other⟩ := by
        unfold FrP.look
        rw [if_neg (by omega),if_neg (by show ¬ 4 * u = 4 * e.o; omega),if_neg (by show ¬ 4 * u = planW d; rw [hpw]; omega),if_neg (by omega)]
      rw [hv,hlook] at G8
      have w5 : Fw 1 M4 (M4.load th e.a) := fw_load l4 _ _
      exact ⟨5,_,_,by omega,.step G2 rfl (by show ¬ 3 = 15; omega) (.step G3 rfl (by show ¬ 4 = 15; omega) (.step G4 rfl (by show ¬ 5 = 15; omega) (.step G5 rfl (by show ¬ 8 = 15; omega) (.step G8 rfl (by show ¬ 10 = 15; omega) (.refl _))))),(((w1.trans w2).trans w3).trans w4).trans w5,rfl,rfl,rfl,.inr ⟨rfl,.inl ⟨rfl,hue⟩,fun b hb => hp4 b hb⟩⟩
end Go.Proofs.Ytoogdnemkfbgdaa

set_option linter.unusedVariables false
set_option linter.unusedSimpArgs false
namespace Go.Proofs.Ytoogdnemkfbgdaa
open Go Go.CM
theorem take_mem {S : List E3} {j c : Nat} {e : E3} (he : S[j]? = some e) : (c ∈ (S.take (j + 1)).map (·.a) ↔ c ∈ (S.take j).map (·.a) ∨ c = e.a) := by
 rw [List.take_add_one,he]; simp
theorem nd_take {S : List E3} (hn : (S.map (·.a)).Nodup) {j : Nat} {e : E3} (he : S[j]? = some e) : e.a ∉ (S.take j).map (·.a) := by
 intro h
 obtain ⟨x,hx,hxa⟩ := List.mem_map.1 h
 obtain ⟨t,ht⟩ := List.mem_iff_getElem?.1 hx
 have htj : t < j := by have := (List.getElem?_eq_some_iff.1 ht).1; simp at this; omega
 rw [List.getElem?_take,if_pos htj] at ht
 have h1 : (S.map (·.a))[t]? = some e.a := by rw [List.getElem?_map,ht]; exact congrArg some hxa
 have h2 : (S.map (·.a))[j]? = some e.a := by rw [List.getElem?_map,he]; rfl
 have hlt : t < (S.map (·.a)).length := (List.getElem?_eq_some_iff.1 h1).1
 have := (List.getElem?_inj hlt hn).1 (h1.trans h2.symm)
 omega
def LockI (M : Mem) (v : Nat→Nat) (d : Nat) (S : List E3) (j : Nat) : Prop := ∀ c,1 ≤ c→c ≤ 5→M.peek c = if c ∈ (S.take j).map (·.a) then planW d else 4 * v c
theorem lock_all (th : Int) {d : Nat} {S : List E3} {v : Nat→Nat} (hall : ∀ e ∈ S,EOk e) (hnd : (S.map (·.a)).Nodup) (hv : ∀ c,v c < 4611686018427387904) :
  ∀ (r i : Nat) (M : Mem) (s a o x w oc other : Nat) (st : SettP),S.length = i + (r + 1)→PlanAt M d S→Lim M→M.peek d = 0→LockI M v d S i→(∀ t e,t < i→S[t]? = some e→v e.a = e.o) →
   ∃ k f' M' j,k ≤ 6 * (r + 1)∧FSt th k (⟨d,2,s,S.length,i,a,o,x,w,oc,st,false,other⟩,M) (f',M')∧Fw k M M'∧f'.d = d∧f'.n = S.length∧f'.meets = false∧f'.at_ = 10 ∧
    (∀ t e,t < j→S[t]? = some e→v e.a = e.o)∧LockI M' v d S j∧(f'.oc = 1∧S.length ≤ j ∨ f'.oc = 2∧(∃ e ∈ S,v e.a ≠ e.o) ∨ f'.oc = 3)∧PlanAt M' d S∧M'.peek d = 0 := by
 intro r
 induction r with
 | zero =>
  intro i M s a o x w oc other st hlen hP hl h0 hL hold
  obtain ⟨e,he⟩ : ∃ e,S[i]? = some e := ⟨_,List.getElem?_eq_getElem (by omega)⟩
  have hok := hall e (List.mem_of_getElem? he)
  have hc : M.peek e.a = 4 * v e.a := by rw [hL e.a hok.1 hok.2.1,if_neg (nd_take hnd he)]
  obtain ⟨k,f',M',hk,hF,hw,h1,h2,h3,hcase⟩ := lock_round th hP hl h0 he hok (hv e.a) hc (s := s) (a := a) (o := o) (x := x) (w := w) (oc := oc) (other := other) (st := st)
  have hd6 := hP.d6
  have hdf : d < M.free := by have := hP.fr; omega
  rcases hcase with ⟨g1,g2,g3,g4⟩ | ⟨g1,g2,g3⟩
  ·rw [if_pos (by omega)] at g3
   refine ⟨k,f',M',i + 1,by omega,hF,hw,h1,h2,h3,g3.1,fun t e' ht he' => ?_,fun c c1 c5 => ?_,.inl ⟨g3.2,by omega⟩,hP.keep hw.fr (fun b b5 _ hb => by rw [g4 b hb,if_neg (by have := hok.2.1; omega)]),by rw [g4 d hdf,if_neg (by have := hok.2.1; omega)]; exact h0⟩
   ·by_cases q : t = i
    ·subst q; rw [he] at he'; cases he'; exact g1
    ·exact hold t e' (by omega) he'
   ·rw [g4 c (by have := hl.f6; omega),hL c c1 c5]
    by_cases q : c = e.a
    ·rw [if_pos q,if_pos ((take_mem he).2 (.inr q))]
    ·rw [if_neg q]
     by_cases q2 : c ∈ (S.take i).map (·.a)
     ·rw [if_pos q2,if_pos ((take_mem he).2 (.inl q2))]
     ·rw [if_neg q2,if_neg (fun z => ((take_mem he).1 z).elim q2 q)]
  ·refine ⟨k,f',M',i,by omega,hF,hw,h1,h2,h3,g1,hold,fun c c1 c5 => ?_,?_,hP.keep hw.fr (fun b _ _ hb => g3 b hb),by rw [g3 d hdf]; exact h0⟩
   ·rw [g3 c (by have := hl.f6; omega)]; exact hL c c1 c5
   ·rcases g2 with ⟨q1,q2⟩ | q1
    ·exact .inr (.inl ⟨q1,e,List.mem_of_getElem? he,q2⟩)
    ·exact .inr (.inr q1)
 | succ r ih =>
  intro i M s a o x w oc other st hlen hP hl h0 hL hold
  obtain ⟨e,he⟩ : ∃ e,S[i]? = some e := ⟨_,List.getElem?_eq_getElem (by omega)⟩
  have hok := hall e (List.mem_of_getElem? he)
  have hc : M.peek e.a = 4 * v e.a := by rw [hL e.a hok.1 hok.2.1,if_neg (nd_take hnd he)]
  obtain ⟨k,f',M',hk,hF,hw,h1,h2,h3,hcase⟩ := lock_round th hP hl h0 he hok (hv e.a) hc (s := s) (a := a) (o := o) (x := x) (w := w) (oc := oc) (other := other) (st := st)
  have hd6 := hP.d6
  have hdf : d < M.free := by have := hP.fr; omega
  rcases hcase with ⟨g1,g2,g3,g4⟩ | ⟨g1,g2,g3⟩
  ·rw [if_neg (by omega)] at g3
   obtain ⟨d',at',s',n',i',a',o',x',w',oc',st',m',ot'⟩ := f'
   simp only at h1 h2 h3 g2 g3
   subst h1 h2 h3 g2 g3
   have hP' : PlanAt M' d' S := hP.keep hw.fr (fun b b5 _ hb => by rw [g4 b hb,if_neg (by have := hok.2.1; omega)])
   have h0' : M'.peek d' = 0 := by rw [g4 d' hdf,if_neg (by have := hok.2.1; omega)]; exact h0
   obtain ⟨k2,f2,M2,j,b1,b2,b3,b4,b5,b6,b7,b8,b9,b10,b11,b12⟩ := ih (i + 1) M' s' a' o' x' w' oc' ot' st' (by omega) hP' (hw.lim hl) h0' (fun c c1 c5 => by
    rw [g4 c (by have := hl.f6; omega),hL c c1 c5]
    by_cases q : c = e.a
    ·rw [if_pos q,if_pos ((take_mem he).2 (.inr q))]
    ·rw [if_neg q]
     by_cases q2 : c ∈ (S.take i).map (·.a)
     ·rw [if_pos q2,if_pos ((take_mem he).2 (.inl q2))]
     ·rw [if_neg q2,if_neg (fun z => ((take_mem he).1 z).elim q2 q)]) (fun t e' ht he' => by
    by_cases q : t = i
    ·subst q; rw [he] at he'; cases he'; exact g1
    ·exact hold t e' (by omega) he')
   exact ⟨k + k2,f2,M2,j,by omega,hF.trans b2,hw.trans b3,b4,b5,b6,b7,b8,b9,b10,b11,b12⟩
  ·refine ⟨k,f',M',i,by omega,hF,hw,h1,h2,h3,g1,hold,fun c c1 c5 => ?_,?_,hP.keep hw.fr (fun b _ _ hb => g3 b hb),by rw [g3 d hdf]; exact h0⟩
   ·rw [g3 c (by have := hl.f6; omega)]; exact hL c c1 c5
   ·rcases g2 with ⟨q1,q2⟩ | q1
    ·exact .inr (.inl ⟨q1,e,List.mem_of_getElem? he,q2⟩)
    ·exact .inr (.inr q1)
def ClearI (M : Mem) (w : Nat→Nat) (d : Nat) (S : List E3) (j i : Nat) : Prop := ∀ c,1 ≤ c→c ≤ 5→M.peek c = if c ∈ (S.take j).map (·.a)∧c ∉ (S.take i).map (·.a) then planW d else 4 * w c
set_option maxRecDepth 100000 in
theorem clear_round (th : Int) {M : Mem} {d i j : Nat} {S : List E3} {v w : Nat→Nat} {e : E3} (hP : PlanAt M d S) (hl : Lim M) (hnd : (S.map (·.a)).Nodup) (hS : S[i]? = some e) (he : EOk e) {s : Nat} (hw : ∀ t e,t < j→S[t]? = some e→(if s = 1 then e.n else e.o) = w e.a)
  (hC : ClearI M w d S j i) {a o x wv oc other : Nat} {st : SettP} :
  ∃ f' M',FSt th 2 (⟨d,12,s,S.length,i,a,o,x,wv,oc,st,false,other⟩,M) (f',M')∧Fw 2 M M'∧Fw 1 M' (f'.go M' th).2∧(∃ a' w',(f'.go M' th).1 = FrP.clear ⟨d,14,s,S.length,i,a',o,x,w',oc,st,false,other⟩ (i + 1)) ∧
   ClearI (f'.go M' th).2 w d S j (i + 1)∧(∀ b,5 < b→(f'.go M' th).2.peek b = M.peek b) := by
 have hi : i < S.length := (List.getElem?_eq_some_iff.1 hS).1
 obtain ⟨p0,p1,p2⟩ := hP.e i e hS
 have q0 := part_eq hP hl hi (show 0 < 3 by omega)
 have q1 := part_eq hP hl hi (show 1 < 3 by omega)
 have q2 := part_eq hP hl hi (show 2 < 3 by omega)
 have hfr := hP.fr
 have hd6 := hP.d6
 obtain ⟨ha1,ha5,ho,hn'⟩ := he
 have g12 : FrP.go ⟨d,12,s,S.length,i,a,o,x,wv,oc,st,false,other⟩ M th = (⟨d,13,s,S.length,i,M.peek (m64 (d + 2 + 3 * i + 0)),o,x,wv,oc,st,false,other⟩,M.load th (m64 (d + 2 + 3 * i + 0))) := rfl
 have e0 : M.peek (m64 (d + 2 + 3 * i + 0)) = e.a := by rw [q0]; exact p0
 rw [e0] at g12
 have w1 : Fw 1 M (M.load th (m64 (d + 2 + 3 * i + 0))) := fw_load hl _ _
 have hM1 : ∀ b,(M.load th (m64 (d + 2 + 3 * i + 0))).peek b = M.peek b := fun _ => rfl
 have l1 := w1.lim hl
 generalize M.load th (m64 (d + 2 + 3 * i + 0)) = M1 at *
 have g13 : FrP.go ⟨d,13,s,S.length,i,e.a,o,x,wv,oc,st,false,other⟩ M1 th = (⟨d,14,s,S.length,i,e.a,o,x,M1.peek (m64 (d + 2 + 3 * i + (if s = 1 then 2 else 1))),oc,st,false,other⟩,M1.load th (m64 (d + 2 + 3 * i + (if s = 1 then 2 else 1)))) := rfl
 have e1 : M1.peek (m64 (d + 2 + 3 * i + (if s = 1 then 2 else 1))) = 4 * (if s = 1 then e.n else e.o) := by
  rw [hM1]
  by_cases q : s = 1
  ·rw [if_pos q,if_pos q,q2]; exact p2
  ·rw [if_neg q,if_neg q,q1]; exact p1
 rw [e1] at g13
 have w2 : Fw 1 M1 (M1.load th (m64 (d + 2 + 3 * i + (if s = 1 then 2 else 1)))) := fw_load l1 _ _
 have hM2 : ∀ b,(M1.load th (m64 (d + 2 + 3 * i + (if s = 1 then 2 else 1)))).peek b = M.peek b := fun b => hM1 b
 have l2 := w2.lim l1
 generalize M1.load th (m64 (d + 2 + 3 * i + (if s = 1 then 2 else 1))) = M2 at *
 have g14 : FrP.go ⟨d,14,s,S.length,i,e.a,o,x,4 * (if s = 1 then e.n else e.o),oc,st,false,other⟩ M2 th = (FrP.clear ⟨d,14,s,S.length,i,e.a,o,x,4 * (if s = 1 then e.n else e.o),oc,st,false,other⟩ (i + 1),M2.cas th e.a (planW d) (4 * (if s = 1 then e.n else e.o))) := rfl
 refine ⟨_,M2,.step g12 rfl (by show ¬ 13 = 15; omega) (.step g13 rfl (by show ¬ 14 = 15; omega) (.refl _)),w1.trans w2,?_,⟨_,_,congrArg Prod.fst g14⟩,?_,fun b hb => ?_⟩
 ·rw [g14]; exact fw_cas l2 _ _ _ _
 ·rw [g14]
  have hpw := planW_is hP hl
  have hlt : e.a < M2.cells.length := by have := l2.f6; have := l2.fl; omega
  have hpe : M2.peek e.a = if e.a ∈ (S.take j).map (·.a) then planW d else 4 * w e.a := by
   rw [hM2,hC e.a ha1 ha5]
   by_cases q : e.a ∈ (S.take j).map (·.a)
   ·rw [if_pos ⟨q,nd_take hnd hS⟩,if_pos q]
   ·rw [if_neg (fun z => q z.1),if_neg q]
  have hij : e.a ∈ (S.take j).map (·.a)→i < j := fun q => by
   rcases Nat.lt_or_ge i j with h | h
   ·exact h
   ·refine absurd ?_ (nd_take hnd hS)
    obtain ⟨y,hy,hya⟩ := List.mem_map.1 q
    refine List.mem_map.2 ⟨y,?_,hya⟩
    rw [show S.take j = (S.take i).take j by rw [List.take_take,Nat.min_eq_left h]] at hy
    exact List.mem_of_mem_take hy
  intro c c1 c5
  rw [peek_cas]
  by_cases q : c = e.a
  ·subst q
   rw [if_neg (show ¬ (e.a ∈ (S.take j).map (·.a)∧e.a ∉ (S.take (i + 1)).map (·.a)) from fun z => z.2 ((take_mem hS).2 (.inr rfl)))]
   by_cases q2 : e.a ∈ (S.take j).map (·.a)
   ·rw [if_pos q2] at hpe
    rw [if_pos ⟨by rw [swaps_iff hlt,hpe]; exact decide_eq_true rfl,rfl⟩,hw i e (hij q2) hS]
   ·rw [if_neg q2] at hpe
    rw [if_neg (fun z => by
     have := swaps_eq z.1
     rw [hpe,hpw] at this
     omega),hpe]
  ·rw [if_neg (fun z => q z.2.symm),hM2,hC c c1 c5]
   by_cases q2 : c ∈ (S.take j).map (·.a)∧c ∉ (S.take i).map (·.a)
   ·rw [if_pos q2,if_pos ⟨q2.1,fun z => ((take_mem hS).1 z).elim q2.2 q⟩]
   ·rw [if_neg q2,if_neg (fun z => q2 ⟨z.1,fun y => z.2 ((take_mem hS).2 (.inl y))⟩)]
 ·rw [g14,peek_cas,if_neg (fun z => by omega)]
  exact hM2 b
theorem clear_all (th : Int) {d j s : Nat} {S : List E3} {w : Nat→Nat} (hall : ∀ e ∈ S,EOk e) (hnd : (S.map (·.a)).Nodup) (hw : ∀ t e,t < j→S[t]? = some e→(if s = 1 then e.n else e.o) = w e.a) :
  ∀ (r i : Nat) (M : Mem) (a o x wv oc other : Nat) (st : SettP),S.length = i + (r + 1)→PlanAt M d S→Lim M→ClearI M w d S j i →
   ∃ k f' M',k ≤ 3 * (r + 1)∧FSt th k (⟨d,12,s,S.length,i,a,o,x,wv,oc,st,false,other⟩,M) (f',M')∧Fw k M M'∧Fw 1 M' (f'.go M' th).2∧(f'.go M' th).1.at_ = 15∧(f'.go M' th).1.meets = false∧ClearI (f'.go M' th).2 w d S j S.length∧(∀ b,5 < b→b < M.free→(f'.go M' th).2.peek b = M.peek b) := by
 intro r
 induction r with
 | zero =>
  intro i M a o x wv oc other st hlen hP hl hC
  obtain ⟨e,he⟩ : ∃ e,S[i]? = some e := ⟨_,List.getElem?_eq_getElem (by omega)⟩
  obtain ⟨f',M',h1,h2,h3,⟨a',w',h4⟩,h5,h6⟩ := clear_round th (v := w) hP hl hnd he (hall e (List.mem_of_getElem? he)) hw hC (a := a) (o := o) (x := x) (wv := wv) (oc := oc) (other := other) (st := st)
  have h15 : FrP.clear ⟨d,14,s,S.length,i,a',o,x,w',oc,st,false,other⟩ (i + 1) = ⟨d,15,s,S.length,i + 1,a',o,x,w',oc,st,false,other⟩ := if_pos (by show S.length ≤ i + 1; omega)
  refine ⟨2,f',M',by omega,h1,h2,h3,by rw [h4,h15],by rw [h4,h15],?_,fun b b5 _ => h6 b b5⟩
  rw [show S.length = i + 1 by omega]
  exact h5
 | succ r ih =>
  intro i M a o x wv oc other st hlen hP hl hC
  obtain ⟨e,he⟩ : ∃ e,S[i]? = some e := ⟨_,List.getElem?_eq_getElem (by omega)⟩
  obtain ⟨f',M',h1,h2,h3,⟨a',w',h4⟩,h5,h6⟩ := clear_round th (v := w) hP hl hnd he (hall e (List.mem_of_getElem? he)) hw hC (a := a) (o := o) (x := x) (wv := wv) (oc := oc) (other := other) (st := st)
  have h12 : FrP.clear ⟨d,14,s,S.length,i,a',o,x,w',oc,st,false,other⟩ (i + 1) = ⟨d,12,s,S.length,i + 1,a',o,x,w',oc,st,false,other⟩ := if_neg (by show ¬ S.length ≤ i + 1; omega)
  rw [h12] at h4
  have h23 := h2.trans h3
  have hg : f'.go M' th = (⟨d,12,s,S.length,i + 1,a',o,x,w',oc,st,false,other⟩,(f'.go M' th).2) := Prod.ext h4 rfl
  generalize (f'.go M' th).2 = M2 at *
  obtain ⟨k,f2,M3,b1,b2,b3,b4,b5,b6,b7,b8⟩ := ih (i + 1) M2 a' o x w' oc other st (by omega) (hP.keep h23.fr (fun b c1 _ _ => h6 b c1)) (h23.lim hl) h5
  exact ⟨2 + (k + 1),f2,M3,by omega,h1.trans (.step hg rfl (by show ¬ 12 = 15; omega) b2),(h2.trans (h3.trans b3)).up (by omega),b4,b5,b6,b7,fun b c1 c2 => by rw [b8 b c1 (by have := h23.fr; omega)]; exact h6 b c1⟩
end Go.Proofs.Ytoogdnemkfbgdaa

set_option linter.unusedVariables false
set_option linter.unusedSimpArgs false
namespace Go.Proofs.Ytoogdnemkfbgdaa
open Go Go.CM
theorem flat3 {α β : Type} {f : α→List β} (hf : ∀ x,(f x).length = 3) : ∀ (S : List α) (i j : Nat) (x : α),S[i]? = some x→j < 3→(S.flatMap f)[3 * i + j]? = (f x)[j]?
 | [],i,j,x,h,_ => by simp at h
 | y::r,0,j,x,h,hj => by
  simp at h; subst h
  rw [List.flatMap_cons,Nat.mul_zero,Nat.zero_add,List.getElem?_append_left (by rw [hf]; exact hj)]
 | y::r,i + 1,j,x,h,hj => by
  rw [List.flatMap_cons,List.getElem?_append_right (by rw [hf]; omega),hf,show 3 * (i + 1) + j - 3 = 3 * i + j by omega]
  exact flat3 hf r i j x (by simpa using h) hj
theorem planE_at {S : List E3} {i : Nat} {x : E3} (h : S[i]? = some x) (hx : EOk x) : (planE S).getD (2 + 3 * i) 0 = x.a∧(planE S).getD (2 + 3 * i + 1) 0 = 4 * x.o∧(planE S).getD (2 + 3 * i + 2) 0 = 4 * x.n := by
 obtain ⟨_,_,ho,hn⟩ := hx
 have key : ∀ j,j < 3→(planE S).getD (2 + 3 * i + j) 0 = ([x.a,Nat.mod (Nat.mul 4 x.o) 18446744073709551616,Nat.mod (Nat.mul 4 x.n) 18446744073709551616] : List Nat).getD j 0 := fun j hj => by
  unfold planE
  rw [List.getD_eq_getElem?_getD,List.getD_eq_getElem?_getD,show 2 + 3 * i + j = (3 * i + j) + 1 + 1 by omega,List.getElem?_cons_succ,List.getElem?_cons_succ,flat3 (fun _ => rfl) S i j x h hj]
 have o4 : Nat.mod (Nat.mul 4 x.o) 18446744073709551616 = 4 * x.o := Nat.mod_eq_of_lt (by show 4 * x.o < _; omega)
 have n4 : Nat.mod (Nat.mul 4 x.n) 18446744073709551616 = 4 * x.n := Nat.mod_eq_of_lt (by show 4 * x.n < _; omega)
 refine ⟨key 0 (by omega),(key 1 (by omega)).trans ?_,(key 2 (by omega)).trans ?_⟩
 ·show Nat.mod (Nat.mul 4 x.o) _ = _; exact o4
 ·show Nat.mod (Nat.mul 4 x.n) _ = _; exact n4
theorem planE_length (S : List E3) : (planE S).length = 2 + 3 * S.length := by
 have : ∀ l : List E3,(l.flatMap fun e => [e.a,Nat.mod (Nat.mul 4 e.o) 18446744073709551616,Nat.mod (Nat.mul 4 e.n) 18446744073709551616]).length = 3 * l.length := fun l => by
  induction l with
  | nil => rfl
  | cons x r ih => rw [List.flatMap_cons,List.length_append,ih,List.length_cons]; show 3 + 3 * r.length = 3 * (r.length + 1); omega
 show (_::_::List.flatMap _ S).length = _
 rw [List.length_cons,List.length_cons,this]; omega
def newV (l : List E3) (v : Nat→Nat) : Nat→Nat := l.foldl (fun g e c => if c = e.a then e.n else g c) v
theorem newV_out {c : Nat} : ∀ (l : List E3) (v : Nat→Nat),c ∉ l.map (·.a)→newV l v c = v c
 | [],v,_ => rfl
 | e::r,v,h => by
  rw [List.map_cons,List.mem_cons] at h
  show newV r _ c = _
  rw [newV_out r _ (fun z => h (.inr z))]
  show (if c = e.a then e.n else v c) = v c
  rw [if_neg (fun z => h (.inl z))]
theorem newV_in {e : E3} : ∀ (l : List E3) (v : Nat→Nat),(l.map (·.a)).Nodup→e ∈ l→newV l v e.a = e.n
 | [],v,_,h => nomatch h
 | x::r,v,hn,h => by
  rw [List.map_cons,List.nodup_cons] at hn
  show newV r _ e.a = _
  rcases List.mem_cons.1 h with rfl | h
  ·rw [newV_out r _ hn.1]
   show (if e.a = e.a then e.n else v e.a) = e.n
   rw [if_pos rfl]
  ·exact newV_in r _ hn.2 h
def allOld (l : List E3) (v : Nat→Nat) : Bool := l.all fun e => decide (v e.a = e.o)
structure CalmA (M : Mem) (v : Nat→Nat) : Prop where
 lim : Lim M
 c : ∀ c,1 ≤ c→c ≤ 5→M.peek c = 4 * v c
 b : ∀ c,v c < 4611686018427387904
theorem newV_lt {l : List E3} {v : Nat→Nat} (hl : ∀ e ∈ l,e.n < 4611686018427387904) (hv : ∀ c,v c < 4611686018427387904) (c : Nat) : newV l v c < 4611686018427387904 := by
 induction l generalizing v with
 | nil => exact hv c
 | cons e r ih =>
  refine ih (v := fun c => if c = e.a then e.n else v c) (fun x hx => hl x (List.mem_cons_of_mem _ hx)) fun c => ?_
  show (if c = e.a then e.n else v c) < _
  split
  ·exact hl e (List.mem_cons_self ..)
  ·exact hv c
theorem frame_alone (th : Int) {M : Mem} {v : Nat→Nat} {d : Nat} {S : List E3} (hall : ∀ e ∈ S,EOk e) (hnd : (S.map (·.a)).Nodup) (hv : ∀ c,v c < 4611686018427387904) (hne : S ≠ []) (h16 : S.length ≤ 16) (hP : PlanAt M d S) (hl : Lim M) (h0 : M.peek d = 0) (hc : ∀ c,1 ≤ c→c ≤ 5→M.peek c = 4 * v c) :
  ∃ k f' M' oc,k ≤ 200∧FSt th k (fr0 d,M) (f',M')∧Fw k M M'∧Fw 1 M' (f'.go M' th).2∧(f'.go M' th).1.at_ = 15∧(f'.go M' th).1.meets = false∧(f'.go M' th).2.peek d = oc ∧
   ((oc = 1∧(∀ e ∈ S,v e.a = e.o)∧∀ c,1 ≤ c→c ≤ 5→(f'.go M' th).2.peek c = 4 * newV S v c) ∨ ((oc = 2∧(∃ e ∈ S,v e.a ≠ e.o) ∨ oc = 3)∧∀ c,1 ≤ c→c ≤ 5→(f'.go M' th).2.peek c = 4 * v c)) := by
 obtain ⟨r,hr⟩ : ∃ r,S.length = r + 1 := ⟨S.length - 1,by have : 0 < S.length := List.length_pos_iff.2 hne; omega⟩
 have hd6 := hP.d6
 have hfr := hP.fr
 have g0 : (fr0 d).go M th = (⟨d,1,M.peek d,0,0,0,0,0,0,0,sett0 0,false,0⟩,M.load th d) := rfl
 rw [h0] at g0
 have w0 : Fw 1 M (M.load th d) := fw_load hl _ _
 have l0 := w0.lim hl
 have hm1 : m64 (d + 1) = d + 1 := Nat.mod_eq_of_lt (by have := hl.fl; have := hl.ll; omega)
 have g1 : FrP.go ⟨d,1,0,0,0,0,0,0,0,0,sett0 0,false,0⟩ (M.load th d) th = (⟨d,2,0,S.length,0,0,0,0,0,0,sett0 0,false,0⟩,(M.load th d).load th (m64 (d + 1))) := by
  have e : FrP.go ⟨d,1,0,0,0,0,0,0,0,0,sett0 0,false,0⟩ (M.load th d) th = (FrP.next ⟨d,11,0,min (M.peek (m64 (d + 1))) 16,0,0,0,0,0,0,sett0 0,false,0⟩ 0,(M.load th d).load th (m64 (d + 1))) := rfl
  rw [e,hm1,hP.n,Nat.min_eq_left h16]
  unfold FrP.next
  rw [if_neg (by show ¬ S.length ≤ 0 + 0; omega)]
 have w1 : Fw 1 (M.load th d) ((M.load th d).load th (m64 (d + 1))) := fw_load l0 _ _
 have l1 := w1.lim l0
 have hp2 : ∀ b,((M.load th d).load th (m64 (d + 1))).peek b = M.peek b := fun _ => rfl
 have hfr2 : ((M.load th d).load th (m64 (d + 1))).free = M.free := rfl
 generalize (M.load th d).load th (m64 (d + 1)) = M2 at *
 have hP2 : PlanAt M2 d S := hP.keep (Nat.le_of_eq hfr2.symm) fun b _ _ _ => hp2 b
 obtain ⟨k,f',M3,j,b1,b2,b3,b4,b5,b6,b7,b8,b9,b10,b11,b12⟩ := lock_all th hall hnd hv r 0 M2 0 0 0 0 0 0 0 (sett0 0) (by omega) hP2 l1 (by rw [hp2]; exact h0) (fun c c1 c5 => by rw [hp2,hc c c1 c5,if_neg (by simp)]) (fun t e ht => absurd ht (Nat.not_lt_zero _))
 obtain ⟨d',at',s',n',i',a',o',x',w',oc,st',m',ot'⟩ := f'
 simp only at b4 b5 b6 b7 b10
 subst b4 b5 b6 b7
 have l3 := b3.lim l1
 have g10 : FrP.go ⟨d',10,s',S.length,i',a',o',x',w',oc,st',false,ot'⟩ M3 th = (⟨d',11,s',S.length,i',a',o',x',w',oc,st',false,ot'⟩,M3.cas th d' 0 oc) := rfl
 have w10 : Fw 1 M3 (M3.cas th d' 0 oc) := fw_cas l3 _ _ _ _
 have hdl : d' < M3.cells.length := by have := b11.fr; have := l3.fl; omega
 have hsw : M3.swaps d' 0 = true := by rw [swaps_iff hdl,b12]; rfl
 have hp4 : ∀ b,(M3.cas th d' 0 oc).peek b = if b = d' then oc else M3.peek b := fun b => by
  rw [peek_cas,hsw]
  by_cases q : b = d'
  ·rw [if_pos ⟨rfl,q.symm⟩,if_pos q]
  ·rw [if_neg (fun z => q z.2.symm),if_neg q]
 have l4 := w10.lim l3
 have hP4 : PlanAt (M3.cas th d' 0 oc) d' S := b11.keep w10.fr fun b _ q _ => by rw [hp4,if_neg q]
 generalize M3.cas th d' 0 oc = M4 at *
 have g11 : FrP.go ⟨d',11,s',S.length,i',a',o',x',w',oc,st',false,ot'⟩ M4 th = (⟨d',12,oc,S.length,0,a',o',x',w',oc,st',false,ot'⟩,M4.load th d') := by
  have e : FrP.go ⟨d',11,s',S.length,i',a',o',x',w',oc,st',false,ot'⟩ M4 th = (FrP.clear ⟨d',11,M4.peek d',S.length,i',a',o',x',w',oc,st',false,ot'⟩ 0,M4.load th d') := rfl
  rw [e,hp4,if_pos rfl]
  unfold FrP.clear
  rw [if_neg (by show ¬ S.length ≤ 0; omega)]
 have w11 : Fw 1 M4 (M4.load th d') := fw_load l4 _ _
 have l5 := w11.lim l4
 have hp5 : ∀ b,(M4.load th d').peek b = M4.peek b := fun _ => rfl
 have hfr5 : (M4.load th d').free = M4.free := rfl
 have hP5 : PlanAt (M4.load th d') d' S := hP4.keep (Nat.le_of_eq hfr5.symm) fun b _ _ _ => hp5 b
 generalize M4.load th d' = M5 at *
 have fin : ∀ w : Nat→Nat,(∀ t e,t < j→S[t]? = some e→(if oc = 1 then e.n else e.o) = w e.a)→(∀ c,c ∉ (S.take j).map (·.a)→v c = w c) →
   ∃ k f' M',k ≤ 200∧FSt th k (fr0 d',M) (f',M')∧Fw k M M'∧Fw 1 M' (f'.go M' th).2∧(f'.go M' th).1.at_ = 15∧(f'.go M' th).1.meets = false∧(f'.go M' th).2.peek d' = oc∧∀ c,1 ≤ c→c ≤ 5→(f'.go M' th).2.peek c = 4 * w c := fun w hw hvw => by
  obtain ⟨k2,f2,M6,c1,c2,c3,c4,c5,c6,c7,c8⟩ := clear_all th (j := j) (s := oc) (w := w) hall hnd hw r 0 M5 a' o' x' w' oc ot' st' (by omega) hP5 l5 (fun c q1 q5 => by
   rw [hp5,hp4,if_neg (by omega),b9 c q1 q5]
   by_cases q : c ∈ (S.take j).map (·.a)
   ·rw [if_pos q,if_pos ⟨q,by simp⟩]
   ·rw [if_neg q,if_neg (fun z => q z.1),hvw c q])
  refine ⟨1 + (1 + (k + (1 + (1 + k2)))),f2,M6,by omega,?_,w0.trans (w1.trans (b3.trans (w10.trans (w11.trans c3)))),c4,c5,c6,?_,fun c q1 q5 => ?_⟩
  ·exact (FSt.step g0 rfl (by show ¬ 1 = 15; omega) (.refl _)).trans ((FSt.step g1 rfl (by show ¬ 2 = 15; omega) (.refl _)).trans (b2.trans ((FSt.step g10 rfl (by show ¬ 11 = 15; omega) (.refl _)).trans ((FSt.step g11 rfl (by show ¬ 12 = 15; omega) (.refl _)).trans c2))))
  ·rw [c8 d' (by omega) (by have := hP5.fr; omega),hp5,hp4,if_pos rfl]
  ·rw [c7 c q1 q5,if_neg (fun z => z.2 (by
    obtain ⟨y,hy,hya⟩ := List.mem_map.1 z.1
    rw [List.take_length]
    exact List.mem_map.2 ⟨y,List.mem_of_mem_take hy,hya⟩))]
 rcases b10 with ⟨q1,q2⟩ | q1
 ·have hold : ∀ e ∈ S,v e.a = e.o := fun e he => by
   obtain ⟨t,ht⟩ := List.mem_iff_getElem?.1 he
   exact b8 t e (by have := (List.getElem?_eq_some_iff.1 ht).1; omega) ht
  obtain ⟨k2,f2,M6,c1,c2,c3,c4,c5,c6,c7,c8⟩ := fin (newV S v) (fun t e _ he => by rw [if_pos q1]; exact (newV_in S v hnd (List.mem_of_getElem? he)).symm) (fun c hcn => by
   rw [List.take_of_length_le q2] at hcn
   exact (newV_out S v hcn).symm)
  exact ⟨k2,f2,M6,oc,c1,c2,c3,c4,c5,c6,c7,.inl ⟨q1,hold,c8⟩⟩
 ·have hoc : oc ≠ 1 := by rcases q1 with ⟨q,_⟩ | q <;> omega
  obtain ⟨k2,f2,M6,c1,c2,c3,c4,c5,c6,c7,c8⟩ := fin v (fun t e ht he => by rw [if_neg hoc]; exact (b8 t e ht he).symm) (fun _ _ => rfl)
  exact ⟨k2,f2,M6,oc,c1,c2,c3,c4,c5,c6,c7,.inr ⟨q1,c8⟩⟩
inductive MSt (th : Int) : Nat→MuP × Mem→MuP × Mem→Prop where
 | refl (s : MuP × Mem) : MSt th 0 s s
 | step {k : Nat} {x x' : MuP} {M M' : Mem} {t : MuP × Mem} : x.go M th = (x',M')→x'.at_ ≠ 3→MSt th k (x',M') t→MSt th (k + 1) (x,M) t
theorem MSt.trans {th : Int} {k m : Nat} {a b c : MuP × Mem} (h : MSt th k a b) (g : MSt th m b c) : MSt th (k + m) a c := by
 induction h with
 | refl s => rw [Nat.zero_add]; exact g
 | step h1 h2 _ ih => rw [show ∀ k : Nat,k + 1 + m = (k + m) + 1 from fun k => by omega]; exact .step h1 h2 (ih g)
theorem mu_frame (th : Int) (f : FrP) (M : Mem) (l : List E3) (d : Nat) (done : Bool) (err : Nat) (hm : (f.go M th).1.meets = false) :
  MuP.go ⟨l,1,d,[f],done,err⟩ M th = (⟨l,if (f.go M th).1.at_ = 15 then 2 else 1,d,if (f.go M th).1.at_ = 15 then [] else [(f.go M th).1],done,err⟩,(f.go M th).2) := by
 have e : stkP [f] M th = (if (f.go M th).1.at_ = 15 then [] else [(f.go M th).1],(f.go M th).2) := by
  show ((if (f.go M th).1.meets = true then fr0 (f.go M th).1.other::{ (f.go M th).1 with meets := false }::[] else if (f.go M th).1.at_ = 15 then [] else (f.go M th).1::[]),(f.go M th).2) = _
  rw [if_neg (by rw [hm]; simp)]
 have g : MuP.go ⟨l,1,d,[f],done,err⟩ M th = (⟨l,if (stkP [f] M th).1 = [] then 2 else 1,d,(stkP [f] M th).1,done,err⟩,(stkP [f] M th).2) := rfl
 rw [g,e]
 by_cases q : (f.go M th).1.at_ = 15
 ·simp only [if_pos q,if_true]
 ·simp only [if_neg q]
  rw [if_neg (by simp)]
theorem mu_of_fst {th : Int} {k : Nat} {a b : FrP × Mem} (h : FSt th k a b) (l : List E3) (d : Nat) (done : Bool) (err : Nat) : MSt th k (⟨l,1,d,[a.1],done,err⟩,a.2) (⟨l,1,d,[b.1],done,err⟩,b.2) := by
 induction h with
 | refl s => exact .refl _
 | step h1 h2 h3 _ ih =>
  rename_i f f' M M' t ht
  refine .step ?_ ?_ ih
  ·show MuP.go ⟨l,1,d,[f],done,err⟩ M th = _
   rw [mu_frame th f M l d done err (by rw [h1]; exact h2),h1]
   simp only [if_neg h3]
  ·show ¬ 1 = 3; omega
theorem mu_alone (th : Int) {M : Mem} {v : Nat→Nat} {l : List E3} (hM : CalmA M v) (ha : ∀ e ∈ l,1 ≤ e.a∧e.a ≤ 5) :
  ∃ k x' M',k ≤ 300∧MSt th k (⟨l,0,0,[],false,0⟩,M) (x',M')∧(x'.go M' th).1.at_ = 3∧Fw (k + 1) M (x'.go M' th).2 ∧
   (((x'.go M' th).1.err = 0∧(x'.go M' th).1.done = allOld l v∧CalmA (x'.go M' th).2 (if allOld l v = true then newV l v else v)) ∨ ((x'.go M' th).1.err ≠ 0∧CalmA (x'.go M' th).2 v)) := by
 obtain ⟨hl,hc,hv⟩ := hM
 by_cases h1 : errE l ≠ 0 ∨ l = []
 ·have g : MuP.go ⟨l,0,0,[],false,0⟩ M th = (⟨l,3,0,[],decide (errE l = 0),errE l⟩,M) := Eq.trans (if_pos rfl) (if_pos h1)
  refine ⟨0,_,_,by omega,.refl _,by rw [g],by rw [g]; exact (Fw.refl hl).up (by omega),?_⟩
  rw [g]
  by_cases h2 : errE l = 0
  ·have h3 : l = [] := h1.resolve_left (fun z => z h2)
   subst h3
   exact .inl ⟨h2,decide_eq_true h2,⟨hl,hc,hv⟩⟩
  ·exact .inr ⟨h2,⟨hl,hc,hv⟩⟩
 ·have he : errE l = 0 := Classical.byContradiction fun z => h1 (.inl z)
  have hne : l ≠ [] := fun z => h1 (.inr z)
  obtain ⟨h16,hrg,hnd0⟩ := errE_zero he
  have hpm := srtE_perm l
  have hrg2 : ∀ e ∈ l,e.a ≠ 0∧e.o < 4611686018427387904∧e.n < 4611686018427387904 := fun e hel => by
   have := (List.any_eq_false.1 hrg) e hel
   simp only [Bool.or_eq_true,decide_eq_true_eq,not_or,Nat.not_le] at this
   exact ⟨this.1,this.2.1,this.2.2⟩
  have hall : ∀ e ∈ srtE l,EOk e := fun e hes => by
   have hel := hpm.mem_iff.1 hes
   exact ⟨(ha e hel).1,(ha e hel).2,(hrg2 e hel).2.1,(hrg2 e hel).2.2⟩
  have hnd : ((srtE l).map (·.a)).Nodup := (hpm.map (·.a)).nodup_iff.2 hnd0
  have hlen : (srtE l).length = l.length := hpm.length_eq
  have hneS : srtE l ≠ [] := fun z => hne (List.eq_nil_of_length_eq_zero (by rw [← hlen,z]; rfl))
  have g : MuP.go ⟨l,0,0,[],false,0⟩ M th = (⟨l,if M.room (planE (srtE l)) = 0 then 3 else 1,M.room (planE (srtE l)),[fr0 (M.room (planE (srtE l)))],false,if M.room (planE (srtE l)) = 0 then 30 else 0⟩,M.alloc th (planE (srtE l))) := Eq.trans (if_pos rfl) (if_neg h1)
  have hpl := planE_length (srtE l)
  have wA : Fw 1 M (M.alloc th (planE (srtE l))) := fw_alloc hl _ _
  by_cases hroom : M.room (planE (srtE l)) = 0
  ·rw [if_pos hroom,if_pos hroom] at g
   have hno : ¬ (0 < (planE (srtE l)).length∧(planE (srtE l)).length ≤ M.cells.length - M.free) := fun q => by
    rw [room_t q.1 q.2] at hroom
    have := hl.f6
    omega
   refine ⟨0,_,_,by omega,.refl _,by rw [g],by rw [g]; exact wA.up (by omega),.inr ?_⟩
   rw [g]
   refine ⟨by show ¬ 30 = 0; omega,wA.lim hl,fun c c1 c5 => ?_,hv⟩
   show (M.alloc th _).peek c = _
   rw [alloc_f hno]
   exact hc c c1 c5
  ·rw [if_neg hroom,if_neg hroom] at g
   have hyes : 0 < (planE (srtE l)).length∧(planE (srtE l)).length ≤ M.cells.length - M.free := Classical.byContradiction fun q => hroom (room_f q)
   have hrm : M.room (planE (srtE l)) = M.free := room_t hyes.1 hyes.2
   rw [hrm] at g
   have lA := wA.lim hl
   have hpA : ∀ b,(M.alloc th (planE (srtE l))).peek b = if M.free ≤ b∧b < M.free + (planE (srtE l)).length then (planE (srtE l)).getD (b - M.free) 0 else M.peek b := peek_alloc hyes.1 (by have := hl.fl; have := hyes.2; omega)
   have hfA : M.free + (planE (srtE l)).length ≤ (M.alloc th (planE (srtE l))).free := by rw [alloc_t hyes.1 hyes.2]; exact Nat.le_refl _
   have hf6 := hl.f6
   have hPA : PlanAt (M.alloc th (planE (srtE l))) M.free (srtE l) := by
    refine ⟨hf6,by omega,?_,fun i x hx => ?_⟩
    ·rw [hpA,if_pos ⟨by omega,by omega⟩,show M.free + 1 - M.free = 1 by omega]; rfl
    ·have hi : i < (srtE l).length := (List.getElem?_eq_some_iff.1 hx).1
     obtain ⟨p0,p1,p2⟩ := planE_at hx (hall x (List.mem_of_getElem? hx))
     refine ⟨?_,?_,?_⟩
     ·rw [hpA,if_pos ⟨by omega,by omega⟩,show M.free + 2 + 3 * i - M.free = 2 + 3 * i by omega]; exact p0
     ·rw [hpA,if_pos ⟨by omega,by omega⟩,show M.free + 2 + 3 * i + 1 - M.free = 2 + 3 * i + 1 by omega]; exact p1
     ·rw [hpA,if_pos ⟨by omega,by omega⟩,show M.free + 2 + 3 * i + 2 - M.free = 2 + 3 * i + 2 by omega]; exact p2
   have h0 : (M.alloc th (planE (srtE l))).peek M.free = 0 := by rw [hpA,if_pos ⟨by omega,by omega⟩,Nat.sub_self]; rfl
   have hcA : ∀ c,1 ≤ c→c ≤ 5→(M.alloc th (planE (srtE l))).peek c = 4 * v c := fun c c1 c5 => by rw [hpA,if_neg (by omega)]; exact hc c c1 c5
   generalize M.alloc th (planE (srtE l)) = M1 at *
   obtain ⟨k,f',M',oc,b1,b2,b3,b4,b5,b6,b7,b8⟩ := frame_alone th hall hnd hv hneS (by omega) hPA lA h0 hcA
   have g2 := mu_frame th f' M' l M.free false 0 b6
   rw [if_pos b5,if_pos b5] at g2
   generalize (f'.go M' th).2 = M2 at *
   have l2 := b4.lim (b3.lim lA)
   have g3 : MuP.go ⟨l,2,M.free,[],false,0⟩ M2 th = (⟨l,3,M.free,[],decide (M2.peek M.free = 1),if M2.peek M.free = 3 then 30 else 0⟩,M2.load th M.free) := rfl
   rw [b7] at g3
   have w3 : Fw 1 M2 (M2.load th M.free) := fw_load l2 _ _
   have l3 := w3.lim l2
   have hp3 : ∀ b,(M2.load th M.free).peek b = M2.peek b := fun _ => rfl
   generalize M2.load th M.free = M3 at *
   refine ⟨1 + (k + 1),_,_,by omega,(MSt.step g (by show ¬ 1 = 3; omega) (.refl _)).trans ((mu_of_fst b2 l M.free false 0).trans (.step g2 (by show ¬ 2 = 3; omega) (.refl _))),by rw [g3],by rw [g3]; exact (wA.trans (b3.trans (b4.trans w3))).up (by omega),?_⟩
   rw [g3]
   have hmem : ∀ e,e ∈ srtE l ↔ e ∈ l := fun e => hpm.mem_iff
   rcases b8 with ⟨q1,q2,q3⟩ | ⟨q1,q3⟩
   ·subst q1
    have hao : allOld l v = true := List.all_eq_true.2 fun e he' => decide_eq_true (q2 e ((hmem e).2 he'))
    refine .inl ⟨rfl,by rw [hao]; rfl,l3,fun c c1 c5 => ?_,fun c => ?_⟩
    ·show M3.peek c = _
     rw [if_pos hao,hp3,q3 c c1 c5]
     congr 1
     by_cases q : c ∈ l.map (·.a)
     ·obtain ⟨e,he',rfl⟩ := List.mem_map.1 q
      rw [newV_in l v hnd0 he',newV_in (srtE l) v hnd ((hmem e).2 he')]
     ·rw [newV_out l v q,newV_out (srtE l) v (fun z => q ((hpm.map (·.a)).mem_iff.1 z))]
    ·rw [if_pos hao]
     exact newV_lt (fun e he' => (hrg2 e he').2.2) hv c
   ·rcases q1 with ⟨rfl,e,he',hne'⟩ | rfl
    ·have hao : allOld l v = false := by
      cases h : allOld l v with
      | false => rfl
      | true => exact absurd (of_decide_eq_true (List.all_eq_true.1 h e ((hmem e).1 he'))) hne'
     refine .inl ⟨rfl,by rw [hao]; rfl,?_⟩
     show CalmA M3 (if allOld l v = true then newV l v else v)
     rw [if_neg (by rw [hao]; simp)]
     exact ⟨l3,fun c c1 c5 => by show M3.peek c = _; rw [hp3]; exact q3 c c1 c5,hv⟩
    ·exact .inr ⟨by show ¬ 30 = 0; omega,l3,fun c c1 c5 => by show M3.peek c = _; rw [hp3]; exact q3 c c1 c5,hv⟩
theorem rd_alone (th : Int) {M : Mem} {v : Nat→Nat} {c : Nat} (hM : CalmA M v) (h1 : 1 ≤ c) (h5 : c ≤ 5) : RdP.go ⟨c,0,sett0 0,[],0⟩ M th = (⟨c,3,sett0 0,[],v c⟩,M.load th c)∧CalmA (M.load th c) v := by
 have e : RdP.go ⟨c,0,sett0 0,[],0⟩ M th = (if M.peek c % 4 = 1 then (⟨c,1,sett0 (M.peek c),[],0⟩ : RdP) else if M.peek c % 4 = 2 then ⟨c,2,sett0 0,[fr0 (M.peek c / 4)],0⟩ else ⟨c,3,sett0 0,[],M.peek c / 4⟩,M.load th c) := rfl
 rw [hM.c c h1 h5,if_neg (by omega),if_neg (by omega),Nat.mul_div_cancel_left _ (by omega : 0 < 4)] at e
 exact ⟨e,(fw_load hM.lim th c).lim hM.lim,fun x x1 x5 => hM.c x x1 x5,hM.b⟩
end Go.Proofs.Ytoogdnemkfbgdaa

set_option linter.unusedVariables false
set_option linter.unusedSimpArgs false
namespace Go.Proofs.Ytoogdnemkfbgdaa
open Go Go.CM
attribute [local irreducible] AsBool AsWant AsNat AsInt AsCnt AsPtr AsSlc AsLen AsStr AsAgg AsTup AsFn AsIfc Nth Sc NotNil IsNil Must Cd codeW funW Sat SatL wrapN subM mkRow ltZ leZ ltN leN
attribute [local irreducible] isFunT
variable {con : CallT}
abbrev rowsU (l : List Nat) : List (List Value) := l.map fun x => [u64 x]
def wordF (x : Nat) : Nat := Nat.mod (Nat.mul 4 x) 18446744073709551616
theorem mWord_ok (hc : Con con lives) {H : CH} {x : Nat} {K : KP} (k0 : 4611686018427387904 ≤ x→K (.tuple ⟨[u64 0,iN 2]⟩) H) (k1 : x < 4611686018427387904→K (.tuple ⟨[u64 (wordF x),iN 0]⟩) H) : Call1 Try.prog con 25 [u64 x] H K := by
 refine call_of (hc _ _ _ rfl) ?_
 rw [mWord_W]
 by_cases h : 4611686018427387904 ≤ x
 ·exact Cd.t (leN_t h) (k0 h)
 ·exact Cd.f (leN_f (by omega)) (k1 (by omega))
theorem rWord29_ok (hc : Con con lives) {H : CH} {x : Nat} {K : KP} (k0 : 4611686018427387904 ≤ x→K (.tuple ⟨[u64 0,iN 2]⟩) H) (k1 : x < 4611686018427387904→K (.tuple ⟨[u64 (wordF x),iN 0]⟩) H) : Call1 Try.prog con 27 [u64 x] H K := by
 refine call_of (hc _ _ _ rfl) ?_
 rw [rWord29_W]
 by_cases h : 4611686018427387904 ≤ x
 ·exact Cd.t (leN_t h) (k0 h)
 ·exact Cd.f (leN_f (by omega)) (k1 (by omega))
theorem take_map {l : List Nat} {i : Nat} (h : i < l.length) : rowsU ((l.take i).map wordF)++[[u64 (wordF (l.getD i 0))]] = rowsU ((l.take (i + 1)).map wordF) := by
 rw [List.take_add_one,List.getElem?_eq_getElem h,List.getD_eq_getElem?_getD,List.getElem?_eq_getElem h]
 simp only [rowsU,Option.toList_some,List.map_append,List.map_cons,List.map_nil,Option.getD_some]
theorem take_lt {l : List Nat} {i c : Nat} (h : i < l.length) (hx : ∀ x ∈ l.take i,x < c) (hn : l.getD i 0 < c) : ∀ x ∈ l.take (i + 1),x < c := fun x m => by
 rw [List.take_add_one,List.getElem?_eq_getElem h] at m
 rw [List.getD_eq_getElem?_getD,List.getElem?_eq_getElem h] at hn
 rcases List.mem_append.1 m with m | m
 ·exact hx x m
 ·obtain rfl : x = l[i] := by simpa using m
  exact hn
theorem getD_mem {l : List Nat} {i : Nat} (h : i < l.length) : l.getD i 0 ∈ l := by
 rw [List.getD_eq_getElem?_getD,List.getElem?_eq_getElem h]
 exact List.getElem_mem h
def errA (a : Nat) : Nat := if a = 0 then 30 else 0
theorem mMake_ok (hc : Con con lives) {L R1 R2 : List HP} {H : CH} {p m : Nat} {M : Mem} {v : Value} {th : Int} {l : List Nat} {K : KP} (hs : Sat L H) (hm : Pull L (MemP m M) R1) (hv : Pull R1 (ViewAt p m th 0) R2) (hq : Has R2 (Nums v l)) (hl : l.length ≤ 1048576)
  (ht : M.tr.length < 1000000000) (k0 : (∃ x ∈ l,4611686018427387904 ≤ x)→∀ H1,Sat (MemP m M::R2) H1→K (.tuple ⟨[u64 0,iN 2]⟩) H1)
  (k1 : (∀ x ∈ l,x < 4611686018427387904)→∀ H1,Sat (MemP m (M.alloc th (l.map wordF))::R2) H1→K (.tuple ⟨[u64 (M.room (l.map wordF)),iN (errA (M.room (l.map wordF)))]⟩) H1) :
  Call1 Try.prog con 17 [ptr p 0,v] H K := by
 refine call_of (hc _ _ _ rfl) ?_
 rw [mMake_W]
 have hs0 := hs.takes (.cons hm (.cons hv .nil))
 simp only [List.cons_append,List.nil_append] at hs0
 obtain ⟨pv,cv,ev⟩ := (hs0.has (Has.skip (Has.skip hq))).len
 refine AsLen.eq ev ?_
 refine LoopC.ind (n := 100) (by kernel_rfl)
  (fun (i : Nat) σ1 H1 => i ≤ l.length∧(∀ x ∈ l.take i,x < 4611686018427387904)∧∃ w,σ1 6 = w∧σ1 0 = ptr p 0∧σ1 14 = v∧σ1 15 = iN l.length∧σ1 16 = iN i∧Sat (Vec w tU 1 (rowsU ((l.take i).map wordF))::MemP m M::ViewAt p m th 0::R2) H1)
  (fun i => l.length - i) (fun i σ1 H1 hI => ?_) 0 _ _ ⟨Nat.zero_le _,fun x h => by simp at h,snil,rfl,rfl,rfl,rfl,rfl,(hs0.nilV (e := tU) (s := 1)).ent ee⟩
 obtain ⟨hi,hx,w,a6,a0,a14,a15,a16,hs1⟩ := hI
 rw [mMakeL_W]
 simp only [a6,a15,a16]
 repeat (refine gO ?_; intros)
 by_cases h : i < l.length
 ·refine Cd.t (ltZ_t h) ?_
  rcases (hs0.has (Has.skip (Has.skip hq))).shape with ⟨h3,h4⟩ | ⟨b',o,c',h3⟩
  ·rw [h4] at h; simp at h
  refine AsSlc.eq (a14.trans h3) ?_
  repeat (refine gO ?_; intros)
  refine Must.mk (ltN_t h) ?_
  refine ldSrc hs1 ((Has.skip (Has.skip (Has.skip hq))).src h3) (by rw [show Nat.mul i 1 = i from Nat.mul_one i]; rfl) (map_get _ h) ?_
  refine mWord_ok hc (fun hb => ?_) (fun hb => ?_)
  ·repeat (refine gO ?_; intros)
   exact k0 ⟨_,getD_mem h,hb⟩ _ (hs1.ent ee)
  ·repeat (refine gO ?_; intros)
   rename_i p16 H17 h17
   refine app_vec (new := [[u64 (wordF (l.getD i 0))]]) h17 pp el_u64 (by omega) sl_u64 (Src.cell (n := 1) (by rfl)) rfl (by simp) (by simp; omega) rfl fun w' H28 h28 => ?_
   rw [take_map h] at h28
   repeat (refine gO ?_; intros)
   rw [show Int.add (Int.ofNat i) (Int.ofNat 1) = Int.ofNat (i + 1) from addInt _ _]
   refine inR_nat (by omega) ?_
   show ∃ y,_∧_
   exact ⟨i + 1,by omega,h,take_lt h hx hb,w',rfl,a0,a14,a15,rfl,h28.ent ee⟩
 ·refine Cd.f (ltZ_f (by omega)) ?_
  obtain rfl : i = l.length := by omega
  show Cd _ _ _
  refine Cd.t rfl ?_
  show Call1 Try.prog con 26 [σ1 0,σ1 6] _ _
  rw [a0,a6]
  rw [List.take_length] at hs1 hx
  have h2 : Sat (MemP m M::ViewAt p m th 0::Nums w (l.map wordF)::R2) H1 := hs1.imp (fun g a => Vec.nums a) |>.ent ee
  refine viewAlloc_ok hc h2 pp pp Has.nums (by simp; omega) (by omega) ht fun H2 h3 => ?_
  repeat (refine gO ?_; intros)
  have h4 := k1 hx H2 (h3.ent ee)
  unfold errA at h4
  by_cases hz : M.room (l.map wordF) = 0
  ·rw [if_pos hz] at h4
   refine Cd.t (eqN_t hz) ?_
   rw [hz] at h4
   exact h4
  ·rw [if_neg hz] at h4
   exact Cd.f (eqN_f hz) h4
theorem rMake29_ok (hc : Con con lives) {L R2 : List HP} {H : CH} {m : Nat} {M : Mem} {v : Value} {th : Int} {l : List Nat} {K : KP} (hs : Sat L H) (hm : Pull L (RefP m M) R2) (hq : Has R2 (Nums v l)) (hl : l.length ≤ 1048576)
  (ht : M.tr.length < 1000000000) (k0 : (∃ x ∈ l,4611686018427387904 ≤ x)→∀ H1,Sat (RefP m M::R2) H1→K (.tuple ⟨[u64 0,iN 2]⟩) H1)
  (k1 : (∀ x ∈ l,x < 4611686018427387904)→∀ H1,Sat (RefP m (M.alloc th (l.map wordF))::R2) H1→K (.tuple ⟨[u64 (M.room (l.map wordF)),iN (errA (M.room (l.map wordF)))]⟩) H1) :
  Call1 Try.prog con 18 [ptr m 0,i64 th,v] H K := by
 refine call_of (hc _ _ _ rfl) ?_
 rw [rMake29_W]
 have hs0 := hs.pull hm
 obtain ⟨pv,cv,ev⟩ := (hs0.has (Has.skip hq)).len
 refine LoopC.ind (n := 100) (by kernel_rfl)
  (fun (i : Nat) σ1 H1 => i ≤ l.length∧(∀ x ∈ l.take i,x < 4611686018427387904)∧∃ w,σ1 8 = w∧σ1 0 = ptr m 0∧σ1 2 = v∧σ1 1 = i64 th∧σ1 9 = iN i∧Sat (Vec w tU 1 (rowsU ((l.take i).map wordF))::RefP m M::R2) H1)
  (fun i => l.length - i) (fun i σ1 H1 hI => ?_) 0 _ _ ⟨Nat.zero_le _,fun x h => by simp at h,snil,rfl,rfl,rfl,rfl,rfl,(hs0.nilV (e := tU) (s := 1)).ent ee⟩
 obtain ⟨hi,hx,w,a6,a0,a14,a15,a16,hs1⟩ := hI
 rw [rMake29L_W]
 simp only [a6,a16]
 refine AsLen.eq (a14.trans ev) ?_
 repeat (refine gO ?_; intros)
 by_cases h : i < l.length
 ·refine Cd.t (ltZ_t h) ?_
  rcases (hs0.has (Has.skip hq)).shape with ⟨h3,h4⟩ | ⟨b',o,c',h3⟩
  ·rw [h4] at h; simp at h
  refine AsSlc.eq (a14.trans h3) ?_
  repeat (refine gO ?_; intros)
  refine Must.mk (ltN_t h) ?_
  refine ldSrc hs1 ((Has.skip (Has.skip hq)).src h3) (by rw [show Nat.mul i 1 = i from Nat.mul_one i]; rfl) (map_get _ h) ?_
  refine rWord29_ok hc (fun hb => ?_) (fun hb => ?_)
  ·repeat (refine gO ?_; intros)
   exact k0 ⟨_,getD_mem h,hb⟩ _ (hs1.ent ee)
  ·repeat (refine gO ?_; intros)
   rename_i p16 H17 h17
   refine app_vec (new := [[u64 (wordF (l.getD i 0))]]) h17 pp el_u64 (by omega) sl_u64 (Src.cell (n := 1) (by rfl)) rfl (by simp) (by simp; omega) rfl fun w' H28 h28 => ?_
   rw [take_map h] at h28
   repeat (refine gO ?_; intros)
   rw [show Int.add (Int.ofNat i) (Int.ofNat 1) = Int.ofNat (i + 1) from addInt _ _]
   refine inR_nat (by omega) ?_
   show ∃ y,_∧_
   exact ⟨i + 1,by omega,h,take_lt h hx hb,w',rfl,a0,a14,a15,rfl,h28.ent ee⟩
 ·refine Cd.f (ltZ_f (by omega)) ?_
  obtain rfl : i = l.length := by omega
  show Cd _ _ _
  refine Cd.t rfl ?_
  show Call1 Try.prog con 28 [σ1 0,σ1 1,σ1 8] _ _
  rw [a0,a6,a15]
  rw [List.take_length] at hs1 hx
  have h2 : Sat (RefP m M::Nums w (l.map wordF)::R2) H1 := hs1.imp (fun g a => Vec.nums a) |>.ent ee
  refine refAlloc_ok hc h2 pp Has.nums (by simp; omega) ht fun H2 h3 => ?_
  repeat (refine gO ?_; intros)
  have h4 := k1 hx H2 (h3.ent ee)
  unfold errA at h4
  by_cases hz : M.room (l.map wordF) = 0
  ·rw [if_pos hz] at h4
   refine Cd.t (eqN_t hz) ?_
   rw [hz] at h4
   exact h4
  ·rw [if_neg hz] at h4
   exact Cd.f (eqN_f hz) h4
def cellW (M : Mem) (a i : Nat) : Nat := M.peek (Nat.mod (Nat.add a i) 18446744073709551616)
def valW (M : Mem) (a i : Nat) : Nat := Nat.mod (Nat.div (cellW M a i) 4) 18446744073709551616
def GoodC (M : Mem) (a i : Nat) : Prop := Nat.mod (cellW M a i) 4 ≠ 1∧Nat.mod (cellW M a i) 4 ≠ 2
def GoodV (M : Mem) (a n : Nat) : Prop := ∀ i,i < n→GoodC M a i
def valsW (M : Mem) (a n : Nat) : List Nat := (List.range n).map (valW M a)
theorem valsW_succ (M : Mem) (a n : Nat) : rowsU (valsW M a n)++[[u64 (valW M a n)]] = rowsU (valsW M a (n + 1)) := by
 unfold valsW
 rw [List.range_succ,List.map_append,rowsU,rowsU,List.map_append]
 rfl
theorem valsW_len (M : Mem) (a n : Nat) : (valsW M a n).length = n := by unfold valsW; simp
theorem good_succ {M : Mem} {a i : Nat} (h : ∀ j,j < i→GoodC M a j) (h2 : GoodC M a i) : ∀ j,j < i + 1→GoodC M a j := fun j hj => by
 rcases Nat.lt_or_ge j i with q | q
 ·exact h j q
 ·obtain rfl : j = i := by omega
  exact h2
theorem mValues_ok (hc : Con con lives) {L R : List HP} {H : CH} {m a n : Nat} {z : Int} {M : Mem} {K : KP} (hs : Sat L H) (hm : Pull L (MemP m M) R) (hz : z = Int.ofNat n) (hn : n ≤ 16) (ha : a < 18446744073709551616)
  (k0 : ¬ GoodV M a n→∀ H1,Sat L H1→K (.tuple ⟨[snil,.bool false]⟩) H1) (k1 : GoodV M a n→∀ w H1,Sat (Vec w tU 1 (rowsU (valsW M a n))::L) H1→K (.tuple ⟨[w,.bool true]⟩) H1) :
  Call1 Try.prog con 14 [ptr m 0,u64 a,i64 z] H K := by
 subst hz
 refine call_of (hc _ _ _ rfl) ?_
 rw [mValues_W]
 refine Cd.f (ltZ_f (by omega)) ?_
 refine Cd.f (ltZ_f (by omega)) ?_
 refine Must.mk (cv_small (by omega)) ?_
 rw [wrapN_small (by omega)]
 refine LoopC.ind (n := 100) (by kernel_rfl)
  (fun (i : Nat) σ1 H1 => i ≤ n∧(∀ j,j < i→GoodC M a j)∧∃ w,σ1 8 = w∧σ1 0 = ptr m 0∧σ1 1 = u64 a∧σ1 22 = u64 n∧σ1 23 = u64 i∧Sat (Vec w tU 1 (rowsU (valsW M a i))::L) H1)
  (fun i => n - i) (fun i σ1 H1 hI => ?_) 0 _ _ ⟨Nat.zero_le _,fun j h => by omega,snil,rfl,rfl,rfl,rfl,rfl,hs.nilV (e := tU) (s := 1)⟩
 obtain ⟨hi,hx,w,a8,a0,a1,a22,a23,hs1⟩ := hI
 rw [mValuesL_W]
 simp only [a8,a0,a1,a22,a23]
 repeat (refine gO ?_; intros)
 by_cases h : i < n
 ·refine Cd.t (ltN_t h) ?_
  repeat (refine gO ?_; intros)
  refine memPeek_ok hc hs1 (.there hm) ?_
  show AsNat .u64 (u64 (cellW M a i)) _
  repeat (refine gO ?_; intros)
  by_cases g1 : Nat.mod (cellW M a i) 4 = 1
  ·refine Cd.t (eqN_t g1) ?_
   exact k0 (fun g => (g i h).1 g1) _ (hs1.ent ee)
  ·refine Cd.f (eqN_f g1) ?_
   repeat (refine gO ?_; intros)
   by_cases g2 : Nat.mod (cellW M a i) 4 = 2
   ·refine Cd.t (eqN_t g2) ?_
    exact k0 (fun g => (g i h).2 g2) _ (hs1.ent ee)
   ·refine Cd.f (eqN_f g2) ?_
    repeat (refine gO ?_; intros)
    rename_i p16 H17 h17
    have hlen := valsW_len M a i
    refine app_vec (new := [[u64 (valW M a i)]]) h17 pp el_u64 (by omega) sl_u64 (Src.cell (n := 1) (by rfl)) rfl (by simp) (by simp; omega) rfl fun w' H28 h28 => ?_
    rw [valsW_succ] at h28
    repeat (refine gO ?_; intros)
    rw [show Nat.mod (Nat.add i 1) 18446744073709551616 = i + 1 from Nat.mod_eq_of_lt (by show i + 1 < _; omega)]
    show ∃ y,_∧_
    exact ⟨i + 1,by omega,h,good_succ hx ⟨g1,g2⟩,w',rfl,a0,a1,a22,rfl,h28.ent ee⟩
 ·refine Cd.f (ltN_f (by omega)) ?_
  obtain rfl : i = n := by omega
  show Cd _ _ _
  refine Cd.t rfl ?_
  show K (.tuple ⟨[σ1 8,.bool true]⟩) H1
  rw [a8]
  exact k1 hx w H1 hs1
end Go.Proofs.Ytoogdnemkfbgdaa

set_option linter.unusedVariables false
set_option linter.unusedSimpArgs false
namespace Go.Proofs.Ytoogdnemkfbgdaa
open Go Go.CM
attribute [local irreducible] AsBool AsWant AsNat AsInt AsCnt AsPtr AsSlc AsLen AsStr AsAgg AsTup AsFn AsIfc Nth Sc NotNil IsNil Must Cd codeW funW Sat SatL wrapN subM mkRow ltZ leZ ltN leN
variable {con : CallT}
theorem md4 {w : Nat} (h : w < 18446744073709551616) : Nat.mod (Nat.div w 4) 18446744073709551616 = w / 4 := Nat.mod_eq_of_lt (by show w / 4 < _; omega)
theorem lockW_eq (x : Nat) : Nat.mod (Nat.add (Nat.mod (Nat.mul 4 x) 18446744073709551616) 1) 18446744073709551616 = lockW x := by
 show (4 * x % 18446744073709551616 + 1) % 18446744073709551616 = (4 * x + 1) % 18446744073709551616
 omega
theorem planW_eq (x : Nat) : Nat.mod (Nat.add (Nat.mod (Nat.mul 4 x) 18446744073709551616) 2) 18446744073709551616 = planW x := by
 show (4 * x % 18446744073709551616 + 2) % 18446744073709551616 = (4 * x + 2) % 18446744073709551616
 omega
theorem m64_lt (x : Nat) : m64 x < 18446744073709551616 := Nat.mod_lt _ (by omega)
def seC (x : SettP) : List Value := [u64 x.word,iN x.at_,u64 x.p,u64 x.a,u64 x.o,u64 x.w,u64 x.s]
theorem settlerStep_ok (hc : Con con lives) {x : SettP} {L R1 R2 R3 : List HP} {H : CH} {p v m n : Nat} {th : Int} {M : Mem} {K : KP} (hs : Sat L H) (hm : Pull L (MemP m M) R1) (hv : Pull R1 (ViewAt v m th n) R2) (hp : Pull R2 (Own p (seC x)) R3)
  (hn : n < 1000000000) (ht : M.tr.length < 1000000000) (hw : x.word < 18446744073709551616) (hx : x.at_ < 6)
  (k : ∀ H1,Sat (Own p (seC (x.go M th).1)::MemP m (x.go M th).2.1::ViewAt v m th (n + 1)::R3) H1→K (.bool (x.go M th).2.2) H1) : Call1 Try.prog con 72 [ptr p 0,ptr v 0] H K := by
 refine call_of (hc _ _ _ rfl) ?_
 rw [settlerStep_W]
 have hs0 := hs.takes (.cons hm (.cons hv (.cons hp .nil)))
 simp only [List.cons_append,List.nil_append] at hs0
 clear hs hm hv hp
 obtain ⟨word,at_,p',a,o,w,s⟩ := x
 simp only at hw hx
 have e4 := md4 hw
 have e : at_ = 0 ∨ at_ = 1 ∨ at_ = 2 ∨ at_ = 3 ∨ at_ = 4 ∨ at_ = 5 := by omega
 rcases e with rfl | rfl | rfl | rfl | rfl | rfl
 ·repeat (refine gO ?_; intros)
  try rw [addInt]
  refine inR_nat (by first | omega | (simp only; omega)) ?_
  repeat (refine gO ?_; intros)
  rw [e4]
  refine viewLoad_ok hc (by assumption) pp pp hn ht fun H9 h9 => ?_
  repeat (refine gO ?_; intros)
  exact k _ (Sat.ent (by assumption) ee)
 ·repeat (refine gO ?_; intros)
  try rw [addInt]
  refine inR_nat (by first | omega | (simp only; omega)) ?_
  repeat (refine gO ?_; intros)
  rw [e4]
  refine viewLoad_ok hc (by assumption) pp pp hn ht fun H9 h9 => ?_
  repeat (refine gO ?_; intros)
  exact k _ (Sat.ent (by assumption) ee)
 ·repeat (refine gO ?_; intros)
  try rw [addInt]
  refine inR_nat (by first | omega | (simp only; omega)) ?_
  repeat (refine gO ?_; intros)
  rw [e4]
  refine viewLoad_ok hc (by assumption) pp pp hn ht fun H9 h9 => ?_
  repeat (refine gO ?_; intros)
  exact k _ (Sat.ent (by assumption) ee)
 ·repeat (refine gO ?_; intros)
  try rw [addInt]
  refine inR_nat (by first | omega | (simp only; omega)) ?_
  repeat (refine gO ?_; intros)
  rw [e4]
  refine viewLoad_ok hc (by assumption) pp pp hn ht fun H9 h9 => ?_
  repeat (refine gO ?_; intros)
  exact k _ (Sat.ent (by assumption) ee)
 ·repeat (refine gO ?_; intros)
  try rw [addInt]
  refine inR_nat (by first | omega | (simp only; omega)) ?_
  repeat (refine gO ?_; intros)
  refine viewLoad_ok hc (by assumption) pp pp hn ht fun H9 h9 => ?_
  repeat (refine gO ?_; intros)
  exact k _ (Sat.ent (by assumption) ee)
 ·repeat (refine gO ?_; intros)
  try rw [addInt]
  refine inR_nat (by first | omega | (simp only; omega)) ?_
  repeat (refine gO ?_; intros)
  by_cases c : s = 0
  ·have ek : SettP.go ⟨word,5,p',a,o,w,s⟩ M th = (⟨word,6,p',a,o,w,s⟩,M.cas th a word w,true) := by
    show (_,M.cas th a word (if s = 0 then w else o),true) = _
    rw [if_pos c]
   rw [ek] at k
   refine Cd.t (eqN_t c) ?_
   repeat (refine gO ?_; intros)
   refine viewCas_ok hc (by assumption) pp pp hn ht fun H9 h9 => ?_
   exact k _ (Sat.ent (by assumption) ee)
  ·have ek : SettP.go ⟨word,5,p',a,o,w,s⟩ M th = (⟨word,6,p',a,o,w,s⟩,M.cas th a word o,true) := by
    show (_,M.cas th a word (if s = 0 then w else o),true) = _
    rw [if_neg c]
   rw [ek] at k
   refine Cd.f (eqN_f c) ?_
   repeat (refine gO ?_; intros)
   refine viewCas_ok hc (by assumption) pp pp hn ht fun H9 h9 => ?_
   exact k _ (Sat.ent (by assumption) ee)
def frC (f : FrP) (sv : Value) : List Value := [u64 f.d,iN f.at_,u64 f.s,u64 f.n,u64 f.i,u64 f.a,u64 f.o,u64 f.x,u64 f.w,u64 f.oc,sv,.bool f.meets,u64 f.other]
def FrAt (b : Nat) (f : FrP) : HP := fun h => (f.at_ ≠ 9∧∃ po,Own b (frC f (.pointer po)) h) ∨ (f.at_ = 9∧∃ q,SatL [Own b (frC f (ptr q 0)),Own q (seC f.st)] h)
theorem FrAt.opn {b : Nat} {f : FrP} {R : List HP} {H : CH} (hs : Sat (FrAt b f::R) H) (h9 : f.at_ ≠ 9) : ∃ po,Sat (Own b (frC f (.pointer po))::R) H := by
 obtain ⟨h1,h2,s1,s2,d,a,y⟩ := hs.opens Pull.here
 rcases a with ⟨_,po,a⟩ | ⟨h,_⟩
 ·exact ⟨po,Sat.merge (L1 := [_]) s1 s2 d (SatL.one a) y⟩
 ·exact absurd h h9
theorem FrAt.opn9 {b : Nat} {f : FrP} {R : List HP} {H : CH} (hs : Sat (FrAt b f::R) H) (h9 : f.at_ = 9) : ∃ q,Sat (Own b (frC f (ptr q 0))::Own q (seC f.st)::R) H := by
 obtain ⟨h1,h2,s1,s2,d,a,y⟩ := hs.opens Pull.here
 rcases a with ⟨h,_⟩ | ⟨_,q,a⟩
 ·exact absurd h9 h
 ·exact ⟨q,Sat.merge s1 s2 d a y⟩
theorem FrAt.cls {b : Nat} {f : FrP} {po : Option Addr} {R : List HP} {H : CH} (hs : Sat (Own b (frC f (.pointer po))::R) H) (h9 : f.at_ ≠ 9) : Sat (FrAt b f::R) H := hs.imp fun g a => .inl ⟨h9,po,a⟩
theorem FrAt.cls9 {b q : Nat} {f : FrP} {R : List HP} {H : CH} (hs : Sat (Own b (frC f (ptr q 0))::Own q (seC f.st)::R) H) (h9 : f.at_ = 9) : Sat (FrAt b f::R) H :=
 Sat.close (L1 := [_,_]) hs fun g a => .inr ⟨h9,q,a⟩
theorem mframePart_ok (hc : Con con lives) {f : FrP} {sv : Value} {L : List HP} {H : CH} {p n : Nat} {K : KP} (hs : Sat L H) [HasCell L p (frC f sv)] (k : K (u64 (f.part n)) H) : Call1 Try.prog con 67 [ptr p 0,u64 n] H K := by
 refine call_of (hc _ _ _ rfl) ?_
 rw [mframePart_W]
 repeat (refine gO ?_; intros)
 have e : Nat.mod (Nat.add (Nat.mod (Nat.add (Nat.mod (Nat.add f.d 2) 18446744073709551616) (Nat.mod (Nat.mul 3 f.i) 18446744073709551616)) 18446744073709551616) n) 18446744073709551616 = f.part n := by
  show (((f.d + 2) % 18446744073709551616 + 3 * f.i % 18446744073709551616) % 18446744073709551616 + n) % 18446744073709551616 = (f.d + 2 + 3 * f.i + n) % 18446744073709551616
  omega
 rw [e]
 exact k
theorem lockWord_ok (hc : Con con lives) {H : CH} {x : Nat} {K : KP} (k : K (u64 (lockW x)) H) : Call1 Try.prog con 70 [u64 x] H K := by
 refine call_of (hc _ _ _ rfl) ?_
 rw [lockWord_W,lockW_eq]
 exact k
theorem planWord_ok (hc : Con con lives) {H : CH} {x : Nat} {K : KP} (k : K (u64 (planW x)) H) : Call1 Try.prog con 68 [u64 x] H K := by
 refine call_of (hc _ _ _ rfl) ?_
 rw [planWord_W,planW_eq]
 exact k
theorem mframeNext_ok (hc : Con con lives) {f : FrP} {sv : Value} {L R : List HP} {H : CH} {p b : Nat} {K : KP} (hs : Sat L H) (hp : Pull L (Own p (frC f sv)) R) (hb : f.i + b < 18446744073709551616)
  (k : ∀ H1,Sat (Own p (frC (f.next b) sv)::R) H1→K unit H1) : Call1 Try.prog con 66 [ptr p 0,u64 b] H K := by
 refine call_of (hc _ _ _ rfl) ?_
 rw [mframeNext_W]
 have hs0 := hs.pull hp
 clear hs hp
 obtain ⟨d,at_,s,n,i,a,o,x,w,oc,st,meets,other⟩ := f
 simp only at hb
 have e : Nat.mod (Nat.add i b) 18446744073709551616 = i + b := Nat.mod_eq_of_lt hb
 refine la rfl (AsNat.mk ?_)
 rw [e]
 repeat (refine gO ?_; intros)
 by_cases c : n ≤ i + b
 ·have ek : FrP.next ⟨d,at_,s,n,i,a,o,x,w,oc,st,meets,other⟩ b = ⟨d,10,s,n,i + b,a,o,x,w,1,st,meets,other⟩ := if_pos c
  rw [ek] at k
  refine Cd.t (leN_t c) ?_
  repeat (refine gO ?_; intros)
  exact k _ (Sat.ent (by assumption) ee)
 ·have ek : FrP.next ⟨d,at_,s,n,i,a,o,x,w,oc,st,meets,other⟩ b = ⟨d,2,s,n,i + b,a,o,x,w,oc,st,meets,other⟩ := if_neg c
  rw [ek] at k
  refine Cd.f (leN_f (show i + b < n by omega)) ?_
  repeat (refine gO ?_; intros)
  exact k _ (Sat.ent (by assumption) ee)
theorem mframeClear_ok (hc : Con con lives) {f : FrP} {sv : Value} {L R : List HP} {H : CH} {p i : Nat} {K : KP} (hs : Sat L H) (hp : Pull L (Own p (frC f sv)) R)
  (k : ∀ H1,Sat (Own p (frC (f.clear i) sv)::R) H1→K unit H1) : Call1 Try.prog con 73 [ptr p 0,u64 i] H K := by
 refine call_of (hc _ _ _ rfl) ?_
 rw [mframeClear_W]
 have hs0 := hs.pull hp
 clear hs hp
 obtain ⟨d,at_,s,n,i0,a,o,x,w,oc,st,meets,other⟩ := f
 repeat (refine gO ?_; intros)
 by_cases c : n ≤ i
 ·have ek : FrP.clear ⟨d,at_,s,n,i0,a,o,x,w,oc,st,meets,other⟩ i = ⟨d,15,s,n,i,a,o,x,w,oc,st,meets,other⟩ := if_pos c
  rw [ek] at k
  refine Cd.t (leN_t c) ?_
  repeat (refine gO ?_; intros)
  exact k _ (Sat.ent (by assumption) ee)
 ·have ek : FrP.clear ⟨d,at_,s,n,i0,a,o,x,w,oc,st,meets,other⟩ i = ⟨d,12,s,n,i,a,o,x,w,oc,st,meets,other⟩ := if_neg c
  rw [ek] at k
  refine Cd.f (leN_f (show i < n by omega)) ?_
  repeat (refine gO ?_; intros)
  exact k _ (Sat.ent (by assumption) ee)
theorem next_at (f : FrP) (b : Nat) : (f.next b).at_ ≠ 9 := by unfold FrP.next; split <;> simp
theorem clear_at (f : FrP) (b : Nat) : (f.clear b).at_ ≠ 9 := by unfold FrP.clear; split <;> simp
theorem mframeLook_ok (hc : Con con lives) {f : FrP} {po : Option Addr} {L R : List HP} {H : CH} {p r : Nat} {K : KP} (hs : Sat L H) (hp : Pull L (Own p (frC f (.pointer po))) R) (hi : f.i + 1 < 18446744073709551616) (hr : r < 18446744073709551616)
  (k : ∀ H1,Sat (FrAt p (f.look r)::R) H1→K unit H1) : Call1 Try.prog con 71 [ptr p 0,u64 r] H K := by
 refine call_of (hc _ _ _ rfl) ?_
 rw [mframeLook_W,md4 hr]
 have hs0 := hs.pull hp
 clear hs hp
 by_cases c1 : r % 4 = 1
 ·have ek : f.look r = { f with st := sett0 r,at_ := 9 } := by unfold FrP.look; rw [if_pos c1]
  rw [ek] at k
  refine Cd.t (eqN_t c1) ?_
  repeat (refine gO ?_; intros)
  exact k _ (FrAt.cls9 (Sat.ent (by assumption) ee) rfl)
 ·refine Cd.f (eqN_f c1) ?_
  repeat (refine gO ?_; intros)
  by_cases c2 : r = f.o
  ·have ek : f.look r = { f with at_ := 5 } := by unfold FrP.look; rw [if_neg c1,if_pos c2]
   rw [ek] at k
   refine Cd.t (eqN_t c2) ?_
   repeat (refine gO ?_; intros)
   exact k _ (FrAt.cls (po := po) (Sat.ent (by assumption) ee) (by simp))
  ·refine Cd.f (eqN_f c2) ?_
   repeat (refine gO ?_; intros)
   refine planWord_ok hc ?_
   repeat (refine gO ?_; intros)
   by_cases c3 : r = planW f.d
   ·have ek : f.look r = f.next 1 := by unfold FrP.look; rw [if_neg c1,if_neg c2,if_pos c3]
    rw [ek] at k
    refine Cd.t (eqN_t c3) ?_
    refine mframeNext_ok hc (by assumption) pp hi fun H1 h1 => ?_
    exact k _ (FrAt.cls h1 (next_at f 1))
   ·refine Cd.f (eqN_f c3) ?_
    by_cases c4 : r % 4 = 2
    ·have ek : f.look r = { f with meets := true,other := r / 4,at_ := 5 } := by unfold FrP.look; rw [if_neg c1,if_neg c2,if_neg c3,if_pos c4]
     rw [ek] at k
     refine Cd.t (eqN_t c4) ?_
     repeat (refine gO ?_; intros)
     exact k _ (FrAt.cls (po := po) (Sat.ent (by assumption) ee) (by simp))
    ·have ek : f.look r = { f with oc := 2,at_ := 10 } := by unfold FrP.look; rw [if_neg c1,if_neg c2,if_neg c3,if_neg c4]
     rw [ek] at k
     refine Cd.f (eqN_f c4) ?_
     repeat (refine gO ?_; intros)
     exact k _ (FrAt.cls (po := po) (Sat.ent (by assumption) ee) (by simp))
end Go.Proofs.Ytoogdnemkfbgdaa

set_option linter.unusedVariables false
set_option linter.unusedSimpArgs false
namespace Go.Proofs.Ytoogdnemkfbgdaa
open Go Go.CM
attribute [local irreducible] AsBool AsWant AsNat AsInt AsCnt AsPtr AsSlc AsLen AsStr AsAgg AsTup AsFn AsIfc Nth Sc NotNil IsNil Must Cd codeW funW Sat SatL wrapN subM mkRow ltZ leZ ltN leN
variable {con : CallT}
structure SettP.Ok (x : SettP) : Prop where
 word : x.word < 18446744073709551616
 o : x.o < 18446744073709551616
 w : x.w < 18446744073709551616
 at_ : x.at_ < 6
structure FrP.Ok (f : FrP) : Prop where
 d : f.d < 18446744073709551616
 a : f.a < 18446744073709551616
 o : f.o < 18446744073709551616
 w : f.w < 18446744073709551616
 oc : f.oc < 18446744073709551616
 at_ : f.at_ < 15
 i : f.i ≤ 16
 i0 : f.at_ ≤ 1→f.i = 0
 n : 1 < f.at_→f.n ≤ 16
 lt : 1 < f.at_→f.at_ ≠ 10→f.at_ ≠ 11→f.i < f.n
 st : f.at_ = 9→f.st.Ok
 meets : f.meets = false
theorem mframeStep_ok (hc : Con con lives) {f : FrP} {L R1 R2 R3 : List HP} {H : CH} {p v m n : Nat} {th : Int} {M : Mem} {K : KP} (hs : Sat L H) (hm : Pull L (MemP m M) R1) (hv : Pull R1 (ViewAt v m th n) R2) (hp : Pull R2 (FrAt p f) R3)
  (hn : n < 1000000000) (ht : M.tr.length < 1000000000) (hb : M.Bd) (ok : f.Ok)
  (k : ∀ H1,Sat (FrAt p (f.go M th).1::MemP m (f.go M th).2::ViewAt v m th (n + 1)::R3) H1→K unit H1) : Call1 Try.prog con 62 [ptr p 0,ptr v 0] H K := by
 refine call_of (hc _ _ _ rfl) ?_
 rw [mframeStep_W]
 have hs0 := hs.takes (.cons hm (.cons hv (.cons hp .nil)))
 simp only [List.cons_append,List.nil_append] at hs0
 clear hs hm hv hp
 have hs1 : Sat (FrAt p f::MemP m M::ViewAt v m th n::R3) H := hs0.ent ee
 clear hs0
 have hat := ok.at_
 have hi := ok.i
 by_cases h9 : f.at_ = 9
 ·obtain ⟨q,hs2⟩ := FrAt.opn9 hs1 h9
  clear hs1
  have ost := ok.st h9
  clear ok hat
  obtain ⟨d,at_,s,nn,i,a,o,x,w,oc,st,meets,other⟩ := f
  simp only at h9
  subst h9
  repeat (refine gO ?_; intros)
  refine settlerStep_ok hc hs2 pp pp pp hn ht ost.word ost.at_ fun H1 h1 => ?_
  repeat (refine gO ?_; intros)
  have ek : FrP.go ⟨d,9,s,nn,i,a,o,x,w,oc,st,meets,other⟩ M th = (⟨d,if (st.go M th).2.2 then 5 else 9,s,nn,i,a,o,x,w,oc,(st.go M th).1,meets,other⟩,(st.go M th).2.1) := rfl
  rw [ek] at k
  cases c : (st.go M th).2.2 with
  | true =>
   rw [c] at k
   refine Cd.t rfl ?_
   repeat (refine gO ?_; intros)
   exact k _ (FrAt.cls (po := some ⟨q,0,none⟩) (Sat.ent (by assumption) ee) (by simp))
  | false =>
   rw [c] at k
   refine Cd.f rfl ?_
   exact k _ (FrAt.cls9 (q := q) (Sat.ent h1 ee) rfl)
 ·obtain ⟨po,hs2⟩ := FrAt.opn hs1 h9
  clear hs1
  have en := ok.n
  have i0 := ok.i0
  clear ok
  obtain ⟨d,at_,s,nn,i,a,o,x,w,oc,st,meets,other⟩ := f
  simp only at h9 hat hi en i0
  have e : at_ = 0 ∨ at_ = 1 ∨ at_ = 2 ∨ at_ = 3 ∨ at_ = 4 ∨ at_ = 5 ∨ at_ = 6 ∨ at_ = 7 ∨ at_ = 8 ∨ at_ = 10 ∨ at_ = 11 ∨ at_ = 12 ∨ at_ = 13 ∨ at_ = 14 := by omega
  rcases e with rfl | rfl | rfl | rfl | rfl | rfl | rfl | rfl | rfl | rfl | rfl | rfl | rfl | rfl
  ·
   repeat (refine gO ?_; intros)
   refine viewLoad_ok hc (by assumption) pp pp hn ht fun _ _ => ?_
   repeat (refine gO ?_; intros)
   exact k _ (FrAt.cls (po := po) (Sat.ent (by assumption) ee) (show (1 : Nat) ≠ 9 by decide))
  ·
   obtain rfl := i0 (by omega)
   repeat (refine gO ?_; intros)
   refine viewLoad_ok hc (by assumption) pp pp hn ht fun _ _ => ?_
   repeat (refine gO ?_; intros)
   have ek : FrP.go ⟨d,1,s,nn,0,a,o,x,w,oc,st,meets,other⟩ M th = (if s = 0 then FrP.next ⟨d,11,s,min (M.peek (m64 (d + 1))) 16,0,a,o,x,w,oc,st,meets,other⟩ 0 else ⟨d,11,s,min (M.peek (m64 (d + 1))) 16,0,a,o,x,w,oc,st,meets,other⟩,M.load th (m64 (d + 1))) := rfl
   rw [ek] at k
   by_cases c : s = 0
   ·rw [if_pos c] at k
    refine Cd.t (eqN_t c) ?_
    refine mframeNext_ok (f := ⟨d,11,s,min (M.peek (m64 (d + 1))) 16,0,a,o,x,w,oc,st,meets,other⟩) hc (by assumption) pp (by show 0 + 0 < _; omega) fun H1 h1 => ?_
    exact k _ (FrAt.cls (po := po) (Sat.ent h1 ee) (next_at _ _))
   ·rw [if_neg c] at k
    refine Cd.f (eqN_f c) ?_
    repeat (refine gO ?_; intros)
    exact k _ (FrAt.cls (po := po) (Sat.ent (by assumption) ee) (show (11 : Nat) ≠ 9 by decide))
  ·
   repeat (refine gO ?_; intros)
   refine mframePart_ok (f := ⟨d,2,s,nn,i,a,o,x,w,oc,st,meets,other⟩) hc hs2 ?_
   refine viewLoad_ok hc (by assumption) pp pp hn ht fun _ _ => ?_
   repeat (refine gO ?_; intros)
   exact k _ (FrAt.cls (po := po) (Sat.ent (by assumption) ee) (show (3 : Nat) ≠ 9 by decide))
  ·
   repeat (refine gO ?_; intros)
   refine mframePart_ok (f := ⟨d,3,s,nn,i,a,o,x,w,oc,st,meets,other⟩) hc hs2 ?_
   refine viewLoad_ok hc (by assumption) pp pp hn ht fun _ _ => ?_
   repeat (refine gO ?_; intros)
   exact k _ (FrAt.cls (po := po) (Sat.ent (by assumption) ee) (show (4 : Nat) ≠ 9 by decide))
  ·
   repeat (refine gO ?_; intros)
   refine planWord_ok hc ?_
   repeat (refine gO ?_; intros)
   refine viewAlloc_ok (vals := [d,a,o,planW d]) hc (by assumption) pp pp (Has.own3 (l := [d,a,o,planW d])) (by simp) hn ht fun _ _ => ?_
   repeat (refine gO ?_; intros)
   have ek : FrP.go ⟨d,4,s,nn,i,a,o,x,w,oc,st,meets,other⟩ M th = (if M.room [d,a,o,planW d] = 0 then ⟨d,10,s,nn,i,a,o,0,w,3,st,meets,other⟩ else ⟨d,5,s,nn,i,a,o,M.room [d,a,o,planW d],w,oc,st,meets,other⟩,M.alloc th [d,a,o,planW d]) := rfl
   rw [ek] at k
   by_cases c : M.room [d,a,o,planW d] = 0
   ·rw [if_pos c] at k
    refine Cd.t (eqN_t c) ?_
    repeat (refine gO ?_; intros)
    rename_i hlast
    rw [c] at hlast
    exact k _ (FrAt.cls (po := po) (Sat.ent hlast ee) (by simp))
   ·rw [if_neg c] at k
    refine Cd.f (eqN_f c) ?_
    repeat (refine gO ?_; intros)
    exact k _ (FrAt.cls (po := po) (Sat.ent (by assumption) ee) (show (5 : Nat) ≠ 9 by decide))
  ·
   repeat (refine gO ?_; intros)
   refine lockWord_ok hc ?_
   repeat (refine gO ?_; intros)
   refine viewCas_ok hc (by assumption) pp pp hn ht fun _ _ => ?_
   repeat (refine gO ?_; intros)
   have ek : FrP.go ⟨d,5,s,nn,i,a,o,x,w,oc,st,meets,other⟩ M th = (⟨d,if M.swaps a o then 6 else 8,s,nn,i,a,o,x,w,oc,st,meets,other⟩,M.cas th a o (lockW x)) := rfl
   rw [ek] at k
   cases c : M.swaps a o with
   | true =>
    rw [c] at k
    refine Cd.t rfl ?_
    repeat (refine gO ?_; intros)
    exact k _ (FrAt.cls (po := po) (Sat.ent (by assumption) ee) (show (6 : Nat) ≠ 9 by decide))
   | false =>
    rw [c] at k
    refine Cd.f rfl ?_
    exact k _ (FrAt.cls (po := po) (Sat.ent (by assumption) ee) (show (8 : Nat) ≠ 9 by decide))
  ·
   repeat (refine gO ?_; intros)
   refine viewLoad_ok hc (by assumption) pp pp hn ht fun _ _ => ?_
   repeat (refine gO ?_; intros)
   exact k _ (FrAt.cls (po := po) (Sat.ent (by assumption) ee) (show (7 : Nat) ≠ 9 by decide))
  ·
   repeat (refine gO ?_; intros)
   have ek : FrP.go ⟨d,7,s,nn,i,a,o,x,w,oc,st,meets,other⟩ M th = (FrP.next ⟨d,7,s,nn,i,a,o,x,w,oc,st,meets,other⟩ 1,M.cas th a (lockW x) (if s = 0 then planW d else o)) := rfl
   rw [ek] at k
   by_cases c : s = 0
   ·rw [if_pos c] at k
    refine Cd.t (eqN_t c) ?_
    repeat (refine gO ?_; intros)
    refine planWord_ok hc ?_
    repeat (refine gO ?_; intros)
    refine lockWord_ok hc ?_
    repeat (refine gO ?_; intros)
    refine viewCas_ok hc (by assumption) pp pp hn ht fun _ _ => ?_
    repeat (refine gO ?_; intros)
    refine mframeNext_ok (f := ⟨d,7,s,nn,i,a,o,x,w,oc,st,meets,other⟩) hc (by assumption) pp (by show i + 1 < _; omega) fun H1 h1 => ?_
    exact k _ (FrAt.cls (po := po) (Sat.ent h1 ee) (next_at _ _))
   ·rw [if_neg c] at k
    refine Cd.f (eqN_f c) ?_
    repeat (refine gO ?_; intros)
    refine lockWord_ok hc ?_
    repeat (refine gO ?_; intros)
    refine viewCas_ok hc (by assumption) pp pp hn ht fun _ _ => ?_
    repeat (refine gO ?_; intros)
    refine mframeNext_ok (f := ⟨d,7,s,nn,i,a,o,x,w,oc,st,meets,other⟩) hc (by assumption) pp (by show i + 1 < _; omega) fun H1 h1 => ?_
    exact k _ (FrAt.cls (po := po) (Sat.ent h1 ee) (next_at _ _))
  ·
   repeat (refine gO ?_; intros)
   refine viewLoad_ok hc (by assumption) pp pp hn ht fun _ _ => ?_
   refine mframeLook_ok (f := ⟨d,8,s,nn,i,a,o,x,w,oc,st,meets,other⟩) (po := po) hc (by assumption) pp (by show i + 1 < _; omega) (hb.peek a) fun H1 h1 => ?_
   exact k _ (Sat.ent h1 ee)
  ·
   repeat (refine gO ?_; intros)
   refine viewCas_ok hc (by assumption) pp pp hn ht fun _ _ => ?_
   repeat (refine gO ?_; intros)
   exact k _ (FrAt.cls (po := po) (Sat.ent (by assumption) ee) (show (11 : Nat) ≠ 9 by decide))
  ·
   repeat (refine gO ?_; intros)
   refine viewLoad_ok hc (by assumption) pp pp hn ht fun _ _ => ?_
   repeat (refine gO ?_; intros)
   refine mframeClear_ok (f := ⟨d,11,M.peek d,nn,i,a,o,x,w,oc,st,meets,other⟩) hc (by assumption) pp fun H1 h1 => ?_
   exact k _ (FrAt.cls (po := po) (Sat.ent h1 ee) (clear_at _ _))
  ·
   repeat (refine gO ?_; intros)
   refine mframePart_ok (f := ⟨d,12,s,nn,i,a,o,x,w,oc,st,meets,other⟩) hc hs2 ?_
   refine viewLoad_ok hc (by assumption) pp pp hn ht fun _ _ => ?_
   repeat (refine gO ?_; intros)
   exact k _ (FrAt.cls (po := po) (Sat.ent (by assumption) ee) (show (13 : Nat) ≠ 9 by decide))
  ·
   repeat (refine gO ?_; intros)
   have ek : FrP.go ⟨d,13,s,nn,i,a,o,x,w,oc,st,meets,other⟩ M th = (let b := FrP.part ⟨d,13,s,nn,i,a,o,x,w,oc,st,meets,other⟩ (if s = 1 then 2 else 1); (⟨d,14,s,nn,i,a,o,x,M.peek b,oc,st,meets,other⟩,M.load th b)) := rfl
   rw [ek] at k
   by_cases c : s = 1
   ·rw [if_pos c] at k
    refine Cd.t (eqN_t c) ?_
    refine mframePart_ok (f := ⟨d,13,s,nn,i,a,o,x,w,oc,st,meets,other⟩) hc hs2 ?_
    refine viewLoad_ok hc (by assumption) pp pp hn ht fun _ _ => ?_
    repeat (refine gO ?_; intros)
    exact k _ (FrAt.cls (po := po) (Sat.ent (by assumption) ee) (show (14 : Nat) ≠ 9 by decide))
   ·rw [if_neg c] at k
    refine Cd.f (eqN_f c) ?_
    refine mframePart_ok (f := ⟨d,13,s,nn,i,a,o,x,w,oc,st,meets,other⟩) hc hs2 ?_
    refine viewLoad_ok hc (by assumption) pp pp hn ht fun _ _ => ?_
    repeat (refine gO ?_; intros)
    exact k _ (FrAt.cls (po := po) (Sat.ent (by assumption) ee) (show (14 : Nat) ≠ 9 by decide))
  ·
   repeat (refine gO ?_; intros)
   refine planWord_ok hc ?_
   repeat (refine gO ?_; intros)
   refine viewCas_ok hc (by assumption) pp pp hn ht fun _ _ => ?_
   repeat (refine gO ?_; intros)
   rw [show Nat.mod (Nat.add i 1) 18446744073709551616 = i + 1 from Nat.mod_eq_of_lt (by show i + 1 < _; omega)]
   refine mframeClear_ok (f := ⟨d,14,s,nn,i,a,o,x,w,oc,st,meets,other⟩) hc (by assumption) pp fun H1 h1 => ?_
   exact k _ (FrAt.cls (po := po) (Sat.ent h1 ee) (clear_at _ _))
end Go.Proofs.Ytoogdnemkfbgdaa

set_option linter.unusedVariables false
set_option linter.unusedSimpArgs false
namespace Go.Proofs.Ytoogdnemkfbgdaa
open Go Go.CM
attribute [local irreducible] AsBool AsWant AsNat AsInt AsCnt AsPtr AsSlc AsLen AsStr AsAgg AsTup AsFn AsIfc Nth Sc NotNil IsNil Must Cd codeW funW Sat SatL wrapN subM mkRow ltZ leZ ltN leN
variable {con : CallT}
theorem ovN_bd : ∀ (vs cs : List Nat) (o : Nat),(∀ x ∈ vs,x < 18446744073709551616)→(∀ x ∈ cs,x < 18446744073709551616)→∀ x ∈ ovN vs cs o,x < 18446744073709551616
 | [],_,_,_,h => h
 | v::vs,cs,o,hv,h => by
  unfold ovN
  refine ovN_bd vs _ _ (fun x hx => hv x (List.mem_cons_of_mem _ hx)) fun x hx => ?_
  rcases List.mem_or_eq_of_mem_set hx with h1 | rfl
  ·exact h x h1
  ·exact hv _ (List.mem_cons_self ..)
theorem Bd.alloc {M : Mem} (h : M.Bd) (th : Int) {vs : List Nat} (hv : ∀ x ∈ vs,x < 18446744073709551616) : (M.alloc th vs).Bd := by
 unfold Mem.alloc
 split
 ·exact fun x hx => ovN_bd vs M.cells M.free hv h x hx
 ·exact h.note _
theorem SettP.Ok.go {x : SettP} (h : x.Ok) {M : Mem} (hb : M.Bd) (th : Int) : (x.go M th).2.1.Bd∧((x.go M th).2.2 = true ∨ (x.go M th).1.Ok) := by
 obtain ⟨word,at_,p,a,o,w,s⟩ := x
 obtain ⟨h1,h2,h3,h4⟩ := h
 simp only at h1 h2 h3 h4
 have e : at_ = 0 ∨ at_ = 1 ∨ at_ = 2 ∨ at_ = 3 ∨ at_ = 4 ∨ at_ = 5 := by omega
 rcases e with rfl | rfl | rfl | rfl | rfl | rfl
 ·exact ⟨hb.load th _,.inr ⟨h1,h2,h3,by show 1 < 6; omega⟩⟩
 ·exact ⟨hb.load th _,.inr ⟨h1,h2,h3,by show 2 < 6; omega⟩⟩
 ·exact ⟨hb.load th _,.inr ⟨h1,hb.peek _,h3,by show 3 < 6; omega⟩⟩
 ·exact ⟨hb.load th _,.inr ⟨h1,h2,hb.peek _,by show 4 < 6; omega⟩⟩
 ·exact ⟨hb.load th _,.inr ⟨h1,h2,h3,by show 5 < 6; omega⟩⟩
 ·refine ⟨hb.cas th _ _ ?_,.inl rfl⟩
  show (if s = 0 then w else o) < _
  split <;> assumption
theorem planW_lt (d : Nat) : planW d < 18446744073709551616 := m64_lt _
def FrP.Nx (f : FrP) : Prop := f.meets = false∧(f.at_ = 15 ∨ f.Ok) ∨ f.meets = true∧f.other < 18446744073709551616∧f.at_ = 5∧FrP.Ok { f with meets := false }
theorem FrP.Ok.go {f : FrP} (h : f.Ok) {M : Mem} (hb : M.Bd) (th : Int) : (f.go M th).2.Bd∧(f.go M th).1.Nx := by
 obtain ⟨d,at_,s,n,i,a,o,x,w,oc,st,meets,other⟩ := f
 obtain ⟨h1,h2,h3,h4,h5,h6,h7,h8,h9,h10,h11,h12⟩ := h
 simp only at h1 h2 h3 h4 h5 h6 h7 h8 h9 h10 h11 h12
 subst h12
 have hp := hb.peek
 have nxt : ∀ (b : Nat) (f : FrP),f.d < 18446744073709551616→f.a < 18446744073709551616→f.o < 18446744073709551616→f.w < 18446744073709551616→f.i + b ≤ 16→f.n ≤ 16→f.oc < 18446744073709551616→f.meets = false→(f.next b).Nx := by
  intro b f g1 g2 g3 g4 g5 g6 g7 g8
  unfold FrP.next
  split
  ·rename_i q
   exact .inl ⟨g8,.inr ⟨g1,g2,g3,g4,by show 1 < _; omega,by show 10 < 15; omega,g5,fun q => absurd q (by show ¬ 10 ≤ 1; omega),fun _ => g6,fun _ q => absurd rfl q,fun q => absurd q (by show ¬ 10 = 9; omega),g8⟩⟩
  ·rename_i q
   exact .inl ⟨g8,.inr ⟨g1,g2,g3,g4,g7,by show 2 < 15; omega,g5,fun q => absurd q (by show ¬ 2 ≤ 1; omega),fun _ => g6,fun _ _ _ => by show f.i + b < f.n; omega,fun q => absurd q (by show ¬ 2 = 9; omega),g8⟩⟩
 have clr : ∀ (b : Nat) (f : FrP),f.d < 18446744073709551616→f.a < 18446744073709551616→f.o < 18446744073709551616→f.w < 18446744073709551616→b ≤ 16→f.n ≤ 16→f.oc < 18446744073709551616→f.meets = false→(f.clear b).Nx := by
  intro b f g1 g2 g3 g4 g5 g6 g7 g8
  unfold FrP.clear
  split
  ·exact .inl ⟨g8,.inl rfl⟩
  ·rename_i q
   exact .inl ⟨g8,.inr ⟨g1,g2,g3,g4,g7,by show 12 < 15; omega,g5,fun q => absurd q (by show ¬ 12 ≤ 1; omega),fun _ => g6,fun _ _ _ => by show b < f.n; omega,fun q => absurd q (by show ¬ 12 = 9; omega),g8⟩⟩
 have e : at_ = 0 ∨ at_ = 1 ∨ at_ = 2 ∨ at_ = 3 ∨ at_ = 4 ∨ at_ = 5 ∨ at_ = 6 ∨ at_ = 7 ∨ at_ = 8 ∨ at_ = 9 ∨ at_ = 10 ∨ at_ = 11 ∨ at_ = 12 ∨ at_ = 13 ∨ at_ = 14 := by omega
 have mk : ∀ (t s' a' o' x' w' oc' : Nat) (st' : SettP),a' < 18446744073709551616→o' < 18446744073709551616→w' < 18446744073709551616→oc' < 18446744073709551616→t < 15→(t ≤ 1→i = 0)→(1 < t→n ≤ 16)→(1 < t→t ≠ 10→t ≠ 11→i < n)→(t = 9→st'.Ok)→FrP.Nx ⟨d,t,s',n,i,a',o',x',w',oc',st',false,other⟩ :=
  fun t s' a' o' x' w' oc' st' g2 g3 g4 g5 g6 g7 g8 g9 g10 => .inl ⟨rfl,.inr ⟨h1,g2,g3,g4,g5,g6,h7,g7,g8,g9,g10,rfl⟩⟩
 rcases e with rfl | rfl | rfl | rfl | rfl | rfl | rfl | rfl | rfl | rfl | rfl | rfl | rfl | rfl | rfl
 ·exact ⟨hb.load th _,mk 1 _ a o x w oc st h2 h3 h4 h5 (by omega) (fun _ => h8 (by omega)) (fun q => absurd q (by omega)) (fun q => absurd q (by omega)) (fun q => absurd q (by omega))⟩
 ·have i0 := h8 (by omega)
  subst i0
  refine ⟨hb.load th _,?_⟩
  show FrP.Nx (if s = 0 then FrP.next ⟨d,11,s,min (M.peek (m64 (d + 1))) 16,0,a,o,x,w,oc,st,false,other⟩ 0 else ⟨d,11,s,min (M.peek (m64 (d + 1))) 16,0,a,o,x,w,oc,st,false,other⟩)
  split
  ·exact nxt 0 _ h1 h2 h3 h4 (by show 0 + 0 ≤ 16; omega) (Nat.min_le_right _ _) h5 rfl
  ·exact .inl ⟨rfl,.inr ⟨h1,h2,h3,h4,h5,by show 11 < 15; omega,by show 0 ≤ 16; omega,fun q => absurd q (by show ¬ 11 ≤ 1; omega),fun _ => Nat.min_le_right _ _,fun _ _ q => absurd rfl q,fun q => absurd q (by show ¬ 11 = 9; omega),rfl⟩⟩
 ·have h9 := h9 (by omega); have h10 := h10 (by omega) (by omega) (by omega)
  exact ⟨hb.load th _,mk 3 _ _ o x w oc st (hp _) h3 h4 h5 (by omega) (fun q => absurd q (by omega)) (fun _ => h9) (fun _ _ _ => h10) (fun q => absurd q (by omega))⟩
 ·have h9 := h9 (by omega); have h10 := h10 (by omega) (by omega) (by omega)
  exact ⟨hb.load th _,mk 4 _ a _ x w oc st h2 (hp _) h4 h5 (by omega) (fun q => absurd q (by omega)) (fun _ => h9) (fun _ _ _ => h10) (fun q => absurd q (by omega))⟩
 ·have h9 := h9 (by omega); have h10 := h10 (by omega) (by omega) (by omega)
  refine ⟨Bd.alloc hb th (fun y hy => ?_),?_⟩
  ·simp only [List.mem_cons,List.mem_nil_iff,or_false] at hy
   rcases hy with rfl | rfl | rfl | rfl
   ·exact h1
   ·exact h2
   ·exact h3
   ·exact planW_lt _
  ·show FrP.Nx (if M.room [d,a,o,planW d] = 0 then ⟨d,10,s,n,i,a,o,0,w,3,st,false,other⟩ else ⟨d,5,s,n,i,a,o,M.room [d,a,o,planW d],w,oc,st,false,other⟩)
   split
   ·exact mk 10 _ a o _ w 3 st h2 h3 h4 (by omega) (by omega) (fun q => absurd q (by omega)) (fun _ => h9) (fun _ q => absurd rfl q) (fun q => absurd q (by omega))
   ·exact mk 5 _ a o _ w oc st h2 h3 h4 h5 (by omega) (fun q => absurd q (by omega)) (fun _ => h9) (fun _ _ _ => h10) (fun q => absurd q (by omega))
 ·have h9 := h9 (by omega); have h10 := h10 (by omega) (by omega) (by omega)
  refine ⟨hb.cas th _ _ (m64_lt _),?_⟩
  show FrP.Nx ⟨d,if M.swaps a o then 6 else 8,s,n,i,a,o,x,w,oc,st,false,other⟩
  split
  ·exact mk 6 _ a o _ w oc st h2 h3 h4 h5 (by omega) (fun q => absurd q (by omega)) (fun _ => h9) (fun _ _ _ => h10) (fun q => absurd q (by omega))
  ·exact mk 8 _ a o _ w oc st h2 h3 h4 h5 (by omega) (fun q => absurd q (by omega)) (fun _ => h9) (fun _ _ _ => h10) (fun q => absurd q (by omega))
 ·have h9 := h9 (by omega); have h10 := h10 (by omega) (by omega) (by omega)
  exact ⟨hb.load th _,mk 7 _ a o x w oc st h2 h3 h4 h5 (by omega) (fun q => absurd q (by omega)) (fun _ => h9) (fun _ _ _ => h10) (fun q => absurd q (by omega))⟩
 ·have h9 := h9 (by omega); have h10 := h10 (by omega) (by omega) (by omega)
  refine ⟨hb.cas th _ _ ?_,nxt 1 _ h1 h2 h3 h4 (by show i + 1 ≤ 16; omega) h9 h5 rfl⟩
  show (if s = 0 then planW d else o) < _
  split
  ·exact planW_lt _
  ·exact h3
 ·have h9 := h9 (by omega); have h10 := h10 (by omega) (by omega) (by omega)
  refine ⟨hb.load th _,?_⟩
  show FrP.Nx (FrP.look ⟨d,8,s,n,i,a,o,x,w,oc,st,false,other⟩ (M.peek a))
  have hr := hp a
  generalize M.peek a = r at *
  unfold FrP.look
  split
  ·exact mk 9 _ a o _ w oc (sett0 r) h2 h3 h4 h5 (by omega) (fun q => absurd q (by omega)) (fun _ => h9) (fun _ _ _ => h10) (fun _ => ⟨hr,by show 0 < _; omega,by show 0 < _; omega,by show 0 < 6; omega⟩)
  split
  ·exact mk 5 _ a o _ w oc st h2 h3 h4 h5 (by omega) (fun q => absurd q (by omega)) (fun _ => h9) (fun _ _ _ => h10) (fun q => absurd q (by omega))
  split
  ·exact nxt 1 _ h1 h2 h3 h4 (by show i + 1 ≤ 16; omega) h9 h5 rfl
  split
  ·exact .inr ⟨rfl,by show r / 4 < _; omega,rfl,⟨h1,h2,h3,h4,h5,by show 5 < 15; omega,h7,fun q => absurd q (by show ¬ 5 ≤ 1; omega),fun _ => h9,fun _ _ _ => h10,fun q => absurd q (by show ¬ 5 = 9; omega),rfl⟩⟩
  ·exact mk 10 _ a o _ w 2 st h2 h3 h4 (by omega) (by omega) (fun q => absurd q (by omega)) (fun _ => h9) (fun _ q => absurd rfl q) (fun q => absurd q (by omega))
 ·have h9 := h9 (by omega); have h10 := h10 (by omega) (by omega) (by omega)
  obtain ⟨g1,g2⟩ := (h11 rfl).go hb th
  refine ⟨g1,?_⟩
  show FrP.Nx ⟨d,if (st.go M th).2.2 then 5 else 9,s,n,i,a,o,x,w,oc,(st.go M th).1,false,other⟩
  split
  ·exact mk 5 _ a o _ w oc _ h2 h3 h4 h5 (by omega) (fun q => absurd q (by omega)) (fun _ => h9) (fun _ _ _ => h10) (fun q => absurd q (by omega))
  ·rename_i c
   exact mk 9 _ a o _ w oc _ h2 h3 h4 h5 (by omega) (fun q => absurd q (by omega)) (fun _ => h9) (fun _ _ _ => h10) (fun _ => g2.resolve_left c)
 ·exact ⟨hb.cas th _ _ h5,mk 11 _ a o x w oc st h2 h3 h4 h5 (by omega) (fun q => absurd q (by omega)) (fun _ => h9 (by omega)) (fun _ _ q => absurd rfl q) (fun q => absurd q (by omega))⟩
 ·exact ⟨hb.load th _,clr 0 _ h1 h2 h3 h4 (by omega) (h9 (by omega)) h5 rfl⟩
 ·have h9 := h9 (by omega); have h10 := h10 (by omega) (by omega) (by omega)
  exact ⟨hb.load th _,mk 13 _ _ o x w oc st (hp _) h3 h4 h5 (by omega) (fun q => absurd q (by omega)) (fun _ => h9) (fun _ _ _ => h10) (fun q => absurd q (by omega))⟩
 ·have h9 := h9 (by omega); have h10 := h10 (by omega) (by omega) (by omega)
  exact ⟨hb.load th _,mk 14 _ a o x _ oc st h2 h3 (hp _) h5 (by omega) (fun q => absurd q (by omega)) (fun _ => h9) (fun _ _ _ => h10) (fun q => absurd q (by omega))⟩
 ·have h9 := h9 (by omega); have h10 := h10 (by omega) (by omega) (by omega)
  exact ⟨hb.cas th _ _ h4,clr (i + 1) _ h1 h2 h3 h4 (by omega) h9 h5 rfl⟩
theorem fr0_ok {d : Nat} (h : d < 18446744073709551616) : (fr0 d).Ok := ⟨h,by show 0 < _; omega,by show 0 < _; omega,by show 0 < _; omega,by show 0 < _; omega,by show 0 < 15; omega,by show 0 ≤ 16; omega,fun _ => rfl,fun q => absurd q (by show ¬ 1 < 0; omega),fun q => absurd q (by show ¬ 1 < 0; omega),fun q => absurd q (by show ¬ 0 = 9; omega),rfl⟩
def OkS (l : List FrP) : Prop := ∀ f ∈ l,f.Ok
theorem OkS.go {l : List FrP} (h : OkS l) {M : Mem} (hb : M.Bd) (th : Int) : (stkP l M th).2.Bd∧OkS (stkP l M th).1 := by
 cases l with
 | nil => exact ⟨hb,h⟩
 | cons f r =>
  obtain ⟨g1,g2⟩ := (h f (List.mem_cons_self ..)).go hb th
  have hr : ∀ f ∈ r,f.Ok := fun x hx => h x (List.mem_cons_of_mem _ hx)
  refine ⟨g1,?_⟩
  show OkS (if (f.go M th).1.meets = true then fr0 (f.go M th).1.other::{ (f.go M th).1 with meets := false }::r else if (f.go M th).1.at_ = 15 then r else (f.go M th).1::r)
  generalize (f.go M th).1 = f' at *
  rcases g2 with ⟨c1,c2⟩ | ⟨c1,c2,_,c3⟩
  ·rw [if_neg (by rw [c1]; simp)]
   split
   ·exact hr
   ·rename_i q
    intro x hx
    rcases List.mem_cons.1 hx with rfl | hx
    ·exact c2.resolve_left q
    ·exact hr x hx
  ·rw [if_pos c1]
   intro x hx
   rcases List.mem_cons.1 hx with rfl | hx
   ·exact fr0_ok c2
   rcases List.mem_cons.1 hx with rfl | hx
   ·exact c3
   ·exact hr x hx
end Go.Proofs.Ytoogdnemkfbgdaa

set_option linter.unusedVariables false
set_option linter.unusedSimpArgs false
namespace Go.Proofs.Ytoogdnemkfbgdaa
open Go Go.CM
attribute [local irreducible] AsBool AsWant AsNat AsInt AsCnt AsPtr AsSlc AsLen AsStr AsAgg AsTup AsFn AsIfc Nth Sc NotNil IsNil Must Cd codeW funW Sat SatL wrapN subM mkRow ltZ leZ ltN leN
variable {con : CallT}
abbrev tFrp : Nat := 140
theorem el_frp : elemOk Try.prog 143 tFrp 1 8 = true := by kernel_rfl
theorem sl_frp : ∃ e,Try.prog.underlying 143 = some (.slice e) := ⟨_,(elemOk.out el_frp).1⟩
def SeAt (f : FrP) (po : Option Addr) : HP := fun h => f.at_ ≠ 9 ∨ (f.at_ = 9∧∃ q,po = some ⟨q,0,none⟩∧Own q (seC f.st) h)
theorem FrAt.two {b : Nat} {f : FrP} {R : List HP} {H : CH} (hs : Sat (FrAt b f::R) H) : ∃ po,Sat (Own b (frC f (.pointer po))::SeAt f po::R) H := by
 obtain ⟨h1,h2,s1,s2,d,a,y⟩ := hs.opens Pull.here
 rcases a with ⟨h,po,a⟩ | ⟨h,q,a⟩
 ·exact ⟨po,Sat.merge (L1 := [_]) s1 s2 d (SatL.one a) (satL_triv y fun g => .inl h)⟩
 ·refine ⟨some ⟨q,0,none⟩,Sat.merge (L1 := [_,_]) s1 s2 d (SatL.imp2 a fun g a => .inr ⟨h,q,rfl,a⟩) y⟩
theorem FrAt.join {b : Nat} {f : FrP} {po : Option Addr} {R : List HP} {H : CH} (hs : Sat (Own b (frC f (.pointer po))::SeAt f po::R) H) : Sat (FrAt b f::R) H :=
 Sat.close (L1 := [_,_]) hs fun g a => by
  by_cases h : f.at_ = 9
  ·obtain ⟨q,e⟩ : ∃ q,po = some ⟨q,0,none⟩ := by
    obtain ⟨g',a'⟩ := SatL.second a
    rcases a' with q | ⟨_,q,e,_⟩
    ·exact absurd h q
    ·exact ⟨q,e⟩
   subst e
   refine .inr ⟨h,q,SatL.imp2 a fun g a => ?_⟩
   rcases a with c | ⟨_,q',e,a⟩
   ·exact absurd h c
   ·cases e; exact a
  ·exact .inl ⟨h,po,SatL.first a fun g a s => a.mono s⟩
def HlpAt (p : Nat) (l : List FrP) : HP := fun h => ∃ (x : Value) (bs : List Nat),bs.length = l.length∧SatL [Own p [x],Stk x tFrp 1 (bs.reverse.map fun b => [ptr b 0]),SatL (List.zipWith FrAt bs l)] h
theorem HlpAt.cls {p : Nat} {x : Value} {bs : List Nat} {l : List FrP} {R : List HP} {H : CH} (hb : bs.length = l.length) (hs : Sat (Own p [x]::Stk x tFrp 1 (bs.reverse.map fun b => [ptr b 0])::SatL (List.zipWith FrAt bs l)::R) H) : Sat (HlpAt p l::R) H :=
 Sat.close (L1 := [_,_,_]) hs fun g a => ⟨x,bs,hb,a⟩
theorem frps_len (bs : List Nat) : (bs.reverse.map fun b => [ptr b 0]).length = bs.length := by simp
theorem frps_cons (b : Nat) (bs : List Nat) : ((b::bs).reverse.map fun b => [ptr b 0]) = (bs.reverse.map fun b => [ptr b 0])++[[ptr b 0]] := by simp
theorem sub1 (n : Nat) : Int.sub (Int.ofNat (n + 1)) (Int.ofNat 1) = Int.ofNat n := subInt (a := n + 1) (b := 1) (by omega)
theorem decNil {α : Type} (l : List α) : eqZ (Int.ofNat l.length) (Int.ofNat 0) = decide (l.length = 0) := by
 by_cases h : l.length = 0
 ·rw [eqZ_t h,decide_eq_true h]
 ·rw [eqZ_f h,decide_eq_false h]
theorem helperStep_ok (hc : Con con lives) {f : FrP} {r : List FrP} {L R1 R2 R3 : List HP} {H : CH} {p v m n : Nat} {th : Int} {M : Mem} {K : KP} (hs : Sat L H) (hm : Pull L (MemP m M) R1) (hv : Pull R1 (ViewAt v m th n) R2) (hp : Pull R2 (HlpAt p (f::r)) R3)
  (hn : n < 1000000000) (ht : M.tr.length < 1000000000) (hb : M.Bd) (ok : f.Ok) (hr : r.length < 100000000)
  (k : ∀ H1,Sat (HlpAt p (stkP (f::r) M th).1::MemP m (stkP (f::r) M th).2::ViewAt v m th (n + 1)::R3) H1→K (.bool (decide ((stkP (f::r) M th).1.length = 0))) H1) : Call1 Try.prog con 57 [ptr p 0,ptr v 0] H K := by
 refine call_of (hc _ _ _ rfl) ?_
 rw [helperStep_W]
 have hs0 := hs.takes (.cons hm (.cons hv (.cons hp .nil)))
 simp only [List.cons_append,List.nil_append] at hs0
 clear hs hm hv hp
 have hs1 : Sat (HlpAt p (f::r)::MemP m M::ViewAt v m th n::R3) H := hs0.ent ee
 clear hs0
 obtain ⟨h1,h2,s1,s2,d,⟨x,bs0,hbs,a⟩,y⟩ := hs1.opens Pull.here
 have hs2 := Sat.merge s1 s2 d a y
 simp only [List.cons_append,List.nil_append] at hs2
 clear a y hs1 s1 s2 d
 obtain ⟨b0,bs,rfl⟩ : ∃ b0 bs,bs0 = b0::bs := by
  cases bs0 with
  | nil => simp at hbs
  | cons b bs => exact ⟨b,bs,rfl⟩
 have hbl : bs.length = r.length := by simpa using hbs
 rw [frps_cons] at hs2
 have hs3 : Sat (SatL (FrAt b0 f::List.zipWith FrAt bs r)::Own p [x]::Stk x tFrp 1 ((bs.reverse.map fun b => [ptr b 0])++[[ptr b0 0]])::MemP m M::ViewAt v m th n::R3) H := hs2.ent ee
 have hs4 := hs3.uncons
 clear hs2 hs3
 have hlen : ((bs.reverse.map fun b => [ptr b 0])++[[ptr b0 0]]).length = r.length + 1 := by simp [hbl]
 obtain ⟨xb,xc,hx⟩ := (hs4.has (Has.skip (Has.skip (Has.skip Has.stk)))).shape
 rw [hlen] at hx
 subst hx
 have htop : ((bs.reverse.map fun b => [ptr b 0])++[[ptr b0 0]])[r.length]? = some [ptr b0 0] := by
  rw [List.getElem?_append_right (by simp [hbl])]
  simp [hbl]
 repeat (refine gO ?_; intros)
 rw [sub1]
 refine inR_nat (by omega) ?_
 repeat (refine gO ?_; intros)
 refine Must.mk (ltN_t (by omega)) ?_
 refine ldStk hs4 (Has.skip (Has.skip (Has.skip Has.stk))) rfl htop (j := 0) (by show 0 + r.length * 1 = _; omega) rfl ?_
 refine mframeStep_ok hc hs4 pp pp pp hn ht hb ok fun H1 h1 => ?_
 have nx := (ok.go hb th).2
 have ek : stkP (f::r) M th = (if (f.go M th).1.meets = true then fr0 (f.go M th).1.other::{ (f.go M th).1 with meets := false }::r else if (f.go M th).1.at_ = 15 then r else (f.go M th).1::r,(f.go M th).2) := rfl
 rw [ek] at k
 generalize (f.go M th).1 = f' at *
 generalize (f.go M th).2 = M' at *
 clear hs4 ek
 obtain ⟨po,h2⟩ := FrAt.two h1
 clear h1
 repeat (refine gO ?_; intros)
 cases cm : f'.meets with
 | true =>
  rw [cm] at k
  refine Cd.t rfl ?_
  have h5 : f'.at_ = 5 := by
   rcases nx with ⟨q,_⟩ | ⟨_,_,q,_⟩
   ·rw [cm] at q; cases q
   ·exact q
  repeat (refine gO ?_; intros)
  rename_i p20 H21 h21 p22 H23 h23
  refine app_stk (new := [ptr p20 0]) h23 pp el_frp (by omega) sl_frp (Src.cell (ys := [ptr p20 0]) (n := 1) rfl) rfl (by simp) (by rw [hlen]; omega) rfl fun v' H5 hh5 => ?_
  obtain ⟨vb,vc,hv'⟩ := (hh5.has Has.stk).shape
  rw [List.length_append,hlen] at hv'
  subst hv'
  repeat (refine gO ?_; intros)
  refine Cd.f (by rw [h5]; rfl) ?_
  repeat (refine gO ?_; intros)
  rename_i hlast
  rw [if_pos rfl] at k
  have hA : Sat (Own b0 (frC { f' with meets := false } (.pointer po))::SeAt { f' with meets := false } po::Own p20 (frC (fr0 f'.other) (.pointer none))::SatL (List.zipWith FrAt bs r)::Own p [slc vb 0 (r.length + 1 + 1) vc]::Stk (slc vb 0 (r.length + 1 + 1) vc) tFrp 1 (((bs.reverse.map fun b => [ptr b 0])++[[ptr b0 0]])++[[ptr p20 0]])::MemP m M'::ViewAt v m th (n + 1)::R3) _ := hlast.ent ee
  have hB := FrAt.join hA
  have hC : Sat (FrAt p20 (fr0 f'.other)::FrAt b0 { f' with meets := false }::SatL (List.zipWith FrAt bs r)::Own p [slc vb 0 (r.length + 1 + 1) vc]::Stk (slc vb 0 (r.length + 1 + 1) vc) tFrp 1 (((bs.reverse.map fun b => [ptr b 0])++[[ptr b0 0]])++[[ptr p20 0]])::MemP m M'::ViewAt v m th (n + 1)::R3) _ :=
   FrAt.cls (po := none) (hB.ent ee) (show (0 : Nat) ≠ 9 by decide)
  have hD := hC.drop
  have hE : Sat (SatL (FrAt p20 (fr0 f'.other)::FrAt b0 { f' with meets := false }::List.zipWith FrAt bs r)::Own p [slc vb 0 (r.length + 1 + 1) vc]::Stk (slc vb 0 (r.length + 1 + 1) vc) tFrp 1 (((bs.reverse.map fun b => [ptr b 0])++[[ptr b0 0]])++[[ptr p20 0]])::MemP m M'::ViewAt v m th (n + 1)::R3) _ :=
   Sat.recons (Sat.ent (Sat.recons (Sat.ent hC (R := FrAt b0 { f' with meets := false }::SatL (List.zipWith FrAt bs r)::FrAt p20 (fr0 f'.other)::Own p [slc vb 0 (r.length + 1 + 1) vc]::Stk (slc vb 0 (r.length + 1 + 1) vc) tFrp 1 (((bs.reverse.map fun b => [ptr b 0])++[[ptr b0 0]])++[[ptr p20 0]])::MemP m M'::ViewAt v m th (n + 1)::R3) ee)) ee)
  have hF := k _ (HlpAt.cls (p := p) (x := slc vb 0 (r.length + 1 + 1) vc) (bs := p20::b0::bs) (l := fr0 f'.other::{ f' with meets := false }::r) (by simp [hbl]) (by rw [frps_cons,frps_cons]; exact hE.ent ee))
  rw [decide_eq_false (by simp)] at hF
  rw [eqZ_f (by omega)]
  exact hF
 | false =>
  rw [cm,if_neg (by simp)] at k
  refine Cd.f rfl ?_
  repeat (refine gO ?_; intros)
  by_cases h15 : f'.at_ = 15
  ·rw [if_pos h15] at k
   refine Cd.t (eqZ_t h15) ?_
   repeat (refine gO ?_; intros)
   refine inR_nat (by omega) (inR_nat (by omega) ?_)
   refine slcStk3 (hi := r.length) h2 pp el_frp (by rw [hlen]; omega) fun v' h3 => ?_
   rw [List.take_append_of_le_length (by simp [hbl]),List.take_of_length_le (by simp [hbl])] at h3
   obtain ⟨vb,vc,hv'⟩ := (h3.has Has.stk).shape
   rw [frps_len,hbl] at hv'
   subst hv'
   repeat (refine gO ?_; intros)
   rename_i hlast
   rw [decNil]
   exact k _ (HlpAt.cls (x := slc vb 0 r.length vc) (bs := bs) hbl (hlast.ent ee))
  ·rw [if_neg h15] at k
   refine Cd.f (eqZ_f h15) ?_
   repeat (refine gO ?_; intros)
   have hB := FrAt.join (h2.ent (R := Own b0 (frC f' (.pointer po))::SeAt f' po::SatL (List.zipWith FrAt bs r)::Own p [slc xb 0 (r.length + 1) xc]::Stk (slc xb 0 (r.length + 1) xc) tFrp 1 ((bs.reverse.map fun b => [ptr b 0])++[[ptr b0 0]])::MemP m M'::ViewAt v m th (n + 1)::R3) ee)
   have hF := k _ (HlpAt.cls (p := p) (x := slc xb 0 (r.length + 1) xc) (bs := b0::bs) (l := f'::r) (by simp [hbl]) (by rw [frps_cons]; exact (Sat.recons hB).ent ee))
   rw [decide_eq_false (by simp)] at hF
   rw [eqZ_f (by omega)]
   exact hF
end Go.Proofs.Ytoogdnemkfbgdaa

set_option linter.unusedVariables false
set_option linter.unusedSimpArgs false
namespace Go.Proofs.Ytoogdnemkfbgdaa
open Go Go.CM
attribute [local irreducible] AsBool AsWant AsNat AsInt AsCnt AsPtr AsSlc AsLen AsStr AsAgg AsTup AsFn AsIfc Nth Sc NotNil IsNil Must Cd codeW funW Sat SatL wrapN subM mkRow ltZ leZ ltN leN
attribute [local irreducible] isFunT
variable {con : CallT}
abbrev fnv : Value := .func (.func 59) ⟨[]⟩ ⟨[]⟩
theorem fnE : isFunT Try.prog 59 = true := by kernel_rfl
instance : Inhabited E3 := ⟨⟨0,0,0⟩⟩
abbrev ltE (x y : E3) : Bool := ltN x.a y.a
theorem swoE : Sort.SWO ltE where
 irrefl x := ltN_f (Nat.le_refl _)
 trans x y z h1 h2 := ltN_t (Nat.lt_trans (ltN_iff.1 h1) (ltN_iff.1 h2))
 ntrans x y z h1 h2 := by
  have e1 : ¬ x.a < y.a := fun h => by rw [show ltE x y = true from ltN_t h] at h1; cases h1
  have e2 : ¬ y.a < z.a := fun h => by rw [show ltE y z = true from ltN_t h] at h2; cases h2
  exact ltN_f (by omega)
def encE (x : E3) : List Value := [u64 x.a,u64 x.o,u64 x.n]
def rowE (d : Array E3) : List Value := (d.toList.map encE).flatten
theorem encE_len (l : List E3) : ∀ r ∈ l.map encE,r.length = 3 := fun r hr => by
 obtain ⟨x,_,rfl⟩ := List.mem_map.1 hr
 rfl
def RowE (b e s : Nat) (d : Array E3) : HP := Row b e s true (rowE d)
instance (priority := 1100) HasCell.rowE {b e s : Nat} {d : Array E3} {L : List HP} : HasCell (RowE b e s d::L) b (rowE d) := HasCell.row
theorem ldE {L : List HP} {H : CH} {b i : Nat} {d : Array E3} {K : Value→Value→Value→Prop} (hs : Sat L H) [HasCell L b (rowE d)] (hi : i < d.size) (k : K (u64 d[i]!.a) (u64 d[i]!.o) (u64 d[i]!.n)) :
  Ld H b (Nat.add (Nat.add 0 (Nat.mul i 3)) 0) fun x => Ld H b (Nat.add (Nat.add 0 (Nat.mul i 3)) 1) fun y => Ld H b (Nat.add (Nat.add 0 (Nat.mul i 3)) 2) fun z => K x y z := by
 have hr : (d.toList.map encE)[i]? = some (encE d[i]!) := by
  rw [List.getElem?_map,Array.getElem?_toList,Array.getElem?_eq_getElem hi,getElem!_pos d i hi]; rfl
 have key : ∀ j,j < 3→(rowE d)[Nat.add (Nat.add 0 (Nat.mul i 3)) j]? = (encE d[i]!)[j]? := fun j hj => by
  show (rowE d)[0 + i * 3 + j]? = _
  rw [Nat.zero_add]
  exact flat_get (encE_len _) i j _ hr hj
 refine ld hs ((key 0 (by omega)).trans rfl) ?_
 refine ld hs ((key 1 (by omega)).trans rfl) ?_
 exact ld hs ((key 2 (by omega)).trans rfl) k
theorem rowE_len (d : Array E3) : (rowE d).length = d.size * 3 := by
 unfold rowE
 rw [flat_len (encE_len _),List.length_map,Array.length_toList]
theorem stE {R : List HP} {H : CH} {b e s i : Nat} {d : Array E3} {x : E3} {K : CH→Prop} (hs : Sat (RowE b e s d::R) H) (hi : i < d.size) (k : ∀ H1,Sat (RowE b e s (d.setIfInBounds i x)::R) H1→K H1) :
  St H b (Nat.add 0 (Nat.mul i 3)) [u64 x.a,u64 x.o,u64 x.n] K := by
 have hr : (d.toList.map encE)[i]? = some (encE d[i]!) := by
  rw [List.getElem?_map,Array.getElem?_toList,Array.getElem?_eq_getElem hi,getElem!_pos d i hi]; rfl
 refine stN (i := HasObj.row) hs ?_ rfl fun H1 h => k H1 ?_
 ·show 0 + i * 3 + 3 ≤ _
  rw [rowE_len]; omega
 ·rw [show Nat.add 0 (Nat.mul i 3) = i * 3 + 0 from Nat.zero_add _,show rowE d = (d.toList.map encE).flatten from rfl,flat_ovw _ (encE_len _) i 0 _ hr (by show 0 + 3 ≤ 3; omega)] at h
  have e : rowE (d.setIfInBounds i x) = ((d.toList.map encE).set i (ovw [u64 x.a,u64 x.o,u64 x.n] (encE d[i]!) 0)).flatten := by
   unfold rowE
   rw [Array.toList_setIfInBounds,List.map_set]; rfl
  unfold RowE
  rw [e]
  exact h
theorem swpE {R : List HP} {H : CH} {b e s i j : Nat} {d : Array E3} (h : Sat (RowE b e s ((d.setIfInBounds i d[j]!).setIfInBounds j d[i]!)::R) H) : Sat (RowE b e s (Sort.swp d i j)::R) H := h
noncomputable def cmpZ (x y : E3) : Int := if x.a < y.a then Int.negSucc 0 else if y.a < x.a then Int.ofNat 1 else Int.ofNat 0
theorem cmpZ_lt (x y : E3) : ltZ (cmpZ x y) (Int.ofNat 0) = ltE x y := by
 unfold cmpZ
 by_cases h : x.a < y.a
 ·rw [if_pos h,show ltE x y = true from ltN_t h]; decide +kernel
 ·rw [if_neg h,show ltE x y = false from ltN_f (by omega)]
  split <;> decide +kernel
theorem cmpE_ok (hc : Con con lives) {L : List HP} {H : CH} {x y : E3} {K : KP} (hs : Sat L H) (k : ∀ H1,Sat L H1→K (i64 (cmpZ x y)) H1) : Call1 Try.prog con 59 [.agg ⟨[u64 x.a,u64 x.o,u64 x.n]⟩,.agg ⟨[u64 y.a,u64 y.o,u64 y.n]⟩] H K := by
 refine call_of (hc _ _ _ rfl) ?_
 rw [byAddr_W]
 repeat (refine gO ?_; intros)
 rename_i h4
 refine call_of (hc _ _ _ rfl) ?_
 rw [cmpCompare_W]
 refine call_of (hc _ _ _ rfl) ?_
 rw [cmpNaN_W,eqN_self]
 refine call_of (hc _ _ _ rfl) ?_
 rw [cmpNaN_W,eqN_self]
 refine AsBool.mk (Cd.f rfl (AsBool.mk (Cd.f rfl ?_)))
 have k' := k _ h4.drop.drop
 unfold cmpZ at k'
 by_cases h : x.a < y.a
 ·rw [if_pos h] at k'
  exact Cd.t (ltN_t h) k'
 ·rw [if_neg h] at k'
  refine Cd.f (ltN_f (by omega)) ?_
  by_cases h2 : y.a < x.a
  ·rw [if_pos h2] at k'
   exact Cd.t (ltN_t h2) k'
  ·rw [if_neg h2] at k'
   exact Cd.f (ltN_f (by omega)) k'
theorem insInner_at {a i : Nat} {d : Array E3} (h : 0 < i) : Sort.insInner ltE a i d = if i > a && ltE d[i]! d[i - 1]! then Sort.insInner ltE a (i - 1) (Sort.swp d i (i - 1)) else d := by
 obtain ⟨i,rfl⟩ : ∃ m,i = m + 1 := ⟨i - 1,by omega⟩
 rfl
theorem insB_ok (hc : Con con lives) {R : List HP} {H : CH} {b e s a n : Nat} {d : Array E3} {j : Nat} {σ : TF} {Q : KX} (hs : Sat (RowE b e s d::R) H) (hn : d.size = n) (hn2 : n ≤ 1000000) (hj : j < n)
  (e0 : σ 0 = slc b 0 n n) (e1 : σ 1 = iN a∧σ 3 = fnv) (e7 : σ 9 = iN j)
  (k : ∀ σ1 H1,σ1 0 = slc b 0 n n→(σ1 1 = iN a∧σ1 3 = fnv)→σ1 2 = σ 2→σ1 8 = σ 8→Sat (RowE b e s (Sort.insInner ltE a j d)::R) H1→Q (.exit 2) σ1 H1) :
  LoopC Try.prog con (lpAt Try.prog 74 1) σ H Q := by
 refine LoopC.indP (n := 200) (id := 2) (fun σ1 H1 => σ1 0 = slc b 0 n n∧(σ1 1 = iN a∧σ1 3 = fnv)∧σ1 2 = σ 2∧σ1 8 = σ 8∧Sat (RowE b e s (Sort.insInner ltE a j d)::R) H1) (by kernel_rfl)
  (fun (i : Nat) σ1 H1 => i < n∧σ1 0 = slc b 0 n n∧(σ1 1 = iN a∧σ1 3 = fnv)∧σ1 2 = σ 2∧σ1 8 = σ 8∧σ1 9 = iN i∧∃ d1,d1.size = n∧Sort.insInner ltE a i d1 = Sort.insInner ltE a j d∧Sat (RowE b e s d1::R) H1)
  (fun i => i) (fun i σ1 H1 hI => ?_) (fun σ1 H1 hP => ?_) j _ _ ⟨hj,e0,e1,rfl,rfl,e7,d,hn,rfl,hs⟩
 ·obtain ⟨hi,a0,a1,a2,a6,a7,d1,hd1,hins,hs1⟩ := hI
  rw [insSortB_W]
  simp only [a7,a0,a1]
  repeat (refine gO ?_; intros)
  by_cases h : a < i
  ·refine Cd.t (ltZ_t h) ?_
   repeat (refine gO ?_; intros)
   refine Must.mk (ltN_t (by omega)) (ldE hs1 (by omega) ?_)
   repeat (refine gO ?_; intros)
   rw [subInt (by omega)]
   refine inR_nat (by omega) ?_
   repeat (refine gO ?_; intros)
   refine Must.mk (ltN_t (by omega)) (ldE hs1 (by omega) ?_)
   repeat (refine gO ?_; intros)
   try refine Must.mk fnE ?_
   refine cmpE_ok hc hs1 fun _ hs1 => ?_
   repeat (refine gO ?_; intros)
   rw [cmpZ_lt]
   have e2 := insInner_at (a := a) (d := d1) (show 0 < i by omega)
   rw [decide_eq_true (show i > a from h),Bool.true_and] at e2
   repeat (refine gO ?_; intros)
   cases hl : ltE d1[i]! d1[i - 1]! with
   | true =>
    rw [hl,if_pos rfl] at e2
    refine Cd.t rfl ?_
    repeat (refine gO ?_; intros)
    rw [subInt (by omega)]
    refine inR_nat (by omega) ?_
    repeat (refine gO ?_; intros)
    rw [subInt (by omega)]
    refine inR_nat (by omega) ?_
    repeat (refine gO ?_; intros)
    refine Must.mk (ltN_t (by omega)) (ldE hs1 (by omega) ?_)
    repeat (refine gO ?_; intros)
    refine Must.mk (ltN_t (by omega)) (ldE hs1 (by omega) ?_)
    repeat (refine gO ?_; intros)
    refine Must.mk (ltN_t (by omega)) ?_
    repeat (refine gO ?_; intros)
    refine stE hs1 (by omega) fun _ hx => ?_
    repeat (refine gO ?_; intros)
    refine Must.mk (ltN_t (by omega)) ?_
    repeat (refine gO ?_; intros)
    refine stE hx (by rw [Array.size_setIfInBounds]; omega) fun _ hy => ?_
    replace hy := swpE hy
    clear hx
    repeat (refine gO ?_; intros)
    rw [subInt (by omega)]
    refine inR_nat (by omega) ?_
    repeat (refine gO ?_; intros)
    show ∃ y,_∧_
    exact ⟨i - 1,by omega,by omega,a0,a1,a2,a6,rfl,_,by rw [Sort.size_swp]; exact hd1,by rw [← e2]; exact hins,hy⟩
   | false =>
    rw [hl] at e2
    refine Cd.f rfl ?_
    show _ = _∧_
    exact ⟨rfl,a0,a1,a2,a6,by rw [← hins,e2]; exact hs1⟩
  ·refine Cd.f (ltZ_f (by omega)) ?_
   show _ = _∧_
   have e2 : Sort.insInner ltE a i d1 = d1 := by
    cases i with
    | zero => rfl
    | succ i =>
     show (if i + 1 > a && _ then _ else d1) = d1
     rw [decide_eq_false (show ¬ i + 1 > a by omega),Bool.false_and]; rfl
   exact ⟨rfl,a0,a1,a2,a6,by rw [← hins,e2]; exact hs1⟩
 ·obtain ⟨a0,a1,a2,a6,hs1⟩ := hP
  exact k σ1 H1 a0 a1 a2 a6 hs1
theorem ins_size (a : Nat) : ∀ (j : Nat) (d : Array E3),(Sort.insInner ltE a j d).size = d.size
 | 0,d => rfl
 | j + 1,d => by
  show (if _ then Sort.insInner ltE a j _ else d).size = _
  split
  ·rw [ins_size a j,Sort.size_swp]
  ·rfl
theorem insSort_ok (hc : Con con lives) {L R : List HP} {H : CH} {b e s a z n : Nat} {d : Array E3} {K : KP} (hs : Sat L H) (hp : Pull L (RowE b e s d) R) (hn : d.size = n) (hn2 : n ≤ 1000000) (hab : a ≤ z) (hz : z ≤ n)
  (k : ∀ H1,Sat (RowE b e s (Sort.insertionSort ltE d a z)::R) H1→K unit H1) : Call1 Try.prog con 74 [slc b 0 n n,iN a,iN z,fnv] H K := by
 refine call_of (hc _ _ _ rfl) ?_
 rw [insSort_W]
 have hs0 := hs.pull hp
 clear hs hp
 rw [addInt]
 refine inR_nat (by omega) ?_
 refine LoopC.indP (n := 200) (id := 0) (fun σ1 H1 => Sat (RowE b e s (Sort.insertionSort ltE d a z)::R) H1) (by kernel_rfl)
  (fun (i : Nat) σ1 H1 => a ≤ i∧σ1 0 = slc b 0 n n∧(σ1 1 = iN a∧σ1 3 = fnv)∧σ1 2 = iN z∧σ1 8 = iN i∧∃ d1,d1.size = n∧Sort.insOuter ltE a z i d1 = Sort.insertionSort ltE d a z∧Sat (RowE b e s d1::R) H1)
  (fun i => z - i) (fun i σ1 H1 hI => ?_) (fun σ1 H1 hP => ?_) (a + 1) _ _ ⟨by omega,rfl,⟨rfl,rfl⟩,rfl,rfl,d,hn,rfl,hs0⟩
 ·obtain ⟨hi,a0,a1,a2,a6,d1,hd1,hins,hs1⟩ := hI
  rw [insSortA_W]
  simp only [a6,a2]
  repeat (refine gO ?_; intros)
  by_cases h : i < z
  ·refine Cd.t (ltZ_t h) ?_
   refine insB_ok hc (a := a) (j := i) hs1 hd1 hn2 (by omega) a0 a1 rfl fun σ2 H2 c0 c1 c2 c6 h2 => ?_
   show Cd _ _ _
   refine Cd.t rfl ?_
   have c6' : σ2 8 = iN i := c6.trans a6
   simp only [c6']
   repeat (refine gO ?_; intros)
   rw [addInt]
   refine inR_nat (by omega) ?_
   show ∃ y,_∧_
   refine ⟨i + 1,by omega,by omega,c0,c1,c2.trans a2,rfl,_,by rw [ins_size]; exact hd1,?_,h2⟩
   rw [← hins]
   conv => rhs; unfold Sort.insOuter
   rw [if_pos h]
  ·refine Cd.f (ltZ_f (by omega)) ?_
   show _ = _∧_
   refine ⟨rfl,?_⟩
   rw [← hins]
   unfold Sort.insOuter
   rw [if_neg h]
   exact hs1
 ·show Cd _ _ _
  exact Cd.t rfl (k _ hP)
end Go.Proofs.Ytoogdnemkfbgdaa

set_option linter.unusedVariables false
set_option linter.unusedSimpArgs false
namespace Go.Proofs.Ytoogdnemkfbgdaa
open Go Go.CM
attribute [local irreducible] AsBool AsWant AsNat AsInt AsCnt AsPtr AsSlc AsLen AsStr AsAgg AsTup AsFn AsIfc Nth Sc NotNil IsNil Must Cd codeW funW Sat SatL wrapN subM mkRow ltZ leZ ltN leN
attribute [local irreducible] isFunT
variable {con : CallT}
theorem revRange_ok (hc : Con con lives) {L R : List HP} {H : CH} {b e s a z n : Nat} {d : Array E3} {K : KP} (hs : Sat L H) (hp : Pull L (RowE b e s d) R) (hn : d.size = n) (hn2 : n ≤ 1000000) (hab : a < z) (hz : z ≤ n)
  (k : ∀ H1,Sat (RowE b e s (Sort.reverseRange d a z)::R) H1→K unit H1) : Call1 Try.prog con 78 [slc b 0 n n,iN a,iN z,fnv] H K := by
 refine call_of (hc _ _ _ rfl) ?_
 rw [revRange_W]
 have hs0 := hs.pull hp
 clear hs hp
 rw [subInt (by omega)]
 refine inR_nat (by omega) ?_
 refine LoopC.indP (n := 200) (id := 0) (fun σ1 H1 => Sat (RowE b e s (Sort.reverseRange d a z)::R) H1) (by kernel_rfl)
  (fun (x : Nat × Nat) σ1 H1 => x.1 < n + 1∧x.2 < n∧σ1 0 = slc b 0 n n∧σ1 8 = iN x.1∧σ1 9 = iN x.2∧∃ d1,d1.size = n∧Sort.reverseLoop x.1 x.2 d1 = Sort.reverseRange d a z∧Sat (RowE b e s d1::R) H1)
  (fun x => x.2 - x.1) (fun x σ1 H1 hI => ?_) (fun σ1 H1 hP => ?_) (a,z - 1) _ _ ⟨by show a < n + 1; omega,by show z - 1 < n; omega,rfl,rfl,rfl,d,hn,rfl,hs0⟩
 ·obtain ⟨i,j⟩ := x
  obtain ⟨hi,hj,a0,a6,a7,d1,hd1,hins,hs1⟩ := hI
  simp only at hi hj a6 a7 hins
  rw [revRangeL_W]
  simp only [a0,a6,a7]
  repeat (refine gO ?_; intros)
  by_cases h : i < j
  ·refine Cd.t (ltZ_t h) ?_
   repeat (refine gO ?_; intros)
   refine Must.mk (ltN_t (by omega)) (ldE hs1 (by omega) ?_)
   repeat (refine gO ?_; intros)
   refine Must.mk (ltN_t (by omega)) (ldE hs1 (by omega) ?_)
   repeat (refine gO ?_; intros)
   refine Must.mk (ltN_t (by omega)) ?_
   repeat (refine gO ?_; intros)
   refine stE hs1 (by omega) fun _ hx => ?_
   repeat (refine gO ?_; intros)
   refine Must.mk (ltN_t (by omega)) ?_
   repeat (refine gO ?_; intros)
   refine stE hx (by rw [Array.size_setIfInBounds]; omega) fun _ hy => ?_
   replace hy := swpE hy
   clear hx
   repeat (refine gO ?_; intros)
   try rw [addInt]
   refine inR_nat (by omega) ?_
   repeat (refine gO ?_; intros)
   rw [subInt (by omega)]
   refine inR_nat (by omega) ?_
   repeat (refine gO ?_; intros)
   show ∃ y,_∧_
   refine ⟨(i + 1,j - 1),by show j - 1 - (i + 1) < j - i; omega,by show i + 1 < n + 1; omega,by show j - 1 < n; omega,a0,rfl,rfl,_,by rw [Sort.size_swp]; exact hd1,?_,hy⟩
   rw [← hins]
   conv => rhs; unfold Sort.reverseLoop
   rw [if_pos h]
  ·refine Cd.f (ltZ_f (by omega)) ?_
   show _ = _∧_
   refine ⟨rfl,?_⟩
   rw [← hins]
   unfold Sort.reverseLoop
   rw [if_neg h]
   exact hs1
 ·show Cd _ _ _
  exact Cd.t rfl (k _ hP)
theorem order2_ok (hc : Con con lives) {L R1 R : List HP} {H : CH} {b e s p i j n c : Nat} {d : Array E3} {K : KP} (hs : Sat L H) (hp : Pull L (RowE b e s d) R1) (hq : Pull R1 (Own p [iN c]) R) (hn : d.size = n) (hi : i < n) (hj : j < n) (hcn : c < 1000)
  (k : ∀ i' j' c' H1,i' < n→j' < n→(i' = i∧j' = j ∨ i' = j∧j' = i)→c' ≤ c + 1→Sat (RowE b e s d::Own p [iN c']::R) H1→K (.tuple ⟨[iN i',iN j']⟩) H1) : Call1 Try.prog con 89 [slc b 0 n n,iN i,iN j,ptr p 0,fnv] H K := by
 refine call_of (hc _ _ _ rfl) ?_
 rw [order2_W]
 have hs0 := hs.takes (.cons hp (.cons hq .nil))
 simp only [List.cons_append,List.nil_append] at hs0
 clear hs hp hq
 repeat (refine gO ?_; intros)
 refine Must.mk (ltN_t (by omega)) (ldE hs0 (by omega) ?_)
 repeat (refine gO ?_; intros)
 refine Must.mk (ltN_t (by omega)) (ldE hs0 (by omega) ?_)
 repeat (refine gO ?_; intros)
 try refine Must.mk fnE ?_
 refine cmpE_ok hc hs0 fun _ hs0 => ?_
 repeat (refine gO ?_; intros)
 rw [cmpZ_lt]
 repeat (refine gO ?_; intros)
 cases ltE d[j]! d[i]! with
 | true =>
  repeat (refine gO ?_; intros)
  try rw [addInt]
  refine inR_nat (by omega) ?_
  repeat (refine gO ?_; intros)
  exact k j i (c + 1) _ hj hi (.inr ⟨rfl,rfl⟩) (Nat.le_refl _) (Sat.ent (by assumption) ee)
 | false =>
  repeat (refine gO ?_; intros)
  exact k i j c _ hi hj (.inl ⟨rfl,rfl⟩) (Nat.le_succ _) hs0
theorem median_ok (hc : Con con lives) {L R1 R : List HP} {H : CH} {b e s p x y w n c lo hi : Nat} {d : Array E3} {K : KP} (hs : Sat L H) (hp : Pull L (RowE b e s d) R1) (hq : Pull R1 (Own p [iN c]) R) (hn : d.size = n) (hx : lo ≤ x∧x < hi) (hy' : lo ≤ y∧y < hi) (hw : lo ≤ w∧w < hi) (hh : hi ≤ n) (hcn : c < 100)
  (k : ∀ m c' H1,lo ≤ m→m < hi→c' ≤ c + 3→Sat (RowE b e s d::Own p [iN c']::R) H1→K (iN m) H1) : Call1 Try.prog con 88 [slc b 0 n n,iN x,iN y,iN w,ptr p 0,fnv] H K := by
 refine call_of (hc _ _ _ rfl) ?_
 rw [median_W]
 refine order2_ok hc hs hp hq hn (by omega) (by omega) (by omega) fun i1 j1 c1 H1 q1 q2 q3 q4 h1 => ?_
 refine AsTup.mk (Nth.mk rfl (AsTup.mk (Nth.mk rfl ?_)))
 refine order2_ok hc h1 pp pp hn (by omega) (by omega) (by omega) fun i2 j2 c2 H2 r1 r2 r3 r4 h2 => ?_
 refine AsTup.mk (Nth.mk rfl (AsTup.mk (Nth.mk rfl ?_)))
 refine order2_ok hc h2 pp pp hn (by omega) (by omega) (by omega) fun i3 j3 c3 H3 s1 s2 s3 s4 h3 => ?_
 refine AsTup.mk (Nth.mk rfl (AsTup.mk (Nth.mk rfl ?_)))
 exact k j3 c3 _ (by omega) (by omega) (by omega) h3
theorem medAdj_ok (hc : Con con lives) {L R1 R : List HP} {H : CH} {b e s p x n c lo hi : Nat} {d : Array E3} {K : KP} (hs : Sat L H) (hp : Pull L (RowE b e s d) R1) (hq : Pull R1 (Own p [iN c]) R) (hn : d.size = n) (hx : lo + 1 ≤ x∧x + 1 < hi) (hh : hi ≤ n) (hn2 : n ≤ 1000000) (hcn : c < 100)
  (k : ∀ m c' H1,lo ≤ m→m < hi→c' ≤ c + 3→Sat (RowE b e s d::Own p [iN c']::R) H1→K (iN m) H1) : Call1 Try.prog con 87 [slc b 0 n n,iN x,ptr p 0,fnv] H K := by
 refine call_of (hc _ _ _ rfl) ?_
 rw [medAdj_W]
 rw [subInt (by omega)]
 refine inR_nat (by omega) ?_
 repeat (refine gO ?_; intros)
 try rw [addInt]
 refine inR_nat (by omega) ?_
 repeat (refine gO ?_; intros)
 try rw [addInt]
 exact median_ok hc hs hp hq hn (lo := lo) (hi := hi) (by omega) (by omega) (by omega) hh hcn k
theorem choosePiv_ok (hc : Con con lives) {L R : List HP} {H : CH} {b e s a z n : Nat} {d : Array E3} {K : KP} (hs : Sat L H) (hp : Pull L (RowE b e s d) R) (hn : d.size = n) (hn2 : n ≤ 1000000) (hab : a < z) (hz : z ≤ n)
  (k : ∀ m h H1,a ≤ m→m < z→h ≤ 2→Sat (RowE b e s d::R) H1→K (.tuple ⟨[iN m,iN h]⟩) H1) : Call1 Try.prog con 77 [slc b 0 n n,iN a,iN z,fnv] H K := by
 refine call_of (hc _ _ _ rfl) ?_
 rw [choosePiv_W]
 have hs0 := hs.pull hp
 clear hs hp
 rw [subInt (by omega)]
 refine inR_nat (by omega) ?_
 repeat (refine gO ?_; intros)
 rename_i p1 H2 h2
 refine CInt.quoI (m := (z - a) / 4) (by omega) rfl (by omega) ?_
 repeat (refine gO ?_; intros)
 refine CInt.mulI (m := (z - a) / 4 * 1) rfl (by omega) ?_
 repeat (refine gO ?_; intros)
 try rw [addInt]
 refine inR_nat (by omega) ?_
 repeat (refine gO ?_; intros)
 refine CInt.quoI (m := (z - a) / 4) (by omega) rfl (by omega) ?_
 repeat (refine gO ?_; intros)
 refine CInt.mulI (m := (z - a) / 4 * 2) rfl (by omega) ?_
 repeat (refine gO ?_; intros)
 try rw [addInt]
 refine inR_nat (by omega) ?_
 repeat (refine gO ?_; intros)
 refine CInt.quoI (m := (z - a) / 4) (by omega) rfl (by omega) ?_
 repeat (refine gO ?_; intros)
 refine CInt.mulI (m := (z - a) / 4 * 3) rfl (by omega) ?_
 repeat (refine gO ?_; intros)
 try rw [addInt]
 refine inR_nat (by omega) ?_
 repeat (refine gO ?_; intros)
 have fin : ∀ {H3 : CH} {m c : Nat},a ≤ m→m < z→Sat (RowE b e s d::Own p1 [iN c]::R) H3→Ld H3 p1 0 fun v23 => AsInt .i64 v23 fun z24 => Cd (eqZ z24 (Int.ofNat 0)) (K (.tuple ⟨[iN m,iN 1]⟩) H3) (AsInt .i64 v23 fun z25 => Cd (eqZ z25 (Int.ofNat 12)) (K (.tuple ⟨[iN m,iN 2]⟩) H3) (K (.tuple ⟨[iN m,iN 0]⟩) H3)) := by
  intro H3 m c h1 h2 h3
  repeat (refine gO ?_; intros)
  refine Cd.of (fun _ => k _ _ _ h1 h2 (by omega) (h3.ent ee)) fun _ => ?_
  repeat (refine gO ?_; intros)
  exact Cd.of (fun _ => k _ _ _ h1 h2 (by omega) (h3.ent ee)) fun _ => k _ _ _ h1 h2 (by omega) (h3.ent ee)
 refine Cd.of (fun h8 => ?_) (fun h8 => ?_)
 ·have h8 := leZ_e h8
  refine Cd.of (fun h50 => ?_) (fun h50 => ?_)
  ·have h50 := leZ_e h50
   refine medAdj_ok hc h2 pp pp hn (lo := a) (hi := z) (by omega) hz hn2 (by omega) fun m1 c1 H3 q1 q2 q3 h3 => ?_
   refine medAdj_ok hc h3 pp pp hn (lo := a) (hi := z) (by omega) hz hn2 (by omega) fun m2 c2 H4 r1 r2 r3 h4 => ?_
   refine medAdj_ok hc h4 pp pp hn (lo := a) (hi := z) (by omega) hz hn2 (by omega) fun m3 c3 H5 s1 s2 s3 h5 => ?_
   refine median_ok hc h5 pp pp hn (lo := a) (hi := z) (by omega) (by omega) (by omega) hz (by omega) fun m4 c4 H6 t1 t2 t3 h6 => ?_
   exact fin t1 t2 h6
  ·refine median_ok hc h2 pp pp hn (lo := a) (hi := z) (by omega) (by omega) (by omega) hz (by omega) fun m4 c4 H6 t1 t2 t3 h6 => ?_
   exact fin t1 t2 h6
 ·exact fin (m := a + (z - a) / 4 * 2) (c := 0) (by omega) (by omega) (h2.ent ee)
end Go.Proofs.Ytoogdnemkfbgdaa

set_option linter.unusedVariables false
set_option linter.unusedSimpArgs false
namespace Go.Proofs.Ytoogdnemkfbgdaa
open Go Go.CM
attribute [local irreducible] AsBool AsWant AsNat AsInt AsCnt AsPtr AsSlc AsLen AsStr AsAgg AsTup AsFn AsIfc Nth Sc NotNil IsNil Must Cd codeW funW Sat SatL wrapN subM mkRow ltZ leZ ltN leN
attribute [local irreducible] isFunT
variable {con : CallT}
theorem bitsLen_ok (hc : Con con lives) {H : CH} {n : Nat} {K : KP} (hn : n ≤ 256) (k : ∀ c,c ≤ 9→(0 < n→2 ^ c ≤ 2 * n)→K (iN c) H) : Call1 Try.prog con 65 [u64 n] H K := by
 refine call_of (hc _ _ _ rfl) ?_
 rw [bitsLen_W]
 refine call_of (hc _ _ _ rfl) ?_
 rw [bitsLen64_W]
 refine Cd.f (leN_f (by omega)) (Cd.f (leN_f (by omega)) ?_)
 by_cases h : 256 ≤ n
 ·obtain rfl : n = 256 := by omega
  refine Cd.t (leN_t h) ?_
  try rw [addInt]
  refine inR_nat (by omega) ?_
  repeat (refine gO ?_; intros)
  refine OpN.tab (j := 1) (by kernel_rfl) (by decide +kernel) rfl (by omega) fun c hc1 hc2 => ?_
  refine AsNat.mk (Must.mk (ltN_t (by omega)) ?_)
  have h2 := hc2 (by omega)
  have hcc : c ≤ 1 := by
   rcases Nat.lt_or_ge c 2 with h | h
   ·omega
   ·have : 2 ^ 2 ≤ 2 ^ c := Nat.pow_le_pow_right (by omega) h
    omega
  rw [show Int.add (Int.ofNat (0 + 8)) (Int.ofNat c) = Int.ofNat (8 + c) from rfl]
  refine inR_nat (by omega) ?_
  refine k (8 + c) (by omega) fun _ => ?_
  have : 2 ^ (8 + c) ≤ 2 ^ 9 := Nat.pow_le_pow_right (by omega) (by omega)
  omega
 ·refine Cd.f (leN_f (by omega)) ?_
  have hm : Nat.mod n 256 = n := Nat.mod_eq_of_lt (by omega)
  refine OpN.tab (j := Nat.mod n 256) (by kernel_rfl) (by decide +kernel) rfl (by omega) fun c hc1 hc2 => ?_
  rw [hm] at hc2
  refine AsNat.mk (Must.mk (ltN_t (by omega)) ?_)
  rw [show Int.add (Int.ofNat 0) (Int.ofNat c) = Int.ofNat c from by rw [addInt,Nat.zero_add]]
  refine inR_nat (by omega) ?_
  exact k c (by omega) hc2
theorem nextPow_ok (hc : Con con lives) {H : CH} {n : Nat} {K : KP} (hn : n ≤ 256) (h0 : 0 < n) (k : ∀ m,0 < m→m ≤ 2 * n→K (u64 m) H) : Call1 Try.prog con 85 [iN n] H K := by
 refine call_of (hc _ _ _ rfl) ?_
 rw [nextPow_W]
 refine Must.mk (cv_small (by omega)) ?_
 rw [wrapN_small (by omega)]
 refine bitsLen_ok hc hn fun c hc1 hc2 => ?_
 refine AsCnt.mk ?_
 have h2 := hc2 h0
 have hp : 0 < 2 ^ c := Nat.two_pow_pos c
 have e : Nat.mod (Nat.mul 1 (Nat.pow 2 (Nat.min c 64))) 18446744073709551616 = 2 ^ c := by
  rw [show Nat.min c 64 = c from Nat.min_eq_left (by omega)]
  show 1 * 2 ^ c % 18446744073709551616 = 2 ^ c
  rw [Nat.one_mul]
  exact Nat.mod_eq_of_lt (by omega)
 rw [e]
 exact k _ hp h2
theorem xorNext_ok (hc : Con con lives) {L R : List HP} {H : CH} {p r : Nat} {K : KP} (hs : Sat L H) (hp : Pull L (Own p [u64 r]) R) (k : ∀ x H1,x < 18446744073709551616→Sat (Own p [u64 x]::R) H1→K (u64 x) H1) : Call1 Try.prog con 86 [ptr p 0] H K := by
 refine call_of (hc _ _ _ rfl) ?_
 rw [xorNext_W]
 have hs0 := hs.pull hp
 clear hs hp
 repeat (refine gO ?_; intros)
 refine CInt.xorE fun x1 _ => ?_
 repeat (refine gO ?_; intros)
 refine CInt.xorE fun x2 _ => ?_
 repeat (refine gO ?_; intros)
 refine CInt.xorE fun x3 h3 => ?_
 repeat (refine gO ?_; intros)
 exact k x3 _ h3 (Sat.ent (by assumption) ee)
theorem breakPat_ok (hc : Con con lives) {L R : List HP} {H : CH} {b e s a z n : Nat} {d : Array E3} {K : KP} (hs : Sat L H) (hp : Pull L (RowE b e s d) R) (hn : d.size = n) (hn2 : n ≤ 256) (hab : a ≤ z) (hz : z ≤ n)
  (k : ∀ d' H1,Sort.PermIn a z d d'→Sat (RowE b e s d'::R) H1→K unit H1) : Call1 Try.prog con 76 [slc b 0 n n,iN a,iN z,fnv] H K := by
 refine call_of (hc _ _ _ rfl) ?_
 rw [breakPat_W]
 have hs0 := hs.pull hp
 clear hs hp
 rw [subInt (by omega)]
 refine inR_nat (by omega) ?_
 refine Cd.of (fun h8 => ?_) (fun _ => k d _ (Sort.permIn_refl d a z) hs0)
 have h8 := leZ_e h8
 refine Must.mk (cv_small (by omega)) ?_
 rw [wrapN_small (by omega)]
 repeat (refine gO ?_; intros)
 refine nextPow_ok hc (by omega) (by omega) fun m hm1 hm2 => ?_
 refine CInt.quoI (m := (z - a) / 4) (by omega) rfl (by omega) ?_
 repeat (refine gO ?_; intros)
 refine CInt.mulI (m := (z - a) / 4 * 2) rfl (by omega) ?_
 repeat (refine gO ?_; intros)
 try rw [addInt]
 refine inR_nat (by omega) ?_
 repeat (refine gO ?_; intros)
 rw [subInt (by omega)]
 refine inR_nat (by omega) ?_
 rename_i p1 H2 h2 H3 h3
 refine LoopC.indP (n := 200) (id := 0) (fun σ1 H1 => ∃ d',Sort.PermIn a z d d'∧Sat (RowE b e s d'::R) H1) (by kernel_rfl)
  (fun (i : Nat) σ1 H1 => a ≤ i∧σ1 0 = slc b 0 n n∧σ1 1 = iN a∧σ1 8 = iN (z - a)∧σ1 9 = ptr p1 0∧σ1 10 = u64 m∧σ1 11 = iN i∧∃ w,w < 18446744073709551616∧∃ d1,Sort.PermIn a z d d1∧Sat (RowE b e s d1::Own p1 [u64 w]::R) H1)
  (fun i => z - i) (fun i σ1 H1 hI => ?_) (fun σ1 H1 hP => ?_) (a + (z - a) / 4 * 2 - 1) _ _ ⟨by omega,rfl,rfl,rfl,rfl,rfl,rfl,z - a,by omega,d,Sort.permIn_refl d a z,h3.ent ee⟩
 ·obtain ⟨hi,c0,c1,c6,c7,c8,c9,w,hw,d1,hp1,hs1⟩ := hI
  have hd1 : d1.size = n := by rw [hp1.1]; exact hn
  rw [breakPatL_W]
  simp only [c0,c1,c6,c7,c8,c9]
  repeat (refine gO ?_; intros)
  refine CInt.quoI (m := (z - a) / 4) (by omega) rfl (by omega) ?_
  repeat (refine gO ?_; intros)
  refine CInt.mulI (m := (z - a) / 4 * 2) rfl (by omega) ?_
  repeat (refine gO ?_; intros)
  try rw [addInt]
  refine inR_nat (by omega) ?_
  repeat (refine gO ?_; intros)
  try rw [addInt]
  refine inR_nat (by omega) ?_
  repeat (refine gO ?_; intros)
  refine Cd.of (fun hle => ?_) (fun hgt => ?_)
  ·have hle := leZ_e hle
   refine xorNext_ok hc hs1 pp fun w' H9 hw' h9 => ?_
   clear hs1
   have hs1 : Sat (RowE b e s d1::Own p1 [u64 w']::R) H9 := h9.ent ee
   clear h9
   repeat (refine gO ?_; intros)
   rw [subM_small (by omega) (by omega)]
   have hand : w' &&& (m - 1) ≤ m - 1 := Nat.and_le_right
   refine CInt.and hw' (by omega) rfl ?_
   generalize w' &&& (m - 1) = o at hand
   repeat (refine gO ?_; intros)
   rw [wrapI_small (by omega)]
   refine Cd.of (fun hge => ?_) (fun hlt => ?_)
   ·have hge := leZ_e hge
    repeat (refine gO ?_; intros)
    rw [subInt (by omega)]
    refine inR_nat (by omega) ?_
    repeat (refine gO ?_; intros)
    try rw [addInt]
    refine inR_nat (by omega) ?_
    repeat (refine gO ?_; intros)
    try rw [addInt]
    refine inR_nat (by omega) ?_
    repeat (refine gO ?_; intros)
    refine Must.mk (ltN_t (by omega)) (ldE hs1 (by omega) ?_)
    repeat (refine gO ?_; intros)
    refine Must.mk (ltN_t (by omega)) (ldE hs1 (by omega) ?_)
    repeat (refine gO ?_; intros)
    refine Must.mk (ltN_t (by omega)) ?_
    repeat (refine gO ?_; intros)
    refine stE hs1 (by omega) fun _ hx => ?_
    repeat (refine gO ?_; intros)
    refine Must.mk (ltN_t (by omega)) ?_
    repeat (refine gO ?_; intros)
    refine stE hx (by rw [Array.size_setIfInBounds]; omega) fun _ hy => ?_
    replace hy := swpE hy
    clear hx
    repeat (refine gO ?_; intros)
    try rw [addInt]
    refine inR_nat (by omega) ?_
    repeat (refine gO ?_; intros)
    show ∃ y,_∧_
    replace hy : Sat (RowE b e s (Sort.swp d1 i (a + (o - (z - a))))::Own p1 [u64 w']::R) _ := hy
    exact ⟨i + 1,by omega,by omega,c0,c1,c6,c7,c8,rfl,w',hw',_,Sort.permIn_trans _ _ _ a z hp1 (Sort.swp_permIn _ _ _ _ _ (by omega) (by omega) (by omega) (by omega) (by omega)),hy⟩
   ·have hlt := leZ_n hlt
    repeat (refine gO ?_; intros)
    try rw [addInt]
    refine inR_nat (by omega) ?_
    repeat (refine gO ?_; intros)
    try rw [addInt]
    refine inR_nat (by omega) ?_
    repeat (refine gO ?_; intros)
    refine Must.mk (ltN_t (by omega)) (ldE hs1 (by omega) ?_)
    repeat (refine gO ?_; intros)
    refine Must.mk (ltN_t (by omega)) (ldE hs1 (by omega) ?_)
    repeat (refine gO ?_; intros)
    refine Must.mk (ltN_t (by omega)) ?_
    repeat (refine gO ?_; intros)
    refine stE hs1 (by omega) fun _ hx => ?_
    repeat (refine gO ?_; intros)
    refine Must.mk (ltN_t (by omega)) ?_
    repeat (refine gO ?_; intros)
    refine stE hx (by rw [Array.size_setIfInBounds]; omega) fun _ hy => ?_
    replace hy := swpE hy
    clear hx
    repeat (refine gO ?_; intros)
    try rw [addInt]
    refine inR_nat (by omega) ?_
    repeat (refine gO ?_; intros)
    show ∃ y,_∧_
    replace hy : Sat (RowE b e s (Sort.swp d1 i (a + o))::Own p1 [u64 w']::R) _ := hy
    exact ⟨i + 1,by omega,by omega,c0,c1,c6,c7,c8,rfl,w',hw',_,Sort.permIn_trans _ _ _ a z hp1 (Sort.swp_permIn _ _ _ _ _ (by omega) (by omega) (by omega) (by omega) (by omega)),hy⟩
  ·show _ = _∧_
   exact ⟨rfl,d1,hp1,hs1.ent ee⟩
 ·obtain ⟨d',hp',hs1⟩ := hP
  show Cd _ _ _
  exact Cd.t rfl (k d' _ hp' hs1)
end Go.Proofs.Ytoogdnemkfbgdaa

set_option linter.unusedVariables false
set_option linter.unusedSimpArgs false
namespace Go.Proofs.Ytoogdnemkfbgdaa
open Go Go.CM
attribute [local irreducible] AsBool AsWant AsNat AsInt AsCnt AsPtr AsSlc AsLen AsStr AsAgg AsTup AsFn AsIfc Nth Sc NotNil IsNil Must Cd codeW funW Sat SatL wrapN subM mkRow ltZ leZ ltN leN
attribute [local irreducible] isFunT
variable {con : CallT}
theorem notB_not (b : Bool) : notB b = !b := by cases b <;> rfl
theorem scanUp_go {p : E3→Bool} {d : Array E3} {i j : Nat} (h : i ≤ j) (hp : p d[i]! = true) : Sort.scanUp p d j i = Sort.scanUp p d j (i + 1) := by
 rw [Sort.scanUp,if_pos (by rw [hp,decide_eq_true h]; rfl)]
theorem scanUp_stop {p : E3→Bool} {d : Array E3} {i j : Nat} (hp : p d[i]! = false) : Sort.scanUp p d j i = i := by
 rw [Sort.scanUp,if_neg (by rw [hp,Bool.and_false]; exact Bool.false_ne_true)]
theorem scanUp_over {p : E3→Bool} {d : Array E3} {i j : Nat} (h : j < i) : Sort.scanUp p d j i = i := by
 rw [Sort.scanUp,if_neg (by rw [decide_eq_false (by omega),Bool.false_and]; exact Bool.false_ne_true)]
theorem scanDown_go {p : E3→Bool} {d : Array E3} {i j : Nat} (h0 : 0 < j) (h : i ≤ j) (hp : p d[j]! = true) : Sort.scanDown p d i j = Sort.scanDown p d i (j - 1) := by
 obtain ⟨j,rfl⟩ : ∃ m,j = m + 1 := ⟨j - 1,by omega⟩
 rw [Sort.scanDown,if_pos (by rw [hp,decide_eq_true h]; rfl)]; rfl
theorem scanDown_stop {p : E3→Bool} {d : Array E3} {i j : Nat} (hp : p d[j]! = false) : Sort.scanDown p d i j = j := by
 cases j with
 | zero => rfl
 | succ j => rw [Sort.scanDown,if_neg (by rw [hp,Bool.and_false]; exact Bool.false_ne_true)]
theorem scanDown_over {p : E3→Bool} {d : Array E3} {i j : Nat} (h : j < i) : Sort.scanDown p d i j = j := by
 cases j with
 | zero => rfl
 | succ j => rw [Sort.scanDown,if_neg (by rw [decide_eq_false (by omega),Bool.false_and]; exact Bool.false_ne_true)]
theorem partLoop_facts (a : Nat) : ∀ (m i j : Nat) (d : Array E3),j + 1 - i ≤ m→(Sort.partLoop ltE a i j d).1 ≤ j∧(Sort.partLoop ltE a i j d).2.size = d.size := by
 intro m
 induction m with
 | zero =>
  intro i j d hm
  rw [Sort.partLoop_eq,scanUp_over (by omega),scanDown_over (by omega),if_pos (by omega)]
  exact ⟨Nat.le_refl _,rfl⟩
 | succ m ih =>
  intro i j d hm
  have g1 := Sort.scanUp_ge (fun x => ltE x d[a]!) d j i
  have g2 := Sort.scanDown_le (fun x => !ltE x d[a]!) d (Sort.scanUp (fun x => ltE x d[a]!) d j i) j
  rw [Sort.partLoop_eq]
  generalize Sort.scanUp (fun x => ltE x d[a]!) d j i = i2 at *
  generalize Sort.scanDown (fun x => !ltE x d[a]!) d i2 j = j2 at *
  by_cases h : i2 > j2
  ·rw [if_pos h]
   exact ⟨g2,rfl⟩
  ·rw [if_neg h]
   have := ih (i2 + 1) (j2 - 1) (Sort.swp d i2 j2) (by omega)
   exact ⟨by omega,by rw [this.2,Sort.size_swp]⟩
theorem partEqB_ok (hc : Con con lives) {R : List HP} {H : CH} {b e s a n i j : Nat} {d : Array E3} {σ : TF} {Q : KX} (hs : Sat (RowE b e s d::R) H) (hn : d.size = n) (hn2 : n ≤ 1000000) (ha : a < n) (hj : j < n)
  (e0 : σ 0 = slc b 0 n n) (e1 : σ 1 = iN a∧σ 4 = fnv) (ei : σ 11 = iN i) (ej : σ 12 = iN j)
  (k : ∀ σ1 H1,σ1 0 = slc b 0 n n→(σ1 1 = iN a∧σ1 4 = fnv)→σ1 11 = iN (Sort.scanUp (fun x => !ltE d[a]! x) d j i)→σ1 12 = iN j→Sat (RowE b e s d::R) H1→Q (.exit 2) σ1 H1) :
  LoopC Try.prog con (lpAt Try.prog 80 1) σ H Q := by
 refine LoopC.indP (n := 200) (id := 2) (fun σ1 H1 => σ1 0 = slc b 0 n n∧(σ1 1 = iN a∧σ1 4 = fnv)∧σ1 11 = iN (Sort.scanUp (fun x => !ltE d[a]! x) d j i)∧σ1 12 = iN j∧Sat (RowE b e s d::R) H1) (by kernel_rfl)
  (fun (x : Nat) σ1 H1 => Sort.scanUp (fun x => !ltE d[a]! x) d j x = Sort.scanUp (fun x => !ltE d[a]! x) d j i∧σ1 0 = slc b 0 n n∧(σ1 1 = iN a∧σ1 4 = fnv)∧σ1 11 = iN x∧σ1 12 = iN j∧Sat (RowE b e s d::R) H1)
  (fun x => j + 1 - x) (fun x σ1 H1 hI => ?_) (fun σ1 H1 hP => ?_) i _ _ ⟨rfl,e0,e1,ei,ej,hs⟩
 ·obtain ⟨hx,a0,a1,ai,aj,hs1⟩ := hI
  rw [partEqB_W]
  simp only [ai,aj,a0,a1]
  repeat (refine gO ?_; intros)
  by_cases h : x ≤ j
  ·refine Cd.t (leZ_t h) ?_
   repeat (refine gO ?_; intros)
   refine Must.mk (ltN_t (by omega)) (ldE hs1 (by omega) ?_)
   repeat (refine gO ?_; intros)
   refine Must.mk (ltN_t (by omega)) (ldE hs1 (by omega) ?_)
   repeat (refine gO ?_; intros)
   try refine Must.mk fnE ?_
   refine cmpE_ok hc hs1 fun _ hs1 => ?_
   repeat (refine gO ?_; intros)
   rw [cmpZ_lt]
   repeat (refine gO ?_; intros)
   try rw [notB_not]
   by_cases hp : (fun x => !ltE d[a]! x) d[x]! = true
   ·refine Cd.t hp ?_
    repeat (refine gO ?_; intros)
    try rw [addInt]
    refine inR_nat (by omega) ?_
    repeat (refine gO ?_; intros)
    show ∃ y,_∧_
    exact ⟨x + 1,by omega,(scanUp_go (p := (fun x => !ltE d[a]! x)) h hp).symm.trans hx,a0,a1,rfl,aj,hs1⟩
   ·have hp := Bool.eq_false_iff.2 hp
    refine Cd.f hp ?_
    show _ = _∧_
    exact ⟨rfl,a0,a1,by rw [← hx,scanUp_stop (p := (fun x => !ltE d[a]! x)) hp]; exact ai,aj,hs1⟩
  ·refine Cd.f (leZ_f (by omega)) ?_
   show _ = _∧_
   exact ⟨rfl,a0,a1,by rw [← hx,scanUp_over (by omega)]; exact ai,aj,hs1⟩
 ·obtain ⟨a0,a1,ai,aj,hs1⟩ := hP
  exact k σ1 H1 a0 a1 ai aj hs1
theorem partEqC_ok (hc : Con con lives) {R : List HP} {H : CH} {b e s a n i j : Nat} {d : Array E3} {σ : TF} {Q : KX} (hs : Sat (RowE b e s d::R) H) (hn : d.size = n) (hn2 : n ≤ 1000000) (ha : a < n) (hj : j < n) (hi : 0 < i)
  (e0 : σ 0 = slc b 0 n n) (e1 : σ 1 = iN a∧σ 4 = fnv) (ei : σ 11 = iN i) (ej : σ 12 = iN j)
  (k : ∀ σ1 H1,σ1 0 = slc b 0 n n→(σ1 1 = iN a∧σ1 4 = fnv)→σ1 11 = iN i→σ1 12 = iN (Sort.scanDown (fun x => ltE d[a]! x) d i j)→Sat (RowE b e s d::R) H1→Q (.exit 4) σ1 H1) :
  LoopC Try.prog con (lpAt Try.prog 80 2) σ H Q := by
 refine LoopC.indP (n := 200) (id := 4) (fun σ1 H1 => σ1 0 = slc b 0 n n∧(σ1 1 = iN a∧σ1 4 = fnv)∧σ1 11 = iN i∧σ1 12 = iN (Sort.scanDown (fun x => ltE d[a]! x) d i j)∧Sat (RowE b e s d::R) H1) (by kernel_rfl)
  (fun (x : Nat) σ1 H1 => x < n∧Sort.scanDown (fun x => ltE d[a]! x) d i x = Sort.scanDown (fun x => ltE d[a]! x) d i j∧σ1 0 = slc b 0 n n∧(σ1 1 = iN a∧σ1 4 = fnv)∧σ1 11 = iN i∧σ1 12 = iN x∧Sat (RowE b e s d::R) H1)
  (fun x => x) (fun x σ1 H1 hI => ?_) (fun σ1 H1 hP => ?_) j _ _ ⟨hj,rfl,e0,e1,ei,ej,hs⟩
 ·obtain ⟨hxn,hx,a0,a1,ai,aj,hs1⟩ := hI
  rw [partEqC_W]
  simp only [ai,aj,a0,a1]
  repeat (refine gO ?_; intros)
  by_cases h : i ≤ x
  ·refine Cd.t (leZ_t h) ?_
   repeat (refine gO ?_; intros)
   refine Must.mk (ltN_t (by omega)) (ldE hs1 (by omega) ?_)
   repeat (refine gO ?_; intros)
   refine Must.mk (ltN_t (by omega)) (ldE hs1 (by omega) ?_)
   repeat (refine gO ?_; intros)
   try refine Must.mk fnE ?_
   refine cmpE_ok hc hs1 fun _ hs1 => ?_
   repeat (refine gO ?_; intros)
   rw [cmpZ_lt]
   repeat (refine gO ?_; intros)
   try rw [notB_not]
   by_cases hp : (fun x => ltE d[a]! x) d[x]! = true
   ·refine Cd.t hp ?_
    repeat (refine gO ?_; intros)
    rw [subInt (by omega)]
    refine inR_nat (by omega) ?_
    repeat (refine gO ?_; intros)
    show ∃ y,_∧_
    exact ⟨x - 1,by omega,by omega,(scanDown_go (p := (fun x => ltE d[a]! x)) (by omega) h hp).symm.trans hx,a0,a1,ai,rfl,hs1⟩
   ·have hp := Bool.eq_false_iff.2 hp
    refine Cd.f hp ?_
    show _ = _∧_
    exact ⟨rfl,a0,a1,ai,by rw [← hx,scanDown_stop (p := (fun x => ltE d[a]! x)) hp]; exact aj,hs1⟩
  ·refine Cd.f (leZ_f (by omega)) ?_
   show _ = _∧_
   exact ⟨rfl,a0,a1,ai,by rw [← hx,scanDown_over (by omega)]; exact aj,hs1⟩
 ·obtain ⟨a0,a1,ai,aj,hs1⟩ := hP
  exact k σ1 H1 a0 a1 ai aj hs1
theorem partOrdA_ok (hc : Con con lives) {R : List HP} {H : CH} {b e s a n i j : Nat} {d : Array E3} {σ : TF} {Q : KX} (hs : Sat (RowE b e s d::R) H) (hn : d.size = n) (hn2 : n ≤ 1000000) (ha : a < n) (hj : j < n)
  (e0 : σ 0 = slc b 0 n n) (e1 : σ 1 = iN a∧σ 4 = fnv) (ei : σ 12 = iN i) (ej : σ 13 = iN j)
  (k : ∀ σ1 H1,σ1 0 = slc b 0 n n→(σ1 1 = iN a∧σ1 4 = fnv)→σ1 12 = iN (Sort.scanUp (fun x => ltE x d[a]!) d j i)→σ1 13 = iN j→Sat (RowE b e s d::R) H1→Q (.exit 0) σ1 H1) :
  LoopC Try.prog con (lpAt Try.prog 81 0) σ H Q := by
 refine LoopC.indP (n := 200) (id := 0) (fun σ1 H1 => σ1 0 = slc b 0 n n∧(σ1 1 = iN a∧σ1 4 = fnv)∧σ1 12 = iN (Sort.scanUp (fun x => ltE x d[a]!) d j i)∧σ1 13 = iN j∧Sat (RowE b e s d::R) H1) (by kernel_rfl)
  (fun (x : Nat) σ1 H1 => Sort.scanUp (fun x => ltE x d[a]!) d j x = Sort.scanUp (fun x => ltE x d[a]!) d j i∧σ1 0 = slc b 0 n n∧(σ1 1 = iN a∧σ1 4 = fnv)∧σ1 12 = iN x∧σ1 13 = iN j∧Sat (RowE b e s d::R) H1)
  (fun x => j + 1 - x) (fun x σ1 H1 hI => ?_) (fun σ1 H1 hP => ?_) i _ _ ⟨rfl,e0,e1,ei,ej,hs⟩
 ·obtain ⟨hx,a0,a1,ai,aj,hs1⟩ := hI
  rw [partOrdA_W]
  simp only [ai,aj,a0,a1]
  repeat (refine gO ?_; intros)
  by_cases h : x ≤ j
  ·refine Cd.t (leZ_t h) ?_
   repeat (refine gO ?_; intros)
   refine Must.mk (ltN_t (by omega)) (ldE hs1 (by omega) ?_)
   repeat (refine gO ?_; intros)
   refine Must.mk (ltN_t (by omega)) (ldE hs1 (by omega) ?_)
   repeat (refine gO ?_; intros)
   try refine Must.mk fnE ?_
   refine cmpE_ok hc hs1 fun _ hs1 => ?_
   repeat (refine gO ?_; intros)
   rw [cmpZ_lt]
   repeat (refine gO ?_; intros)
   try rw [notB_not]
   by_cases hp : (fun x => ltE x d[a]!) d[x]! = true
   ·refine Cd.t hp ?_
    repeat (refine gO ?_; intros)
    try rw [addInt]
    refine inR_nat (by omega) ?_
    repeat (refine gO ?_; intros)
    show ∃ y,_∧_
    exact ⟨x + 1,by omega,(scanUp_go (p := (fun x => ltE x d[a]!)) h hp).symm.trans hx,a0,a1,rfl,aj,hs1⟩
   ·have hp := Bool.eq_false_iff.2 hp
    refine Cd.f hp ?_
    show _ = _∧_
    exact ⟨rfl,a0,a1,by rw [← hx,scanUp_stop (p := (fun x => ltE x d[a]!)) hp]; exact ai,aj,hs1⟩
  ·refine Cd.f (leZ_f (by omega)) ?_
   show _ = _∧_
   exact ⟨rfl,a0,a1,by rw [← hx,scanUp_over (by omega)]; exact ai,aj,hs1⟩
 ·obtain ⟨a0,a1,ai,aj,hs1⟩ := hP
  exact k σ1 H1 a0 a1 ai aj hs1
theorem partOrdB_ok (hc : Con con lives) {R : List HP} {H : CH} {b e s a n i j : Nat} {d : Array E3} {σ : TF} {Q : KX} (hs : Sat (RowE b e s d::R) H) (hn : d.size = n) (hn2 : n ≤ 1000000) (ha : a < n) (hj : j < n) (hi : 0 < i)
  (e0 : σ 0 = slc b 0 n n) (e1 : σ 1 = iN a∧σ 4 = fnv) (ei : σ 12 = iN i) (ej : σ 13 = iN j)
  (k : ∀ σ1 H1,σ1 0 = slc b 0 n n→(σ1 1 = iN a∧σ1 4 = fnv)→σ1 12 = iN i→σ1 13 = iN (Sort.scanDown (fun x => !ltE x d[a]!) d i j)→Sat (RowE b e s d::R) H1→Q (.exit 2) σ1 H1) :
  LoopC Try.prog con (lpAt Try.prog 81 1) σ H Q := by
 refine LoopC.indP (n := 200) (id := 2) (fun σ1 H1 => σ1 0 = slc b 0 n n∧(σ1 1 = iN a∧σ1 4 = fnv)∧σ1 12 = iN i∧σ1 13 = iN (Sort.scanDown (fun x => !ltE x d[a]!) d i j)∧Sat (RowE b e s d::R) H1) (by kernel_rfl)
  (fun (x : Nat) σ1 H1 => x < n∧Sort.scanDown (fun x => !ltE x d[a]!) d i x = Sort.scanDown (fun x => !ltE x d[a]!) d i j∧σ1 0 = slc b 0 n n∧(σ1 1 = iN a∧σ1 4 = fnv)∧σ1 12 = iN i∧σ1 13 = iN x∧Sat (RowE b e s d::R) H1)
  (fun x => x) (fun x σ1 H1 hI => ?_) (fun σ1 H1 hP => ?_) j _ _ ⟨hj,rfl,e0,e1,ei,ej,hs⟩
 ·obtain ⟨hxn,hx,a0,a1,ai,aj,hs1⟩ := hI
  rw [partOrdB_W]
  simp only [ai,aj,a0,a1]
  repeat (refine gO ?_; intros)
  by_cases h : i ≤ x
  ·refine Cd.t (leZ_t h) ?_
   repeat (refine gO ?_; intros)
   refine Must.mk (ltN_t (by omega)) (ldE hs1 (by omega) ?_)
   repeat (refine gO ?_; intros)
   refine Must.mk (ltN_t (by omega)) (ldE hs1 (by omega) ?_)
   repeat (refine gO ?_; intros)
   try refine Must.mk fnE ?_
   refine cmpE_ok hc hs1 fun _ hs1 => ?_
   repeat (refine gO ?_; intros)
   rw [cmpZ_lt]
   repeat (refine gO ?_; intros)
   try rw [notB_not]
   by_cases hp : (fun x => !ltE x d[a]!) d[x]! = true
   ·refine Cd.t hp ?_
    repeat (refine gO ?_; intros)
    rw [subInt (by omega)]
    refine inR_nat (by omega) ?_
    repeat (refine gO ?_; intros)
    show ∃ y,_∧_
    exact ⟨x - 1,by omega,by omega,(scanDown_go (p := (fun x => !ltE x d[a]!)) (by omega) h hp).symm.trans hx,a0,a1,ai,rfl,hs1⟩
   ·have hp := Bool.eq_false_iff.2 hp
    refine Cd.f hp ?_
    show _ = _∧_
    exact ⟨rfl,a0,a1,ai,by rw [← hx,scanDown_stop (p := (fun x => !ltE x d[a]!)) hp]; exact aj,hs1⟩
  ·refine Cd.f (leZ_f (by omega)) ?_
   show _ = _∧_
   exact ⟨rfl,a0,a1,ai,by rw [← hx,scanDown_over (by omega)]; exact aj,hs1⟩
 ·obtain ⟨a0,a1,ai,aj,hs1⟩ := hP
  exact k σ1 H1 a0 a1 ai aj hs1
theorem partOrdD_ok (hc : Con con lives) {R : List HP} {H : CH} {b e s a n i j : Nat} {d : Array E3} {σ : TF} {Q : KX} (hs : Sat (RowE b e s d::R) H) (hn : d.size = n) (hn2 : n ≤ 1000000) (ha : a < n) (hj : j < n)
  (e0 : σ 0 = slc b 0 n n) (e1 : σ 1 = iN a∧σ 4 = fnv) (ei : σ 12 = iN i) (ej : σ 13 = iN j)
  (k : ∀ σ1 H1,σ1 0 = slc b 0 n n→(σ1 1 = iN a∧σ1 4 = fnv)→σ1 12 = iN (Sort.scanUp (fun x => ltE x d[a]!) d j i)→σ1 13 = iN j→Sat (RowE b e s d::R) H1→Q (.exit 6) σ1 H1) :
  LoopC Try.prog con (lpAt Try.prog 81 3) σ H Q := by
 refine LoopC.indP (n := 200) (id := 6) (fun σ1 H1 => σ1 0 = slc b 0 n n∧(σ1 1 = iN a∧σ1 4 = fnv)∧σ1 12 = iN (Sort.scanUp (fun x => ltE x d[a]!) d j i)∧σ1 13 = iN j∧Sat (RowE b e s d::R) H1) (by kernel_rfl)
  (fun (x : Nat) σ1 H1 => Sort.scanUp (fun x => ltE x d[a]!) d j x = Sort.scanUp (fun x => ltE x d[a]!) d j i∧σ1 0 = slc b 0 n n∧(σ1 1 = iN a∧σ1 4 = fnv)∧σ1 12 = iN x∧σ1 13 = iN j∧Sat (RowE b e s d::R) H1)
  (fun x => j + 1 - x) (fun x σ1 H1 hI => ?_) (fun σ1 H1 hP => ?_) i _ _ ⟨rfl,e0,e1,ei,ej,hs⟩
 ·obtain ⟨hx,a0,a1,ai,aj,hs1⟩ := hI
  rw [partOrdD_W]
  simp only [ai,aj,a0,a1]
  repeat (refine gO ?_; intros)
  by_cases h : x ≤ j
  ·refine Cd.t (leZ_t h) ?_
   repeat (refine gO ?_; intros)
   refine Must.mk (ltN_t (by omega)) (ldE hs1 (by omega) ?_)
   repeat (refine gO ?_; intros)
   refine Must.mk (ltN_t (by omega)) (ldE hs1 (by omega) ?_)
   repeat (refine gO ?_; intros)
   try refine Must.mk fnE ?_
   refine cmpE_ok hc hs1 fun _ hs1 => ?_
   repeat (refine gO ?_; intros)
   rw [cmpZ_lt]
   repeat (refine gO ?_; intros)
   try rw [notB_not]
   by_cases hp : (fun x => ltE x d[a]!) d[x]! = true
   ·refine Cd.t hp ?_
    repeat (refine gO ?_; intros)
    try rw [addInt]
    refine inR_nat (by omega) ?_
    repeat (refine gO ?_; intros)
    show ∃ y,_∧_
    exact ⟨x + 1,by omega,(scanUp_go (p := (fun x => ltE x d[a]!)) h hp).symm.trans hx,a0,a1,rfl,aj,hs1⟩
   ·have hp := Bool.eq_false_iff.2 hp
    refine Cd.f hp ?_
    show _ = _∧_
    exact ⟨rfl,a0,a1,by rw [← hx,scanUp_stop (p := (fun x => ltE x d[a]!)) hp]; exact ai,aj,hs1⟩
  ·refine Cd.f (leZ_f (by omega)) ?_
   show _ = _∧_
   exact ⟨rfl,a0,a1,by rw [← hx,scanUp_over (by omega)]; exact ai,aj,hs1⟩
 ·obtain ⟨a0,a1,ai,aj,hs1⟩ := hP
  exact k σ1 H1 a0 a1 ai aj hs1
theorem partOrdE_ok (hc : Con con lives) {R : List HP} {H : CH} {b e s a n i j : Nat} {d : Array E3} {σ : TF} {Q : KX} (hs : Sat (RowE b e s d::R) H) (hn : d.size = n) (hn2 : n ≤ 1000000) (ha : a < n) (hj : j < n) (hi : 0 < i)
  (e0 : σ 0 = slc b 0 n n) (e1 : σ 1 = iN a∧σ 4 = fnv) (ei : σ 12 = iN i) (ej : σ 13 = iN j)
  (k : ∀ σ1 H1,σ1 0 = slc b 0 n n→(σ1 1 = iN a∧σ1 4 = fnv)→σ1 12 = iN i→σ1 13 = iN (Sort.scanDown (fun x => !ltE x d[a]!) d i j)→Sat (RowE b e s d::R) H1→Q (.exit 8) σ1 H1) :
  LoopC Try.prog con (lpAt Try.prog 81 4) σ H Q := by
 refine LoopC.indP (n := 200) (id := 8) (fun σ1 H1 => σ1 0 = slc b 0 n n∧(σ1 1 = iN a∧σ1 4 = fnv)∧σ1 12 = iN i∧σ1 13 = iN (Sort.scanDown (fun x => !ltE x d[a]!) d i j)∧Sat (RowE b e s d::R) H1) (by kernel_rfl)
  (fun (x : Nat) σ1 H1 => x < n∧Sort.scanDown (fun x => !ltE x d[a]!) d i x = Sort.scanDown (fun x => !ltE x d[a]!) d i j∧σ1 0 = slc b 0 n n∧(σ1 1 = iN a∧σ1 4 = fnv)∧σ1 12 = iN i∧σ1 13 = iN x∧Sat (RowE b e s d::R) H1)
  (fun x => x) (fun x σ1 H1 hI => ?_) (fun σ1 H1 hP => ?_) j _ _ ⟨hj,rfl,e0,e1,ei,ej,hs⟩
 ·obtain ⟨hxn,hx,a0,a1,ai,aj,hs1⟩ := hI
  rw [partOrdE_W]
  simp only [ai,aj,a0,a1]
  repeat (refine gO ?_; intros)
  by_cases h : i ≤ x
  ·refine Cd.t (leZ_t h) ?_
   repeat (refine gO ?_; intros)
   refine Must.mk (ltN_t (by omega)) (ldE hs1 (by omega) ?_)
   repeat (refine gO ?_; intros)
   refine Must.mk (ltN_t (by omega)) (ldE hs1 (by omega) ?_)
   repeat (refine gO ?_; intros)
   try refine Must.mk fnE ?_
   refine cmpE_ok hc hs1 fun _ hs1 => ?_
   repeat (refine gO ?_; intros)
   rw [cmpZ_lt]
   repeat (refine gO ?_; intros)
   try rw [notB_not]
   by_cases hp : (fun x => !ltE x d[a]!) d[x]! = true
   ·refine Cd.t hp ?_
    repeat (refine gO ?_; intros)
    rw [subInt (by omega)]
    refine inR_nat (by omega) ?_
    repeat (refine gO ?_; intros)
    show ∃ y,_∧_
    exact ⟨x - 1,by omega,by omega,(scanDown_go (p := (fun x => !ltE x d[a]!)) (by omega) h hp).symm.trans hx,a0,a1,ai,rfl,hs1⟩
   ·have hp := Bool.eq_false_iff.2 hp
    refine Cd.f hp ?_
    show _ = _∧_
    exact ⟨rfl,a0,a1,ai,by rw [← hx,scanDown_stop (p := (fun x => !ltE x d[a]!)) hp]; exact aj,hs1⟩
  ·refine Cd.f (leZ_f (by omega)) ?_
   show _ = _∧_
   exact ⟨rfl,a0,a1,ai,by rw [← hx,scanDown_over (by omega)]; exact aj,hs1⟩
 ·obtain ⟨a0,a1,ai,aj,hs1⟩ := hP
  exact k σ1 H1 a0 a1 ai aj hs1
theorem partEqLp (hc : Con con lives) {R : List HP} {H : CH} {b e s a n i j : Nat} {d : Array E3} {σ : TF} {Q : KX} (hs : Sat (RowE b e s d::R) H) (hn : d.size = n) (hn2 : n ≤ 1000000) (hai : a < i) (ha : a < n) (hj : j < n)
  (e0 : σ 0 = slc b 0 n n) (e1 : σ 1 = iN a∧σ 4 = fnv) (ei : σ 11 = iN i) (ej : σ 12 = iN j)
  (k : ∀ σ1 H1,σ1 0 = slc b 0 n n→(σ1 1 = iN a∧σ1 4 = fnv)→σ1 11 = iN (Sort.partEqLoop ltE a i j d).1→Sat (RowE b e s (Sort.partEqLoop ltE a i j d).2::R) H1→Q (.exit 0) σ1 H1) :
  LoopC Try.prog con (lpAt Try.prog 80 0) σ H Q := by
 refine LoopC.indP (n := 200) (id := 0) (fun σ1 H1 => σ1 0 = slc b 0 n n∧(σ1 1 = iN a∧σ1 4 = fnv)∧σ1 11 = iN (Sort.partEqLoop ltE a i j d).1∧Sat (RowE b e s (Sort.partEqLoop ltE a i j d).2::R) H1) (by kernel_rfl)
  (fun (x : Nat × Nat) σ1 H1 => a < x.1∧x.2 < n∧σ1 0 = slc b 0 n n∧(σ1 1 = iN a∧σ1 4 = fnv)∧σ1 11 = iN x.1∧σ1 12 = iN x.2∧∃ d1,d1.size = n∧Sort.partEqLoop ltE a x.1 x.2 d1 = Sort.partEqLoop ltE a i j d∧Sat (RowE b e s d1::R) H1)
  (fun x => x.2 + 1 - x.1) (fun x σ1 H1 hI => ?_) (fun σ1 H1 hP => ?_) (i,j) _ _ ⟨hai,hj,e0,e1,ei,ej,d,hn,rfl,hs⟩
 ·obtain ⟨x,y⟩ := x
  obtain ⟨hax,hyn,a0,a1,ai,aj,d1,hd1,hl,hs1⟩ := hI
  have hax : a < x := hax
  have hyn : y < n := hyn
  rw [partEqA_W]
  have hq := Sort.partEqLoop_eq ltE a x y d1
  have g1 := Sort.scanUp_ge (fun x => !ltE d1[a]! x) d1 y x
  have g2 := Sort.scanDown_le (fun x => ltE d1[a]! x) d1 (Sort.scanUp (fun x => !ltE d1[a]! x) d1 y x) y
  refine partEqB_ok hc hs1 hd1 hn2 ha hyn a0 a1 ai aj fun σ2 H2 b0 b1 bi bj h2 => ?_
  show Cd _ _ _
  refine Cd.t rfl ?_
  have h0 : 0 < Sort.scanUp (fun x => !ltE d1[a]! x) d1 y x := Nat.lt_of_lt_of_le (by omega) g1
  refine partEqC_ok hc h2 hd1 hn2 ha hyn h0 b0 b1 bi bj fun σ3 H3 c0 c1 ci cj h3 => ?_
  show Cd _ _ _
  refine Cd.t rfl ?_
  clear h2 bi bj
  generalize Sort.scanUp (fun x => !ltE d1[a]! x) d1 y x = i2 at *
  generalize Sort.scanDown (fun x => ltE d1[a]! x) d1 i2 y = j2 at *
  simp only [ci,cj,c0,c1]
  repeat (refine gO ?_; intros)
  by_cases h : j2 < i2
  ·rw [if_pos h] at hq
   refine Cd.t (ltZ_t h) ?_
   show _ = _∧_
   exact ⟨rfl,c0,c1,by rw [← hl,hq]; exact ci,by rw [← hl,hq]; exact h3⟩
  ·rw [if_neg h] at hq
   refine Cd.f (ltZ_f (by omega)) ?_
   repeat (refine gO ?_; intros)
   refine Must.mk (ltN_t (by omega)) (ldE h3 (by omega) ?_)
   repeat (refine gO ?_; intros)
   refine Must.mk (ltN_t (by omega)) (ldE h3 (by omega) ?_)
   repeat (refine gO ?_; intros)
   refine Must.mk (ltN_t (by omega)) ?_
   repeat (refine gO ?_; intros)
   refine stE h3 (by omega) fun _ hx => ?_
   repeat (refine gO ?_; intros)
   refine Must.mk (ltN_t (by omega)) ?_
   repeat (refine gO ?_; intros)
   refine stE hx (by rw [Array.size_setIfInBounds]; omega) fun _ hy => ?_
   replace hy := swpE hy
   clear hx
   repeat (refine gO ?_; intros)
   try rw [addInt]
   refine inR_nat (by omega) ?_
   repeat (refine gO ?_; intros)
   rw [subInt (by omega)]
   refine inR_nat (by omega) ?_
   repeat (refine gO ?_; intros)
   show ∃ y,_∧_
   exact ⟨(i2 + 1,j2 - 1),by show j2 - 1 + 1 - (i2 + 1) < y + 1 - x; omega,by show a < i2 + 1; omega,by show j2 - 1 < n; omega,c0,c1,rfl,rfl,_,by rw [Sort.size_swp]; exact hd1,by rw [← hl,hq],hy⟩
 ·obtain ⟨a0,a1,ai,hs1⟩ := hP
  exact k σ1 H1 a0 a1 ai hs1
theorem partOrdLp (hc : Con con lives) {R : List HP} {H : CH} {b e s a n i j : Nat} {d : Array E3} {σ : TF} {Q : KX} (hs : Sat (RowE b e s d::R) H) (hn : d.size = n) (hn2 : n ≤ 1000000) (hai : a < i) (ha : a < n) (hj : j < n)
  (e0 : σ 0 = slc b 0 n n) (e1 : σ 1 = iN a∧σ 4 = fnv) (ei : σ 12 = iN i) (ej : σ 13 = iN j)
  (k : ∀ σ1 H1,σ1 0 = slc b 0 n n→(σ1 1 = iN a∧σ1 4 = fnv)→σ1 13 = iN (Sort.partLoop ltE a i j d).1→Sat (RowE b e s (Sort.partLoop ltE a i j d).2::R) H1→Q (.exit 4) σ1 H1) :
  LoopC Try.prog con (lpAt Try.prog 81 2) σ H Q := by
 refine LoopC.indP (n := 200) (id := 4) (fun σ1 H1 => σ1 0 = slc b 0 n n∧(σ1 1 = iN a∧σ1 4 = fnv)∧σ1 13 = iN (Sort.partLoop ltE a i j d).1∧Sat (RowE b e s (Sort.partLoop ltE a i j d).2::R) H1) (by kernel_rfl)
  (fun (x : Nat × Nat) σ1 H1 => a < x.1∧x.2 < n∧σ1 0 = slc b 0 n n∧(σ1 1 = iN a∧σ1 4 = fnv)∧σ1 12 = iN x.1∧σ1 13 = iN x.2∧∃ d1,d1.size = n∧Sort.partLoop ltE a x.1 x.2 d1 = Sort.partLoop ltE a i j d∧Sat (RowE b e s d1::R) H1)
  (fun x => x.2 + 1 - x.1) (fun x σ1 H1 hI => ?_) (fun σ1 H1 hP => ?_) (i,j) _ _ ⟨hai,hj,e0,e1,ei,ej,d,hn,rfl,hs⟩
 ·obtain ⟨x,y⟩ := x
  obtain ⟨hax,hyn,a0,a1,ai,aj,d1,hd1,hl,hs1⟩ := hI
  have hax : a < x := hax
  have hyn : y < n := hyn
  rw [partOrdC_W]
  have hq := Sort.partLoop_eq ltE a x y d1
  have g1 := Sort.scanUp_ge (fun x => ltE x d1[a]!) d1 y x
  have g2 := Sort.scanDown_le (fun x => !ltE x d1[a]!) d1 (Sort.scanUp (fun x => ltE x d1[a]!) d1 y x) y
  refine partOrdD_ok hc hs1 hd1 hn2 ha hyn a0 a1 ai aj fun σ2 H2 b0 b1 bi bj h2 => ?_
  show Cd _ _ _
  refine Cd.t rfl ?_
  have h0 : 0 < Sort.scanUp (fun x => ltE x d1[a]!) d1 y x := Nat.lt_of_lt_of_le (by omega) g1
  refine partOrdE_ok hc h2 hd1 hn2 ha hyn h0 b0 b1 bi bj fun σ3 H3 c0 c1 ci cj h3 => ?_
  show Cd _ _ _
  refine Cd.t rfl ?_
  clear h2 bi bj
  generalize Sort.scanUp (fun x => ltE x d1[a]!) d1 y x = i2 at *
  generalize Sort.scanDown (fun x => !ltE x d1[a]!) d1 i2 y = j2 at *
  simp only [ci,cj,c0,c1]
  repeat (refine gO ?_; intros)
  by_cases h : j2 < i2
  ·rw [if_pos h] at hq
   refine Cd.t (ltZ_t h) ?_
   show _ = _∧_
   exact ⟨rfl,c0,c1,by rw [← hl,hq]; exact cj,by rw [← hl,hq]; exact h3⟩
  ·rw [if_neg h] at hq
   refine Cd.f (ltZ_f (by omega)) ?_
   repeat (refine gO ?_; intros)
   refine Must.mk (ltN_t (by omega)) (ldE h3 (by omega) ?_)
   repeat (refine gO ?_; intros)
   refine Must.mk (ltN_t (by omega)) (ldE h3 (by omega) ?_)
   repeat (refine gO ?_; intros)
   refine Must.mk (ltN_t (by omega)) ?_
   repeat (refine gO ?_; intros)
   refine stE h3 (by omega) fun _ hx => ?_
   repeat (refine gO ?_; intros)
   refine Must.mk (ltN_t (by omega)) ?_
   repeat (refine gO ?_; intros)
   refine stE hx (by rw [Array.size_setIfInBounds]; omega) fun _ hy => ?_
   replace hy := swpE hy
   clear hx
   repeat (refine gO ?_; intros)
   try rw [addInt]
   refine inR_nat (by omega) ?_
   repeat (refine gO ?_; intros)
   rw [subInt (by omega)]
   refine inR_nat (by omega) ?_
   repeat (refine gO ?_; intros)
   show ∃ y,_∧_
   exact ⟨(i2 + 1,j2 - 1),by show j2 - 1 + 1 - (i2 + 1) < y + 1 - x; omega,by show a < i2 + 1; omega,by show j2 - 1 < n; omega,c0,c1,rfl,rfl,_,by rw [Sort.size_swp]; exact hd1,by rw [← hl,hq],hy⟩
 ·obtain ⟨a0,a1,ai,hs1⟩ := hP
  exact k σ1 H1 a0 a1 ai hs1
theorem partEq_ok (hc : Con con lives) {L R : List HP} {H : CH} {b e s a z p n : Nat} {d : Array E3} {K : KP} (hs : Sat L H) (hp : Pull L (RowE b e s d) R) (hn : d.size = n) (hn2 : n ≤ 1000000) (hab : a < z) (hz : z ≤ n) (hpp : p < n)
  (k : ∀ H1,Sat (RowE b e s (Sort.partitionEqual ltE d a z p).2::R) H1→K (iN (Sort.partitionEqual ltE d a z p).1) H1) : Call1 Try.prog con 80 [slc b 0 n n,iN a,iN z,iN p,fnv] H K := by
 refine call_of (hc _ _ _ rfl) ?_
 rw [partEq_W]
 have hs0 := hs.pull hp
 clear hs hp
 repeat (refine gO ?_; intros)
 refine Must.mk (ltN_t (by omega)) (ldE hs0 (by omega) ?_)
 repeat (refine gO ?_; intros)
 refine Must.mk (ltN_t (by omega)) (ldE hs0 (by omega) ?_)
 repeat (refine gO ?_; intros)
 refine Must.mk (ltN_t (by omega)) ?_
 repeat (refine gO ?_; intros)
 refine stE hs0 (by omega) fun _ hx => ?_
 repeat (refine gO ?_; intros)
 refine Must.mk (ltN_t (by omega)) ?_
 repeat (refine gO ?_; intros)
 refine stE hx (by rw [Array.size_setIfInBounds]; omega) fun _ hy => ?_
 replace hy := swpE hy
 clear hx
 repeat (refine gO ?_; intros)
 try rw [addInt]
 refine inR_nat (by omega) ?_
 repeat (refine gO ?_; intros)
 rw [subInt (by omega)]
 refine inR_nat (by omega) ?_
 repeat (refine gO ?_; intros)
 refine partEqLp (a := a) hc hy (by rw [Sort.size_swp]; exact hn) hn2 (by omega) (by omega) (by omega) rfl ⟨rfl,rfl⟩ rfl rfl fun σ1 H1 a0 a1 ai h1 => ?_
 show Cd _ _ _
 refine Cd.t rfl ?_
 rw [ai]
 exact k _ h1
theorem partOrd_ok (hc : Con con lives) {L R : List HP} {H : CH} {b e s a z p n : Nat} {d : Array E3} {K : KP} (hs : Sat L H) (hp : Pull L (RowE b e s d) R) (hn : d.size = n) (hn2 : n ≤ 1000000) (hap : a ≤ p) (hpz : p < z) (hz : z ≤ n)
  (k : ∀ H1,Sat (RowE b e s (Sort.partition ltE d a z p).2.2::R) H1→K (.tuple ⟨[iN (Sort.partition ltE d a z p).1,.bool (Sort.partition ltE d a z p).2.1]⟩) H1) : Call1 Try.prog con 81 [slc b 0 n n,iN a,iN z,iN p,fnv] H K := by
 refine call_of (hc _ _ _ rfl) ?_
 rw [partOrd_W]
 have hs0 := hs.pull hp
 clear hs hp
 repeat (refine gO ?_; intros)
 refine Must.mk (ltN_t (by omega)) (ldE hs0 (by omega) ?_)
 repeat (refine gO ?_; intros)
 refine Must.mk (ltN_t (by omega)) (ldE hs0 (by omega) ?_)
 repeat (refine gO ?_; intros)
 refine Must.mk (ltN_t (by omega)) ?_
 repeat (refine gO ?_; intros)
 refine stE hs0 (by omega) fun _ hx => ?_
 repeat (refine gO ?_; intros)
 refine Must.mk (ltN_t (by omega)) ?_
 repeat (refine gO ?_; intros)
 refine stE hx (by rw [Array.size_setIfInBounds]; omega) fun _ hy => ?_
 replace hy := swpE hy
 clear hx
 repeat (refine gO ?_; intros)
 try rw [addInt]
 refine inR_nat (by omega) ?_
 repeat (refine gO ?_; intros)
 rw [subInt (by omega)]
 refine inR_nat (by omega) ?_
 repeat (refine gO ?_; intros)
 have hd1 : (Sort.swp d a p).size = n := by rw [Sort.size_swp]; exact hn
 unfold Sort.partition at k
 simp only [] at k
 clear hs0
 generalize Sort.swp d a p = d1 at *
 have g1 := Sort.scanUp_ge (fun x => ltE x d1[a]!) d1 (z - 1) (a + 1)
 have g2 := Sort.scanDown_le (fun x => !ltE x d1[a]!) d1 (Sort.scanUp (fun x => ltE x d1[a]!) d1 (z - 1) (a + 1)) (z - 1)
 refine partOrdA_ok (a := a) hc hy hd1 hn2 (by omega) (by omega) rfl ⟨rfl,rfl⟩ rfl rfl fun σ2 H2 b0 b1 bi bj h2 => ?_
 show Cd _ _ _
 refine Cd.t rfl ?_
 refine partOrdB_ok hc h2 hd1 hn2 (by omega) (by omega) (by omega) b0 b1 bi bj fun σ3 H3 c0 c1 ci cj h3 => ?_
 show Cd _ _ _
 refine Cd.t rfl ?_
 clear h2 bi bj hy
 have hj2 : Sort.scanUp (fun x => ltE x d1[a]!) d1 (z - 1) (a + 1) ≤ z := by
  have := (Sort.scanUp_spec (fun x => ltE x d1[a]!) d1 (z - 1) _ (a + 1) rfl).2.1 (by omega)
  omega
 generalize Sort.scanUp (fun x => ltE x d1[a]!) d1 (z - 1) (a + 1) = i2 at *
 generalize Sort.scanDown (fun x => !ltE x d1[a]!) d1 i2 (z - 1) = j2 at *
 simp only [ci,cj,c0,c1]
 repeat (refine gO ?_; intros)
 by_cases h : j2 < i2
 ·rw [if_pos (show i2 > j2 from h)] at k
  refine Cd.t (ltZ_t h) ?_
  repeat (refine gO ?_; intros)
  refine Must.mk (ltN_t (by omega)) (ldE h3 (by omega) ?_)
  repeat (refine gO ?_; intros)
  refine Must.mk (ltN_t (by omega)) (ldE h3 (by omega) ?_)
  repeat (refine gO ?_; intros)
  refine Must.mk (ltN_t (by omega)) ?_
  repeat (refine gO ?_; intros)
  refine stE h3 (by omega) fun _ hx => ?_
  repeat (refine gO ?_; intros)
  refine Must.mk (ltN_t (by omega)) ?_
  repeat (refine gO ?_; intros)
  refine stE hx (by rw [Array.size_setIfInBounds]; omega) fun _ hy => ?_
  replace hy := swpE hy
  clear hx
  repeat (refine gO ?_; intros)
  exact k _ hy
 ·rw [if_neg (show ¬ i2 > j2 from h)] at k
  refine Cd.f (ltZ_f (by omega)) ?_
  repeat (refine gO ?_; intros)
  refine Must.mk (ltN_t (by omega)) (ldE h3 (by omega) ?_)
  repeat (refine gO ?_; intros)
  refine Must.mk (ltN_t (by omega)) (ldE h3 (by omega) ?_)
  repeat (refine gO ?_; intros)
  refine Must.mk (ltN_t (by omega)) ?_
  repeat (refine gO ?_; intros)
  refine stE h3 (by omega) fun _ hx => ?_
  repeat (refine gO ?_; intros)
  refine Must.mk (ltN_t (by omega)) ?_
  repeat (refine gO ?_; intros)
  refine stE hx (by rw [Array.size_setIfInBounds]; omega) fun _ hy => ?_
  replace hy := swpE hy
  clear hx
  repeat (refine gO ?_; intros)
  try rw [addInt]
  refine inR_nat (by omega) ?_
  repeat (refine gO ?_; intros)
  rw [subInt (by omega)]
  refine inR_nat (by omega) ?_
  repeat (refine gO ?_; intros)
  have hd2 : (Sort.swp d1 i2 j2).size = n := by rw [Sort.size_swp]; exact hd1
  refine partOrdLp (a := a) (i := i2 + 1) (j := j2 - 1) hc hy hd2 hn2 (by omega) (by omega) (by omega) c0 c1 rfl rfl fun σ4 H4 q0 q1 qj h4 => ?_
  show Cd _ _ _
  refine Cd.t rfl ?_
  obtain ⟨hr1,hr2⟩ := partLoop_facts a _ (i2 + 1) (j2 - 1) (Sort.swp d1 i2 j2) (Nat.le_refl _)
  rw [hd2] at hr2
  simp only [q0,q1,qj]
  repeat (refine gO ?_; intros)
  refine Must.mk (ltN_t (by omega)) (ldE h4 (by omega) ?_)
  repeat (refine gO ?_; intros)
  refine Must.mk (ltN_t (by omega)) (ldE h4 (by omega) ?_)
  repeat (refine gO ?_; intros)
  refine Must.mk (ltN_t (by omega)) ?_
  repeat (refine gO ?_; intros)
  refine stE h4 (by omega) fun _ hx => ?_
  repeat (refine gO ?_; intros)
  refine Must.mk (ltN_t (by omega)) ?_
  repeat (refine gO ?_; intros)
  refine stE hx (by rw [Array.size_setIfInBounds]; omega) fun _ hy => ?_
  replace hy := swpE hy
  clear hx
  repeat (refine gO ?_; intros)
  exact k _ hy
end Go.Proofs.Ytoogdnemkfbgdaa

set_option linter.unusedVariables false
set_option linter.unusedSimpArgs false
namespace Go.Proofs.Ytoogdnemkfbgdaa
open Go Go.CM
attribute [local irreducible] AsBool AsWant AsNat AsInt AsCnt AsPtr AsSlc AsLen AsStr AsAgg AsTup AsFn AsIfc Nth Sc NotNil IsNil Must Cd codeW funW Sat SatL wrapN subM mkRow ltZ leZ ltN leN
attribute [local irreducible] isFunT
variable {con : CallT}
abbrev KeepP (σ1 : TF) (b n a z c : Nat) : Prop := σ1 0 = slc b 0 n n∧(σ1 1 = iN a∧σ1 3 = fnv)∧σ1 2 = iN z∧σ1 10 = iN c
theorem scanSorted_at {d : Array E3} {z x : Nat} : Sort.scanSorted ltE d z x = if (decide (x < z) && !ltE d[x]! d[x - 1]!) = true then Sort.scanSorted ltE d z (x + 1) else x := by rw [Sort.scanSorted]
theorem partInsB_ok (hc : Con con lives) {R : List HP} {H : CH} {b e s a z n i c : Nat} {d : Array E3} {σ : TF} {Q : KX} (hs : Sat (RowE b e s d::R) H) (hn : d.size = n) (hn2 : n ≤ 1000000) (hz : z ≤ n) (hi : 0 < i) (hiz : i ≤ z)
  (e0 : σ 0 = slc b 0 n n) (e1 : σ 1 = iN a∧σ 3 = fnv) (e2 : σ 2 = iN z) (e8 : σ 10 = iN c) (ei : σ 9 = iN i)
  (k : ∀ σ1 H1 y,Sort.scanSorted ltE d z i = y→i ≤ y→y ≤ z→σ1 0 = slc b 0 n n→(σ1 1 = iN a∧σ1 3 = fnv)→σ1 2 = iN z→σ1 10 = iN c→σ1 9 = iN y→Sat (RowE b e s d::R) H1→Q (.exit 2) σ1 H1) :
  LoopC Try.prog con (lpAt Try.prog 79 1) σ H Q := by
 refine LoopC.indP (n := 200) (id := 2) (fun σ1 H1 => ∃ y,Sort.scanSorted ltE d z i = y∧i ≤ y∧y ≤ z∧KeepP σ1 b n a z c∧σ1 9 = iN y∧Sat (RowE b e s d::R) H1) (by kernel_rfl)
  (fun (x : Nat) σ1 H1 => Sort.scanSorted ltE d z i = Sort.scanSorted ltE d z x∧i ≤ x∧x ≤ z∧KeepP σ1 b n a z c∧σ1 9 = iN x∧Sat (RowE b e s d::R) H1)
  (fun x => z - x) (fun x σ1 H1 hI => ?_) (fun σ1 H1 hP => ?_) i _ _ ⟨rfl,Nat.le_refl _,hiz,⟨e0,e1,e2,e8⟩,ei,hs⟩
 ·obtain ⟨hx,hix,hxz,⟨a0,a1,a2,a8⟩,a7,hs1⟩ := hI
  rw [partInsB_W]
  simp only [a7,a2,a0,a1]
  repeat (refine gO ?_; intros)
  by_cases h : x < z
  ·refine Cd.t (ltZ_t h) ?_
   repeat (refine gO ?_; intros)
   refine Must.mk (ltN_t (by omega)) (ldE hs1 (by omega) ?_)
   repeat (refine gO ?_; intros)
   rw [subInt (by omega)]
   refine inR_nat (by omega) ?_
   repeat (refine gO ?_; intros)
   refine Must.mk (ltN_t (by omega)) (ldE hs1 (by omega) ?_)
   repeat (refine gO ?_; intros)
   try refine Must.mk fnE ?_
   refine cmpE_ok hc hs1 fun _ hs1 => ?_
   repeat (refine gO ?_; intros)
   rw [cmpZ_lt]
   repeat (refine gO ?_; intros)
   rw [notB_not]
   rw [scanSorted_at (x := x),decide_eq_true h,Bool.true_and] at hx
   by_cases hp : (!ltE d[x]! d[x - 1]!) = true
   ·rw [if_pos hp] at hx
    refine Cd.t hp ?_
    repeat (refine gO ?_; intros)
    try rw [addInt]
    refine inR_nat (by omega) ?_
    repeat (refine gO ?_; intros)
    show ∃ y,_∧_
    exact ⟨x + 1,by omega,hx,by omega,by omega,⟨a0,a1,a2,a8⟩,rfl,hs1⟩
   ·rw [if_neg hp] at hx
    have hp := Bool.eq_false_iff.2 hp
    refine Cd.f hp ?_
    show _ = _∧_
    exact ⟨rfl,x,hx,hix,hxz,⟨a0,a1,a2,a8⟩,a7,hs1⟩
  ·refine Cd.f (ltZ_f (by omega)) ?_
   show _ = _∧_
   rw [scanSorted_at (x := x),decide_eq_false h,Bool.false_and,if_neg Bool.false_ne_true] at hx
   exact ⟨rfl,x,hx,hix,hxz,⟨a0,a1,a2,a8⟩,a7,hs1⟩
 ·obtain ⟨y,h1,h2,h3,⟨a0,a1,a2,a8⟩,a7,hs1⟩ := hP
  exact k σ1 H1 y h1 h2 h3 a0 a1 a2 a8 a7 hs1
theorem partIns_ok (hc : Con con lives) {L R : List HP} {H : CH} {b e s a z n : Nat} {d : Array E3} {K : KP} (hs : Sat L H) (hp : Pull L (RowE b e s d) R) (hn : d.size = n) (hn2 : n < 50) (hab : a < z) (hz : z ≤ n)
  (k : ∀ H1,Sat (RowE b e s (Sort.partialInsertionSort ltE d a z).1::R) H1→K (.bool (Sort.partialInsertionSort ltE d a z).2) H1) : Call1 Try.prog con 79 [slc b 0 n n,iN a,iN z,fnv] H K := by
 refine call_of (hc _ _ _ rfl) ?_
 rw [partIns_W]
 have hs0 := hs.pull hp
 clear hs hp
 try rw [addInt]
 refine inR_nat (by omega) ?_
 repeat (refine gO ?_; intros)
 have hq : Sort.partialInsertionSort ltE d a z = Sort.partialIns ltE a z 5 (a + 1) d := rfl
 generalize Sort.partialInsertionSort ltE d a z = q at *
 refine LoopC.indP (n := 200) (id := 0) (fun σ1 H1 => q.2 = false∧Sat (RowE b e s q.1::R) H1) (by kernel_rfl)
  (fun (c : Nat) σ1 H1 => c ≤ 5∧σ1 0 = slc b 0 n n∧(σ1 1 = iN a∧σ1 3 = fnv)∧σ1 2 = iN z∧σ1 10 = iN (5 - c)∧∃ i d1,σ1 9 = iN i∧a < i∧i ≤ z∧d1.size = n∧q = Sort.partialIns ltE a z c i d1∧Sat (RowE b e s d1::R) H1)
  (fun c => c) (fun c σ1 H1 hI => ?_) (fun σ1 H1 hP => ?_) 5 _ _ ⟨by omega,rfl,⟨rfl,rfl⟩,rfl,rfl,a + 1,d,rfl,by omega,by omega,hn,hq,hs0⟩
 ·obtain ⟨hc5,a0,a1,a2,a8,i,d1,a7,hai,hiz,hd1,hqc,hs1⟩ := hI
  rw [partInsA_W]
  simp only [a8]
  repeat (refine gO ?_; intros)
  cases c with
  | zero =>
   refine Cd.f (ltZ_f (by omega)) ?_
   show _ = _∧_
   exact ⟨rfl,by rw [hqc]; rfl,by rw [hqc]; exact hs1⟩
  | succ c =>
   refine Cd.t (ltZ_t (by omega)) ?_
   rw [Sort.partialIns_succ] at hqc
   refine partInsB_ok (a := a) hc hs1 hd1 (by omega) hz (by omega) hiz a0 a1 a2 a8 a7 fun σ2 H2 y hy1 hy2 hy3 b0 b1 b2 b8 b7 h2 => ?_
   rw [hy1] at hqc
   show Cd _ _ _
   refine Cd.t rfl ?_
   simp only [b7,b2,b0,b1,b8]
   repeat (refine gO ?_; intros)
   by_cases h : y = z
   ·rw [if_pos h] at hqc
    refine Cd.t (eqZ_t h) ?_
    show K _ _
    have e : Value.bool true = Value.bool q.2 := by rw [hqc]
    refine e ▸ k _ ?_
    rw [hqc]
    exact h2
   ·rw [if_neg h] at hqc
    refine Cd.f (eqZ_f h) ?_
    repeat (refine gO ?_; intros)
    rw [subInt (by omega)]
    refine inR_nat (by omega) ?_
    repeat (refine gO ?_; intros)
    refine Cd.of (fun h50 => ?_) (fun h50 => ?_)
    ·rw [if_pos (ltZ_e h50)] at hqc
     show K _ _
     have e : Value.bool false = Value.bool q.2 := by rw [hqc]
     refine e ▸ k _ ?_
     rw [hqc]
     exact h2
    ·exact absurd (ltZ_n h50) (by omega)
 ·obtain ⟨h1,hs1⟩ := hP
  show Cd _ _ _
  refine Cd.t rfl ?_
  have e : Value.bool false = Value.bool q.2 := by rw [h1]
  exact e ▸ k _ hs1
end Go.Proofs.Ytoogdnemkfbgdaa

set_option linter.unusedVariables false
set_option linter.unusedSimpArgs false
namespace Go.Proofs.Ytoogdnemkfbgdaa
open Go Go.CM
attribute [local irreducible] AsBool AsWant AsNat AsInt AsCnt AsPtr AsSlc AsLen AsStr AsAgg AsTup AsFn AsIfc Nth Sc NotNil IsNil Must Cd codeW funW Sat SatL wrapN subM mkRow ltZ leZ ltN leN
attribute [local irreducible] isFunT
variable {con : CallT}
def PQ (n a z : Nat) (d : Array E3) (a' z' : Nat) (d1 : Array E3) : Prop := d1.size = n∧Sort.Below ltE a' z' d1∧∀ R,Sort.PermIn a' z' d1 R→Sort.SortedIn ltE a' z' R→Sort.PermIn a z d R∧Sort.SortedIn ltE a z R
theorem PQ.perm {n a z a' z' : Nat} {d d1 d2 : Array E3} (h : PQ n a z d a' z' d1) (hz : z' ≤ n) (p : Sort.PermIn a' z' d1 d2) : PQ n a z d a' z' d2 :=
 ⟨p.1.trans h.1,h.2.1.perm (by rw [h.1]; exact hz) p,fun R hR hs => h.2.2 R (Sort.permIn_trans _ _ _ _ _ p hR) hs⟩
abbrev PT (σ : TF) (b n a z l : Nat) (wb wp : Bool) : Prop := σ 0 = slc b 0 n n∧(σ 1 = iN a∧σ 4 = fnv)∧σ 2 = iN z∧σ 3 = iN l∧σ 10 = .bool wb∧σ 11 = .bool wp
def PdqAt (con : CallT) (m : Nat) : Prop := ∀ (L R : List HP) (H : CH) (b e s a z n l : Nat) (d : Array E3) (K : KP),z - a < m→Sat L H→Pull L (RowE b e s d) R→d.size = n→n < 50→a ≤ z→z ≤ n→(l ≤ 1000∧z - a ≤ l + 11)→Sort.Below ltE a z d →
 (∀ d' H1,Sort.PermIn a z d d'→Sort.SortedIn ltE a z d'→Sat (RowE b e s d'::R) H1→K unit H1)→Call1 Try.prog con 64 [slc b 0 n n,iN a,iN z,iN l,fnv] H K
theorem ceP_n {f : TF→CH→Prop} {g : Nat→TF→CH→Prop} {h : TF→CH→Prop} : ceP CE.normal f g h = f := rfl
theorem ceP_x {i : Nat} {f : TF→CH→Prop} {g : Nat→TF→CH→Prop} {h : TF→CH→Prop} : ceP (CE.exit i) f g h = g i := rfl
theorem pdqCD_ok (hc : Con con lives) {m : Nat} (ih : PdqAt con m) {R : List HP} {H : CH} {b e s n a z a0 z0 l p : Nat} {wb wp : Bool} {d0 d : Array E3} {σ : TF} {K : KX} (hs : Sat (RowE b e s d::R) H) (hq : PQ n a0 z0 d0 a z d) (hn2 : n < 50) (hap : a ≤ p) (hpz : p < z) (hz : z ≤ n) (hl : l ≤ 1000∧z - a ≤ l + 11) (hm : z - a ≤ m)
  (ht : PT σ b n a z l wb wp) (e10 : σ 12 = iN (z - a)) (e11 : σ 13 = iN p)
  (k : ∀ σ1 H1 a1 z1 l1 wb1 wp1 d1,PT σ1 b n a1 z1 l1 wb1 wp1→z1 - a1 < z - a→a1 ≤ z1→z1 ≤ n→(l1 ≤ 1000∧z1 - a1 ≤ l1 + 10)→PQ n a0 z0 d0 a1 z1 d1→Sat (RowE b e s d1::R) H1→K .normal σ1 H1)
  (kE : ∀ σ1 H1 a1 z1 l1 wb1 wp1 d1,PT σ1 b n a1 z1 l1 wb1 wp1→z1 - a1 < z - a→a1 ≤ z1→z1 ≤ n→(l1 ≤ 1000∧z1 - a1 ≤ l1 + 10)→PQ n a0 z0 d0 a1 z1 d1→Sat (RowE b e s d1::R) H1→K (.exit 1) σ1 H1) :
  codeW (dropC 12 (blkC (lpAt Try.prog 64 0))) Try.prog con σ H K := by
 obtain ⟨e0,e1,e2,e3,e8,e9⟩ := ht
 have hd := hq.1
 have part : ∀ σ1 H1,PT σ1 b n a z l wb wp→σ1 12 = iN (z - a)→σ1 13 = iN p→Sat (RowE b e s d::R) H1→codeW (dropC 14 (blkC (lpAt Try.prog 64 0))) Try.prog con σ1 H1 K := by
  intro σ1 H1 ht c10 c11 hs1
  obtain ⟨c0,c1,c2,c3,c8,c9⟩ := ht
  rw [pdqD_W]
  simp only [c0,c1,c2,c3,c11,c10]
  rcases hx : Sort.partition ltE d a z p with ⟨mid,ap,d4⟩
  obtain ⟨r1,r2,r3,r4,r5,r6,r7⟩ := Sort.round_part swoE (Sort.partition_holds ltE) hap hpz (by rw [hd]; exact hz) hq.2.1 hx
  refine partOrd_ok hc hs1 pp hd (by omega) hap hpz hz fun H2 h2 => ?_
  simp only [hx] at h2 ⊢
  repeat (refine gO ?_; intros)
  rw [subInt (by omega)]
  refine inR_nat (by omega) ?_
  repeat (refine gO ?_; intros)
  rw [subInt (by omega)]
  refine inR_nat (by omega) ?_
  repeat (refine gO ?_; intros)
  refine CInt.quoI (m := (z - a) / 8) (by omega) rfl (by omega) ?_
  rw [hd] at r3
  refine Cd.of (fun hlt => ?_) (fun hlt => ?_)
  ·have hlt := ltZ_e hlt
   repeat (refine gO ?_; intros)
   refine ih _ R _ b e s a mid n l d4 _ (by omega) h2 pp r3 hn2 r1 (by omega) (by omega) r4 fun d5 H5 p5 s5 h5 => ?_
   obtain ⟨q1,q2⟩ := r6 d5 p5 s5
   repeat (refine gO ?_; intros)
   try rw [addInt]
   refine inR_nat (by omega) ?_
   repeat (refine gO ?_; intros)
   exact k _ _ (mid + 1) z l _ _ d5 ⟨c0,⟨rfl,c1.2⟩,c2,c3,rfl,rfl⟩ (by omega) (by omega) hz (by omega) ⟨p5.1.trans r3,q1,fun R hR hs => (fun x => hq.2.2 R x.1 x.2) (q2 R hR hs)⟩ h5
  ·have hlt := ltZ_n hlt
   repeat (refine gO ?_; intros)
   try rw [addInt]
   refine inR_nat (by omega) ?_
   repeat (refine gO ?_; intros)
   refine ih _ R _ b e s (mid + 1) z n l d4 _ (by omega) h2 pp r3 hn2 (by omega) hz (by omega) r5 fun d5 H5 p5 s5 h5 => ?_
   obtain ⟨q1,q2⟩ := r7 d5 p5 s5
   repeat (refine gO ?_; intros)
   exact k _ _ a mid l _ _ d5 ⟨c0,c1,rfl,c3,rfl,rfl⟩ (by omega) (by omega) (by omega) (by omega) ⟨p5.1.trans r3,q1,fun R hR hs => (fun x => hq.2.2 R x.1 x.2) (q2 R hR hs)⟩ h5
 rw [codeW_cut2 12 2,pdqC_W]
 simp only [e1]
 repeat (refine gO ?_; intros)
 refine Cd.of (fun h0 => ?_) (fun h0 => part _ _ ⟨e0,e1,e2,e3,e8,e9⟩ e10 e11 hs)
 have h0 := ltZ_e h0
 repeat (refine gO ?_; intros)
 rw [subInt (by omega)]
 refine inR_nat (by omega) ?_
 repeat (refine gO ?_; intros)
 simp only [e0,e11,e2]
 repeat (refine gO ?_; intros)
 refine Must.mk (ltN_t (by omega)) (ldE hs (by omega) ?_)
 repeat (refine gO ?_; intros)
 refine Must.mk (ltN_t (by omega)) (ldE hs (by omega) ?_)
 repeat (refine gO ?_; intros)
 try refine Must.mk fnE ?_
 refine cmpE_ok hc hs fun _ hs => ?_
 repeat (refine gO ?_; intros)
 rw [cmpZ_lt]
 repeat (refine gO ?_; intros)
 refine Cd.of (fun hl1 => ?_) (fun hl1 => part _ _ ⟨e0,e1,e2,e3,e8,e9⟩ e10 e11 hs)
 have hl1 : ltE d[a - 1]! d[p]! = false := by
  cases hh : ltE d[a - 1]! d[p]! with
  | false => rfl
  | true => rw [hh] at hl1; cases hl1
 rcases hx : Sort.partitionEqual ltE d a z p with ⟨mid,d4⟩
 obtain ⟨r1,r2,r3,r4,r5⟩ := Sort.round_eq swoE (Sort.partitionEqual_holds ltE) h0 hap hpz (by rw [hd]; exact hz) hq.2.1 hl1 hx
 refine partEq_ok hc hs pp hd (by omega) (by omega) hz (by omega) fun H2 h2 => ?_
 simp only [hx] at h2 ⊢
 repeat (refine gO ?_; intros)
 exact kE _ _ mid z l wb wp d4 ⟨e0,⟨rfl,e1.2⟩,e2,e3,e8,e9⟩ (by omega) r2 hz (by omega) ⟨r3.trans hd,r4,fun R hR hs => (fun x => hq.2.2 R x.1 x.2) (r5 R hR hs)⟩ h2
theorem pdqB_ok (hc : Con con lives) {m : Nat} (ih : PdqAt con m) {R : List HP} {H : CH} {b e s n a z a0 z0 l : Nat} {wb wp : Bool} {d0 d : Array E3} {σ : TF} {K : KX} (hs : Sat (RowE b e s d::R) H) (hq : PQ n a0 z0 d0 a z d) (hn2 : n < 50) (haz : a + 12 < z) (hz : z ≤ n) (hl : l ≤ 1000∧z - a ≤ l + 11) (hm : z - a ≤ m)
  (ht : PT σ b n a z l wb wp) (e10 : σ 12 = iN (z - a))
  (kR : ∀ σ1 H1 d1,Sort.PermIn a0 z0 d0 d1→Sort.SortedIn ltE a0 z0 d1→Sat (RowE b e s d1::R) H1→K .ret σ1 H1)
  (k : ∀ σ1 H1 a1 z1 l1 wb1 wp1 d1,PT σ1 b n a1 z1 l1 wb1 wp1→z1 - a1 < z - a→a1 ≤ z1→z1 ≤ n→(l1 ≤ 1000∧z1 - a1 ≤ l1 + 10)→PQ n a0 z0 d0 a1 z1 d1→Sat (RowE b e s d1::R) H1→K .normal σ1 H1)
  (kE : ∀ σ1 H1 a1 z1 l1 wb1 wp1 d1,PT σ1 b n a1 z1 l1 wb1 wp1→z1 - a1 < z - a→a1 ≤ z1→z1 ≤ n→(l1 ≤ 1000∧z1 - a1 ≤ l1 + 10)→PQ n a0 z0 d0 a1 z1 d1→Sat (RowE b e s d1::R) H1→K (.exit 1) σ1 H1) :
  codeW (dropC 7 (blkC (lpAt Try.prog 64 0))) Try.prog con σ H K := by
 obtain ⟨e0,e1,e2,e3,e8,e9⟩ := ht
 have hd := hq.1
 rw [codeW_cut2 7 5,pdqB_W]
 simp only [e0,e1,e2,e8,e9]
 refine choosePiv_ok hc hs pp hd (by omega) (by omega) hz fun p h H2 hap hpz hh h2 => ?_
 repeat (refine gO ?_; intros)
 by_cases h2' : h = 2
 ·refine Cd.t (eqZ_t h2') ?_
  refine revRange_ok hc h2 pp hd (by omega) (by omega) hz fun H3 h3 => ?_
  have hrp := Sort.reverseRange_holds d a z (by omega) (by rw [hd]; exact hz)
  have hq3 := hq.perm hz hrp
  have hd3 := hq3.1
  generalize Sort.reverseRange d a z = d3 at *
  repeat (refine gO ?_; intros)
  rw [subInt (by omega)]
  refine inR_nat (by omega) ?_
  repeat (refine gO ?_; intros)
  rw [subInt (by omega)]
  refine inR_nat (by omega) ?_
  repeat (refine gO ?_; intros)
  rw [subInt (by omega)]
  refine inR_nat (by omega) ?_
  repeat (refine gO ?_; intros)
  cases wb with
  | false =>
   refine Cd.f rfl ?_
   rw [ceP_n]
   exact pdqCD_ok hc ih h3 hq3 hn2 (by omega) (by omega) hz (by omega) hm ⟨e0,e1,e2,e3,e8,e9⟩ e10 rfl k kE
  | true =>
   refine Cd.t rfl ?_
   refine AsWant.mk ?_
   cases wp with
   | false =>
    refine Cd.f rfl ?_
    rw [ceP_n]
    exact pdqCD_ok hc ih h3 hq3 hn2 (by omega) (by omega) hz (by omega) hm ⟨e0,e1,e2,e3,e8,e9⟩ e10 rfl k kE
   | true =>
    refine Cd.t rfl ?_
    cases hpi : (Sort.partialInsertionSort ltE d3 a z).2 with
    | true =>
     refine partIns_ok hc h3 pp hd3 (by omega) (by omega) hz fun H5 h5 => ?_
     rw [hpi]
     repeat (refine gO ?_; intros)
     have hpp := Sort.partialInsertionSort_holds swoE d3 a z (by omega) (by rw [hd3]; exact hz) hq3.2.1
     exact kR _ _ _ (hq3.2.2 _ hpp.1 (hpp.2 hpi)).1 (hq3.2.2 _ hpp.1 (hpp.2 hpi)).2 h5
    | false =>
     refine partIns_ok hc h3 pp hd3 (by omega) (by omega) hz fun H5 h5 => ?_
     rw [hpi]
     repeat (refine gO ?_; intros)
     have hpp := Sort.partialInsertionSort_holds swoE d3 a z (by omega) (by rw [hd3]; exact hz) hq3.2.1
     rw [ceP_n]
     exact pdqCD_ok hc ih h5 (hq3.perm hz hpp.1) hn2 (by omega) (by omega) hz (by omega) hm ⟨e0,e1,e2,e3,e8,e9⟩ e10 rfl k kE
 ·refine Cd.f (eqZ_f h2') ?_
  refine AsWant.mk ?_
  cases wb with
  | false =>
   refine Cd.f rfl ?_
   rw [ceP_n]
   exact pdqCD_ok hc ih h2 hq hn2 (by omega) (by omega) hz (by omega) hm ⟨e0,e1,e2,e3,e8,e9⟩ e10 rfl k kE
  | true =>
   refine Cd.t rfl ?_
   refine AsWant.mk ?_
   refine run ?_
   cases wp with
   | false =>
    refine Cd.f rfl ?_
    rw [ceP_n]
    exact pdqCD_ok hc ih h2 hq hn2 (by omega) (by omega) hz (by omega) hm ⟨e0,e1,e2,e3,e8,e9⟩ e10 rfl k kE
   | true =>
    refine Cd.t rfl ?_
    repeat (refine gO ?_; intros)
    refine Cd.of (fun _ => ?_) (fun _ => by rw [ceP_n]; exact pdqCD_ok hc ih h2 hq hn2 (by omega) (by omega) hz (by omega) hm ⟨e0,e1,e2,e3,e8,e9⟩ e10 rfl k kE)
    cases hpi : (Sort.partialInsertionSort ltE d a z).2 with
    | true =>
     refine partIns_ok hc h2 pp hd (by omega) (by omega) hz fun H5 h5 => ?_
     rw [hpi]
     repeat (refine gO ?_; intros)
     have hpp := Sort.partialInsertionSort_holds swoE d a z (by omega) (by rw [hd]; exact hz) hq.2.1
     exact kR _ _ _ (hq.2.2 _ hpp.1 (hpp.2 hpi)).1 (hq.2.2 _ hpp.1 (hpp.2 hpi)).2 h5
    | false =>
     refine partIns_ok hc h2 pp hd (by omega) (by omega) hz fun H5 h5 => ?_
     rw [hpi]
     repeat (refine gO ?_; intros)
     have hpp := Sort.partialInsertionSort_holds swoE d a z (by omega) (by rw [hd]; exact hz) hq.2.1
     rw [ceP_n]
     exact pdqCD_ok hc ih h5 (hq.perm hz hpp.1) hn2 (by omega) (by omega) hz (by omega) hm ⟨e0,e1,e2,e3,e8,e9⟩ e10 rfl k kE
theorem pdqRound_ok (hc : Con con lives) {m : Nat} (ih : PdqAt con m) {R : List HP} {H : CH} {b e s n a z a0 z0 l : Nat} {wb wp : Bool} {d0 d : Array E3} {σ : TF} {K : KX} (hs : Sat (RowE b e s d::R) H) (hq : PQ n a0 z0 d0 a z d) (hn2 : n < 50) (haz : a ≤ z) (hz : z ≤ n) (hl : l ≤ 1000∧z - a ≤ l + 11) (hw : wb = false→z - a ≤ l + 10) (hm : z - a ≤ m)
  (ht : PT σ b n a z l wb wp)
  (kR : ∀ σ1 H1 d1,Sort.PermIn a0 z0 d0 d1→Sort.SortedIn ltE a0 z0 d1→Sat (RowE b e s d1::R) H1→K .ret σ1 H1)
  (k : ∀ σ1 H1 a1 z1 l1 wb1 wp1 d1,PT σ1 b n a1 z1 l1 wb1 wp1→z1 - a1 < z - a→a1 ≤ z1→z1 ≤ n→(l1 ≤ 1000∧z1 - a1 ≤ l1 + 10)→PQ n a0 z0 d0 a1 z1 d1→Sat (RowE b e s d1::R) H1→K .normal σ1 H1)
  (kE : ∀ σ1 H1 a1 z1 l1 wb1 wp1 d1,PT σ1 b n a1 z1 l1 wb1 wp1→z1 - a1 < z - a→a1 ≤ z1→z1 ≤ n→(l1 ≤ 1000∧z1 - a1 ≤ l1 + 10)→PQ n a0 z0 d0 a1 z1 d1→Sat (RowE b e s d1::R) H1→K (.exit 1) σ1 H1) :
  codeW (blkC (lpAt Try.prog 64 0)) Try.prog con σ H K := by
 obtain ⟨e0,e1,e2,e3,e8,e9⟩ := ht
 have hd := hq.1
 rw [codeW_cut 7,pdqA_W]
 simp only [e0,e1,e2,e3,e8]
 repeat (refine gO ?_; intros)
 rw [subInt (by omega)]
 refine inR_nat (by omega) ?_
 repeat (refine gO ?_; intros)
 refine Cd.of (fun h12 => ?_) (fun h12 => ?_)
 ·refine insSort_ok hc hs pp hd (by omega) haz hz fun H2 h2 => ?_
  have hpp := Sort.insertionSort_holds swoE d a z haz (by rw [hd]; exact hz)
  exact kR _ _ _ (hq.2.2 _ hpp.1 hpp.2).1 (hq.2.2 _ hpp.1 hpp.2).2 h2
 ·have h12 := leZ_n h12
  repeat (refine gO ?_; intros)
  by_cases hl0 : l = 0
  ·exact absurd h12 (by omega)
  ·refine Cd.f (eqZ_f hl0) ?_
   repeat (refine gO ?_; intros)
   cases wb with
   | true =>
    refine Cd.f rfl ?_
    exact pdqB_ok hc ih hs hq hn2 (by omega) hz (by omega) hm ⟨e0,e1,e2,e3,e8,e9⟩ rfl kR k kE
   | false =>
    have hw := hw rfl
    refine Cd.t rfl ?_
    refine breakPat_ok hc hs pp hd (by omega) haz hz fun d' H2 hp2 h2 => ?_
    repeat (refine gO ?_; intros)
    rw [subInt (by omega)]
    refine inR_nat (by omega) ?_
    repeat (refine gO ?_; intros)
    exact pdqB_ok hc ih h2 (hq.perm hz hp2) hn2 (by omega) hz (by omega) hm ⟨e0,e1,e2,rfl,e8,e9⟩ rfl kR k kE
theorem bitsLen5_ok (hc : Con con lives) {H : CH} {n : Nat} {K : KP} (hn : n ≤ 16) (k : ∀ c,c ≤ 1000→n ≤ c + 11→K (iN c) H) : Call1 Try.prog con 65 [u64 n] H K := by
 rcases Nat.lt_or_ge n 12 with h | h
 ·exact bitsLen_ok hc (by omega) fun c h1 _ => k c (by omega) (by omega)
 refine call_of (hc _ _ _ rfl) ?_
 rw [bitsLen_W]
 refine call_of (hc _ _ _ rfl) ?_
 rw [bitsLen64_W]
 refine Cd.f (leN_f (by omega)) (Cd.f (leN_f (by omega)) (Cd.f (leN_f (by omega)) ?_))
 have e : n = 12 ∨ n = 13 ∨ n = 14 ∨ n = 15 ∨ n = 16 := by omega
 rcases e with rfl | rfl | rfl | rfl | rfl
 ·refine OpN.of (v := u8 4) (H1 := H) (by kernel_rfl) ?_
  refine AsNat.mk (Must.mk (ltN_t (by omega)) (inR_nat (n := 4) (by omega) (k 4 (by omega) (by omega))))
 ·refine OpN.of (v := u8 4) (H1 := H) (by kernel_rfl) ?_
  refine AsNat.mk (Must.mk (ltN_t (by omega)) (inR_nat (n := 4) (by omega) (k 4 (by omega) (by omega))))
 ·refine OpN.of (v := u8 4) (H1 := H) (by kernel_rfl) ?_
  refine AsNat.mk (Must.mk (ltN_t (by omega)) (inR_nat (n := 4) (by omega) (k 4 (by omega) (by omega))))
 ·refine OpN.of (v := u8 4) (H1 := H) (by kernel_rfl) ?_
  refine AsNat.mk (Must.mk (ltN_t (by omega)) (inR_nat (n := 4) (by omega) (k 4 (by omega) (by omega))))
 ·refine OpN.of (v := u8 5) (H1 := H) (by kernel_rfl) ?_
  refine AsNat.mk (Must.mk (ltN_t (by omega)) (inR_nat (n := 5) (by omega) (k 5 (by omega) (by omega))))
theorem pdqAll (hc : Con con lives) : ∀ m,PdqAt con m := by
 intro m
 induction m with
 | zero => exact fun L R H b e s a z n l d K hm => absurd hm (Nat.not_lt_zero _)
 | succ m ih =>
  intro L R H b e s a z n l d K hm hs hp hd hn2 haz hz hl hB k
  refine call_of (hc _ _ _ rfl) ?_
  rw [pdqSort_W]
  have hs0 := hs.pull hp
  clear hs hp
  refine LoopC.indP (n := 200) (id := 0) (fun σ1 H1 => False) (by kernel_rfl)
   (fun (x : Nat × Nat) σ1 H1 => x.1 ≤ x.2∧x.2 ≤ n∧x.2 - x.1 ≤ z - a∧∃ l1 wb wp d1,(l1 ≤ 1000∧x.2 - x.1 ≤ l1 + 11∧(wb = false→x.2 - x.1 ≤ l1 + 10))∧PT σ1 b n x.1 x.2 l1 wb wp∧PQ n a z d x.1 x.2 d1∧Sat (RowE b e s d1::R) H1)
   (fun x => x.2 - x.1) (fun x σ1 H1 hI => ?_) (fun σ1 H1 hP => hP.elim) (a,z) _ _ ⟨haz,hz,Nat.le_refl _,l,true,true,d,⟨hl.1,hl.2,fun q => nomatch q⟩,⟨rfl,⟨rfl,rfl⟩,rfl,rfl,rfl,rfl⟩,⟨hd,hB,fun R h1 h2 => ⟨h1,h2⟩⟩,hs0⟩
  obtain ⟨x,y⟩ := x
  obtain ⟨hxy,hyn,hxm,l1,wb,wp,d1,hl1,ht,hq,hs1⟩ := hI
  have hxm : y - x ≤ z - a := hxm
  have hl2 : y - x ≤ l1 + 11 := hl1.2.1
  have hl3 : wb = false→y - x ≤ l1 + 10 := hl1.2.2
  have hl0 := hl1.1
  rw [codeW_blk (id := 1) (by kernel_rfl)]
  refine pdqRound_ok hc ih hs1 hq hn2 hxy hyn ⟨hl0,hl2⟩ hl3 (by omega) ht (fun σ2 H2 d2 p2 s2 h2 => ?_) (fun σ2 H2 a2 z2 l2 wb2 wp2 d2 ht2 hlt h2a h2z hl2 hq2 h2 => ?_) (fun σ2 H2 a2 z2 l2 wb2 wp2 d2 ht2 hlt h2a h2z hl2 hq2 h2 => ?_)
  ·exact k _ _ p2 s2 h2
  ·exact ⟨(a2,z2),hlt,h2a,h2z,by show z2 - a2 ≤ z - a; omega,l2,wb2,wp2,d2,⟨hl2.1,by show z2 - a2 ≤ l2 + 11; omega,fun _ => hl2.2⟩,ht2,hq2,h2⟩
  ·show Cd _ _ _
   refine Cd.t rfl ?_
   exact ⟨(a2,z2),hlt,h2a,h2z,by show z2 - a2 ≤ z - a; omega,l2,wb2,wp2,d2,⟨hl2.1,by show z2 - a2 ≤ l2 + 11; omega,fun _ => hl2.2⟩,ht2,hq2,h2⟩
theorem pdqSort_ok (hc : Con con lives) {L R : List HP} {H : CH} {b e s n l : Nat} {d : Array E3} {K : KP} (hs : Sat L H) (hp : Pull L (RowE b e s d) R) (hn : d.size = n) (hn2 : n < 50) (hl : l ≤ 1000∧n ≤ l + 11)
  (k : ∀ d' H1,Sort.PermIn 0 n d d'→Sort.SortedIn ltE 0 n d'→Sat (RowE b e s d'::R) H1→K unit H1) : Call1 Try.prog con 64 [slc b 0 n n,iN 0,iN n,iN l,fnv] H K :=
 pdqAll hc (n + 1) L R H b e s 0 n n l d K (by omega) hs hp hn hn2 (Nat.zero_le _) (Nat.le_refl _) (by omega) (.inl rfl) k
theorem sortE_ok (hc : Con con lives) {L R : List HP} {H : CH} {b e s n : Nat} {d : Array E3} {K : KP} (hs : Sat L H) (hp : Pull L (RowE b e s d) R) (hn : d.size = n) (hn2 : n ≤ 16)
  (k : ∀ d' H1,Sort.PermIn 0 n d d'→Sort.SortedIn ltE 0 n d'→Sat (RowE b e s d'::R) H1→K unit H1) : Call1 Try.prog con 61 [slc b 0 n n,fnv] H K := by
 refine call_of (hc _ _ _ rfl) ?_
 rw [sortE_W]
 repeat (refine gO ?_; intros)
 refine Must.mk (cv_small (by omega)) ?_
 rw [wrapN_small (by omega)]
 refine bitsLen5_ok hc hn2 fun c hc1 hc2 => ?_
 refine pdqSort_ok hc hs hp hn (by omega) ⟨hc1,hc2⟩ fun d' H1 p1 s1 h1 => ?_
 exact k d' H1 p1 s1 h1
end Go.Proofs.Ytoogdnemkfbgdaa

set_option linter.unusedVariables false
set_option linter.unusedSimpArgs false
namespace Go.Proofs.Ytoogdnemkfbgdaa
open Go Go.CM
attribute [local irreducible] AsBool AsWant AsNat AsInt AsCnt AsPtr AsSlc AsLen AsStr AsAgg AsTup AsFn AsIfc Nth Sc NotNil IsNil Must Cd codeW funW Sat SatL wrapN subM mkRow ltZ leZ ltN leN
attribute [local irreducible] isFunT
variable {con : CallT}
def EntA (v : Value) (d : Array E3) : HP := fun h => (d.size = 0∧∃ po,v = .slice po 0 0) ∨ (0 < d.size∧∃ b e es,v = slc b 0 d.size d.size∧RowE b e es d h)
theorem EntA.mono {v : Value} {d : Array E3} {g h : PH} (a : EntA v d g) (t : Subh g h) : EntA v d h := by
 rcases a with a | ⟨h0,b,e,es,h1,h2⟩
 ·exact .inl a
 ·exact .inr ⟨h0,b,e,es,h1,Row.mono h2 t⟩
theorem Has.entA {v : Value} {d : Array E3} {L : List HP} : Has (EntA v d::L) (EntA v d) := Has.here fun a t => EntA.mono a t
theorem EntA.len {v : Value} {d : Array E3} {h : PH} (a : EntA v d h) : ∃ p,v = .slice p d.size d.size := by
 rcases a with ⟨h0,po,rfl⟩ | ⟨h0,b,e,es,rfl,h2⟩
 ·rw [h0]; exact ⟨po,rfl⟩
 ·exact ⟨_,rfl⟩
theorem EntA.row {v : Value} {d : Array E3} {L : List HP} {H : CH} (hs : Sat L H) (hq : Has L (EntA v d)) {i : Nat} (hi : i < d.size) : ∃ b,v = slc b 0 d.size d.size∧Src L b 0 (rowE d) := by
 rcases hs.has hq with ⟨h0,_⟩ | ⟨h0,b,e,es,rfl,h2⟩
 ·omega
 ·refine ⟨b,rfl,fun g a => ?_⟩
  rcases hq g a with ⟨h0',_⟩ | ⟨_,b',e',es',hv,k,k1,k2,k3,k4,k5,kf,k6,k7⟩
  ·omega
  ·cases hv
   exact ⟨k,k1,k5,fun j _ => by rw [Nat.zero_add]; exact k7 j⟩
theorem rowE_at {d : Array E3} {i : Nat} (hi : i < d.size) (j : Nat) (hj : j < 3) : (rowE d)[i * 3 + j]? = (encE d[i]!)[j]? := by
 have hr : (d.toList.map encE)[i]? = some (encE d[i]!) := by
  rw [List.getElem?_map,Array.getElem?_toList,Array.getElem?_eq_getElem hi,getElem!_pos d i hi]; rfl
 exact flat_get (encE_len _) i j _ hr hj
theorem ldEs {L : List HP} {H : CH} {b i : Nat} {d : Array E3} {K : Value→Value→Value→Prop} (hs : Sat L H) (hb : Src L b 0 (rowE d)) (hi : i < d.size) (k : K (u64 d[i]!.a) (u64 d[i]!.o) (u64 d[i]!.n)) :
  Ld H b (Nat.add (Nat.add 0 (Nat.mul i 3)) 0) fun x => Ld H b (Nat.add (Nat.add 0 (Nat.mul i 3)) 1) fun y => Ld H b (Nat.add (Nat.add 0 (Nat.mul i 3)) 2) fun z => K x y z := by
 have e : ∀ j,Nat.add (Nat.add 0 (Nat.mul i 3)) j = 0 + (i * 3 + j) := fun j => by show 0 + i * 3 + j = _; omega
 refine ldSrc hs hb (e 0) ((rowE_at hi 0 (by omega)).trans rfl) ?_
 refine ldSrc hs hb (e 1) ((rowE_at hi 1 (by omega)).trans rfl) ?_
 exact ldSrc hs hb (e 2) ((rowE_at hi 2 (by omega)).trans rfl) k
theorem ldE0 {L : List HP} {H : CH} {b i : Nat} {d : Array E3} {K : Value→Prop} (hs : Sat L H) (hb : Src L b 0 (rowE d)) (hi : i < d.size) (k : K (u64 d[i]!.a)) : Ld H b (Nat.add (Nat.add 0 (Nat.mul i 3)) 0) K :=
 ldSrc hs hb (show Nat.add (Nat.add 0 (Nat.mul i 3)) 0 = 0 + (i * 3 + 0) by show 0 + i * 3 + 0 = _; omega) ((rowE_at hi 0 (by omega)).trans rfl) k
theorem sort0_ok (hc : Con con lives) {H : CH} {po : Option Addr} {K : KP} (k : K unit H) : Call1 Try.prog con 61 [.slice po 0 0,fnv] H K := by
 refine call_of (hc _ _ _ rfl) ?_
 rw [sortE_W]
 repeat (refine gO ?_; intros)
 rw [wrapN_small (n := 0) (by omega)]
 refine bitsLen5_ok hc (by omega) fun c hc1 hc2 => ?_
 refine call_of (hc _ _ _ rfl) ?_
 rw [pdqSort_W]
 refine LoopC.ind (n := 200) (by kernel_rfl) (fun (_ : Unit) σ1 H1 => σ1 0 = .slice po 0 0∧σ1 1 = iN 0∧σ1 2 = iN 0∧σ1 3 = iN c∧σ1 4 = fnv∧H1 = H) (fun _ => 0) (fun x σ1 H1 hI => ?_) () _ _ ⟨rfl,rfl,rfl,rfl,rfl,rfl⟩
 obtain ⟨e0,e1,e2,e3,e4,rfl⟩ := hI
 rw [codeW_blk (id := 1) (by kernel_rfl),codeW_cut 7,pdqA_W]
 simp only [e0,e1,e2,e3,e4]
 repeat (refine gO ?_; intros)
 rw [subInt (Nat.le_refl 0)]
 refine inR_nat (by omega) ?_
 refine Cd.t (leZ_t (by omega)) ?_
 refine call_of (hc _ _ _ rfl) ?_
 rw [insSort_W]
 try rw [addInt]
 refine inR_nat (by first | omega | (simp only; omega)) ?_
 repeat (refine gO ?_; intros)
 refine LoopC.ind (n := 200) (by kernel_rfl) (fun (_ : Unit) σ2 H2 => σ2 2 = iN 0∧σ2 8 = iN 1∧H2 = H1) (fun _ => 0) (fun x σ2 H2 hI => ?_) () _ _ ⟨rfl,rfl,rfl⟩
 obtain ⟨c2,c8,rfl⟩ := hI
 rw [insSortA_W]
 simp only [c2,c8]
 repeat (refine gO ?_; intros)
 exact k
theorem sortA_ok (hc : Con con lives) {L R : List HP} {H : CH} {v : Value} {d : Array E3} {K : KP} (hs : Sat L H) (hp : Pull L (EntA v d) R) (hn2 : d.size ≤ 16)
  (k : ∀ d' H1,d'.size = d.size→d'.toList.Perm d.toList→IncE d'.toList→Sat (EntA v d'::R) H1→K unit H1) : Call1 Try.prog con 61 [v,fnv] H K := by
 have hs0 := hs.pull hp
 obtain ⟨h1,h2,s1,s2,dj,a,y⟩ := hs0.opens Pull.here
 rcases a with ⟨h0,po,rfl⟩ | ⟨h0,b,e,es,rfl,hrow⟩
 ·refine sort0_ok hc (k d H rfl (List.Perm.refl _) ?_ hs0)
  rw [show d.toList = [] from List.eq_nil_of_length_eq_zero (by rw [Array.length_toList]; exact h0)]
  exact List.Pairwise.nil
 ·have hs1 : Sat (RowE b e es d::R) H := Sat.merge (L1 := [RowE b e es d]) s1 s2 dj (SatL.one hrow) y
  refine sortE_ok hc hs1 Pull.here rfl hn2 fun d' H1 p1 q1 h1 => ?_
  have hsz := p1.1
  refine k d' H1 hsz ?_ ?_ (h1.imp fun g a => .inr ⟨by omega,b,e,es,by rw [hsz],a⟩)
  ·have := p1.2.2
   rw [Array.toList_extract,Array.toList_extract] at this
   have e1 : ∀ x : Array E3,x.size = d.size→x.toList.extract 0 d.size = x.toList := fun x hx => by
    show (x.toList.drop 0).take (d.size - 0) = x.toList
    rw [List.drop_zero,Nat.sub_zero,List.take_of_length_le (by rw [Array.length_toList]; omega)]
   rwa [e1 d' hsz,e1 d rfl] at this
  ·rw [IncE,List.pairwise_iff_getElem]
   intro i j hi hj hij
   have := q1 i j (by omega) hij (by rw [← hsz,← Array.length_toList]; exact hj)
   rw [Array.length_toList] at hi hj
   rw [getElem!_pos d' i hi,getElem!_pos d' j hj] at this
   rw [Array.getElem_toList,Array.getElem_toList]
   refine Nat.le_of_not_lt fun hlt => ?_
   rw [show ltE d'[j] d'[i] = true from ltN_t hlt] at this
   cases this
end Go.Proofs.Ytoogdnemkfbgdaa

set_option linter.unusedVariables false
set_option linter.unusedSimpArgs false
namespace Go.Proofs.Ytoogdnemkfbgdaa
open Go Go.CM
attribute [local irreducible] AsBool AsWant AsNat AsInt AsCnt AsPtr AsSlc AsLen AsStr AsAgg AsTup AsFn AsIfc Nth Sc NotNil IsNil Must Cd codeW funW Sat SatL wrapN subM mkRow ltZ leZ ltN leN
attribute [local irreducible] isFunT
variable {con : CallT}
def badE (e : E3) : Bool := decide (e.a = 0) || (decide (4611686018427387904 ≤ e.o) || decide (4611686018427387904 ≤ e.n))
theorem rangeE_any (l : List E3) : rangeE l = l.any badE := by
 unfold rangeE badE
 congr 1
def knB (d : Array E3) : Nat→Bool
 | 0 => false
 | i + 1 => knB d i || (decide (0 < i) && eqN d[i - 1]!.a d[i]!.a)
def wrongA (d : Array E3) : Nat := if d.toList.any badE = true then 2 else if knB d d.size = true then 5 else 0
theorem knB_iff (d : Array E3) : ∀ n,knB d n = true ↔ ∃ i,0 < i∧i < n∧d[i - 1]!.a = d[i]!.a
 | 0 => ⟨fun h => (by cases h),fun ⟨i,h1,h2,h3⟩ => (by omega)⟩
 | n + 1 => by
  unfold knB
  rw [Bool.or_eq_true,Bool.and_eq_true,knB_iff d n,decide_eq_true_eq]
  constructor
  ·rintro (⟨i,h1,h2,h3⟩ | ⟨h1,h2⟩)
   ·exact ⟨i,h1,by omega,h3⟩
   ·exact ⟨n,h1,by omega,Nat.eq_of_beq_eq_true h2⟩
  ·rintro ⟨i,h1,h2,h3⟩
   by_cases h : i = n
   ·subst h; exact .inr ⟨h1,eqN_t h3⟩
   ·exact .inl ⟨i,h1,by omega,h3⟩
theorem any_perm {l k : List E3} (h : l.Perm k) (f : E3→Bool) : l.any f = k.any f := by
 rw [Bool.eq_iff_iff,List.any_eq_true,List.any_eq_true]
 exact ⟨fun ⟨x,h1,h2⟩ => ⟨x,h.mem_iff.1 h1,h2⟩,fun ⟨x,h1,h2⟩ => ⟨x,h.mem_iff.2 h1,h2⟩⟩
theorem getA (d : Array E3) (i : Nat) (h : i < d.toList.length) : d.toList[i] = d[i]! := by
 rw [Array.length_toList] at h
 rw [Array.getElem_toList,getElem!_pos d i h]
theorem kn_nodup {d : Array E3} (h : IncE d.toList) : knB d d.size = true ↔ ¬ (d.toList.map (·.a)).Nodup := by
 rw [knB_iff]
 rw [IncE,List.pairwise_iff_getElem] at h
 constructor
 ·rintro ⟨i,h1,h2,h3⟩ hn
  rw [List.Nodup,List.pairwise_iff_getElem] at hn
  have := hn (i - 1) i (by simp; omega) (by simp; omega) (by omega)
  rw [List.getElem_map,List.getElem_map,getA,getA] at this
  exact this h3
 ·intro hn
  refine Classical.byContradiction fun hc => hn ?_
  rw [List.Nodup,List.pairwise_iff_getElem]
  intro i j hi hj hij e
  rw [List.length_map] at hi hj
  rw [List.getElem_map,List.getElem_map] at e
  have hj' : j < d.size := by rw [← Array.length_toList]; exact hj
  refine hc ⟨i + 1,by omega,by omega,?_⟩
  have h1 := h i (i + 1) hi (by omega) (by omega)
  have h2 : d.toList[i + 1].a ≤ d.toList[j].a := by
   rcases Nat.lt_or_ge (i + 1) j with hh | hh
   ·exact h (i + 1) j (by omega) hj hh
   ·have : i + 1 = j := by omega
    subst this; exact Nat.le_refl _
  rw [Nat.add_sub_cancel]
  rw [← getA d i hi,← getA d (i + 1) (by omega)]
  omega
theorem wrongA_eq {d : Array E3} {l : List E3} (hp : d.toList.Perm l) (hs : IncE d.toList) (hl : l.length ≤ 16) : wrongA d = errE l := by
 unfold wrongA errE
 rw [if_neg (show ¬ 16 < l.length by omega),rangeE_any,any_perm hp]
 by_cases h1 : l.any badE = true
 ·rw [if_pos h1,if_pos h1]
 ·rw [if_neg h1,if_neg h1]
  have e : knB d d.size = true ↔ ¬ (l.map (·.a)).Nodup := by rw [kn_nodup hs,(hp.map (·.a)).nodup_iff]
  by_cases h2 : (l.map (·.a)).Nodup
  ·rw [if_pos h2,if_neg (fun h => e.1 h h2)]
  ·rw [if_neg h2,if_pos (e.2 h2)]
def muC (lv : Value) (at_ d : Nat) (hv : Value) (done : Bool) (err : Nat) : List Value := [lv,iN at_,u64 d,hv,.bool done,iN err]
theorem wrongLoop_ok (hc : Con con lives) {R : List HP} {H : CH} {p : Nat} {lv : Value} {ms : List Value} {d : Array E3} {σ : TF} {K : KP} (hs : Sat (Own p (lv::ms)::EntA lv d::R) H) (hn : d.size ≤ 16)
  (e0 : σ 0 = ptr p 0) (e4 : σ 4 = .bool false) (e22 : σ 22 = lv) (e23 : σ 23 = iN d.size) (e24 : σ 24 = iN 0)
  (k : ∀ H1,Sat (Own p (lv::ms)::EntA lv d::R) H1→K (iN (wrongA d)) H1) :
  LoopC Try.prog con (lpAt Try.prog 54 0) σ H (fun e => ceP e
   (fun a8 H9 => AsBool (a8 4) fun b11 => Cd b11 (K (.int .i64 (Int.ofNat 5)) H9) (K (.int .i64 (Int.ofNat 0)) H9))
   (fun i10 => fun a8 H9 => Cd (eqN i10 0) (AsBool (a8 4) fun b12 => Cd b12 (K (.int .i64 (Int.ofNat 5)) H9) (K (.int .i64 (Int.ofNat 0)) H9)) False)
   (fun a8 H9 => K (a8 2) H9)) := by
 refine LoopC.ind (n := 200) (by kernel_rfl)
  (fun (i : Nat) σ1 H1 => i ≤ d.size∧σ1 0 = ptr p 0∧σ1 4 = .bool (knB d i)∧σ1 22 = lv∧σ1 23 = iN d.size∧σ1 24 = iN i∧(∀ j,j < i→badE d[j]! = false)∧Sat (Own p (lv::ms)::EntA lv d::R) H1)
  (fun i => d.size - i) (fun i σ1 H1 hI => ?_) 0 _ _ ⟨Nat.zero_le _,e0,e4,e22,e23,e24,(fun j hj => by omega),hs⟩
 obtain ⟨hi,a0,a4,a22,a23,a24,hno,hs1⟩ := hI
 rw [multiWrongL_W]
 simp only [a0,a4,a22,a23,a24]
 repeat (refine gO ?_; intros)
 by_cases hlt : i < d.size
 ·refine Cd.t (ltZ_t hlt) ?_
  obtain ⟨b,hlv,hsrc⟩ := EntA.row hs1 (Has.skip Has.entA) hlt
  subst hlv
  repeat (refine gO ?_; intros)
  refine Must.mk (ltN_t hlt) ?_
  refine ldEs hs1 hsrc hlt ?_
  repeat (refine gO ?_; intros)
  refine stN (by assumption) (Nat.le_of_ble_eq_true rfl) rfl fun H13 h13 => ?_
  repeat (refine gO ?_; intros)
  have bad : badE d[i]! = true→wrongA d = 2 := fun h => by
   unfold wrongA
   rw [if_pos]
   rw [List.any_eq_true]
   exact ⟨d.toList[i]'(by rw [Array.length_toList]; exact hlt),List.getElem_mem _,by rw [getA]; exact h⟩
  by_cases c1 : d[i]!.a = 0
  ·refine Cd.t (eqN_t c1) ?_
   have k1 := k _ h13.drop
   rw [bad (by unfold badE; rw [decide_eq_true c1]; rfl)] at k1
   exact k1
  refine Cd.f (eqN_f c1) ?_
  repeat (refine gO ?_; intros)
  by_cases c2 : 4611686018427387904 ≤ d[i]!.o
  ·refine Cd.t (leN_t c2) ?_
   have k1 := k _ h13.drop
   rw [bad (by unfold badE; rw [decide_eq_true c2,Bool.true_or,Bool.or_true])] at k1
   exact k1
  refine Cd.f (leN_f (by omega)) ?_
  repeat (refine gO ?_; intros)
  by_cases c3 : 4611686018427387904 ≤ d[i]!.n
  ·refine Cd.t (leN_t c3) ?_
   have k1 := k _ h13.drop
   rw [bad (by unfold badE; rw [decide_eq_true c3,Bool.or_true,Bool.or_true])] at k1
   exact k1
  refine Cd.f (leN_f (by omega)) ?_
  have good : ∀ j,j < i + 1→badE d[j]! = false := fun j hj => by
   by_cases h : j = i
   ·subst h
    unfold badE
    rw [decide_eq_false c1,decide_eq_false c2,decide_eq_false c3]; rfl
   ·exact hno j (by omega)
  refine AsWant.mk ?_
  cases c4 : knB d i with
  | true =>
   refine Cd.t rfl ?_
   repeat (refine gO ?_; intros)
   try rw [addInt]
   refine inR_nat (by first | omega | (simp only; omega)) ?_
   repeat (refine gO ?_; intros)
   show ∃ y,_∧_
   exact ⟨i + 1,by omega,hlt,a0,by show Value.bool true = .bool (knB d (i + 1)); rw [knB,c4]; rfl,a22,a23,rfl,good,h13.drop⟩
  | false =>
   refine Cd.f rfl ?_
   repeat (refine gO ?_; intros)
   by_cases c5 : 0 < i
   ·refine Cd.t (ltZ_t c5) ?_
    refine NotNil.ptr (AsPtr.mk (ld h13 rfl ?_))
    repeat (refine gO ?_; intros)
    rw [subInt (by omega)]
    refine inR_nat (by omega) ?_
    repeat (refine gO ?_; intros)
    refine Must.mk (ltN_t (by omega)) ?_
    refine ldE0 h13 (Src.skip (fun g a => hsrc g (SatL.mono (Subh.refl g) a))) (by omega) ?_
    repeat (refine gO ?_; intros)
    try rw [addInt]
    refine inR_nat (by first | omega | (simp only; omega)) ?_
    repeat (refine gO ?_; intros)
    show ∃ y,_∧_
    exact ⟨i + 1,by omega,hlt,a0,by show Value.bool (eqN d[i - 1]!.a d[i]!.a) = .bool (knB d (i + 1)); rw [knB,c4,decide_eq_true c5]; rfl,a22,a23,rfl,good,h13.drop⟩
   ·refine Cd.f (ltZ_f (by omega)) ?_
    repeat (refine gO ?_; intros)
    try rw [addInt]
    refine inR_nat (by first | omega | (simp only; omega)) ?_
    repeat (refine gO ?_; intros)
    show ∃ y,_∧_
    exact ⟨i + 1,by omega,hlt,a0,by show Value.bool false = .bool (knB d (i + 1)); rw [knB,c4,decide_eq_false c5]; rfl,a22,a23,rfl,good,h13.drop⟩
 ·obtain rfl : i = d.size := by omega
  refine Cd.f (ltZ_f (Nat.le_refl _)) ?_
  show Cd _ _ _
  refine Cd.t rfl ?_
  have e : wrongA d = if knB d d.size = true then 5 else 0 := by
   unfold wrongA
   rw [if_neg]
   rw [List.any_eq_true]
   rintro ⟨x,h1,h2⟩
   obtain ⟨j,hj,rfl⟩ := List.getElem_of_mem h1
   rw [getA,hno j (by rw [← Array.length_toList]; exact hj)] at h2
   cases h2
  have k1 := k _ hs1
  rw [e] at k1
  show AsBool (σ1 4) _
  rw [a4]
  refine AsBool.mk ?_
  cases c : knB d d.size with
  | true => rw [c] at k1; exact Cd.t rfl k1
  | false => rw [c] at k1; exact Cd.f rfl k1
theorem multiWrong_ok (hc : Con con lives) {L R1 R2 : List HP} {H : CH} {p : Nat} {lv : Value} {ms : List Value} {d : Array E3} {K : KP} (hs : Sat L H) (hp : Pull L (Own p (lv::ms)) R1) (hq : Pull R1 (EntA lv d) R2)
  (k : ∀ d' H1,d'.size = d.size→(errE d.toList = 0→d'.toList = srtE d.toList)→Sat (Own p (lv::ms)::EntA lv d'::R2) H1→K (iN (errE d.toList)) H1) : Call1 Try.prog con 54 [ptr p 0] H K := by
 refine call_of (hc _ _ _ rfl) ?_
 rw [multiWrong_W]
 have hs0 := hs.takes (.cons hp (.cons hq .nil))
 simp only [List.cons_append,List.nil_append] at hs0
 clear hs hp hq
 obtain ⟨pv,hlv⟩ := (hs0.has (Has.skip Has.entA)).len
 refine la rfl ?_
 refine AsLen.eq hlv ?_
 by_cases h16 : 16 < d.size
 ·refine Cd.t (ltZ_t h16) ?_
  have e : errE d.toList = 6 := by unfold errE; rw [if_pos (by rw [Array.length_toList]; exact h16)]
  have k1 := k d _ rfl (fun h => by rw [e] at h; cases h) hs0
  rw [e] at k1
  exact k1
 ·refine Cd.f (ltZ_f (by omega)) ?_
  refine la rfl ?_
  refine sortA_ok hc hs0 (.there .here) (by omega) fun d' H1 hsz hpm hinc h1 => ?_
  have h2 : Sat (Own p (lv::ms)::EntA lv d'::R2) H1 := h1.ent ee
  refine ld h2 rfl ?_
  refine AsLen.eq hlv ?_
  have ew := wrongA_eq hpm hinc (by rw [Array.length_toList]; omega)
  refine wrongLoop_ok hc h2 (by omega) rfl rfl rfl (by rw [hsz]; rfl) rfl fun H3 h3 => ?_
  rw [ew]
  exact k d' H3 hsz (fun h => sortE_eq hpm hinc (errE_zero h).2.2) h3
end Go.Proofs.Ytoogdnemkfbgdaa

