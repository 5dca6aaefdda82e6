/- What the functions do to the memories and procs that they are given: their contracts. The conditions stand in each. -/
import Derived.Test.YtnkbmaccgifeoaaGreatSpB
import Derived.Sort.AssemblyPlain
set_option linter.unusedVariables false
set_option linter.unusedSimpArgs false

set_option linter.unusedVariables false
set_option linter.unusedSimpArgs false
namespace Go.Proofs.YtnkbmaccgifeoaaGreat
open Go Go.CM
attribute [local irreducible] AsBool AsWant AsNat AsInt AsCnt AsPtr AsSlc AsLen AsStr AsAgg AsTup AsFn AsIfc Nth Sc NotNil IsNil Must Cd codeW funW Sat SatL wrapN subM mkRow ltZ leZ ltN leN
variable {con : CallT}
theorem sameAccess_ok (hc : Con con lives) {L : List HP} {H : CH} {v w : Value} {c : Acs} {K : KP} (hs : Sat L H) (hv : Has L (Nums v c.vals)) (hw : Has L (Nums w c.vals)) (hl : c.vals.length ≤ 1000000000) (k : ∀ H1,Sat L H1→K (.bool true) H1) :
  Call1 Tryz.prog con 46 [.agg ⟨encA c v⟩,.agg ⟨encA c w⟩] H K := by
 refine call_of (hc _ _ _ rfl) ?_
 unfold encA
 rw [sameAccess_W]
 obtain ⟨pv,cv,rfl⟩ := (hs.has hv).len
 obtain ⟨pw,cw,rfl⟩ := (hs.has hw).len
 refine nw hs fun p1 H1 h1 => nw h1 fun p3 H2 h2 => ?_
 repeat (refine gO ?_; intros)
 refine Cd.f (by rw [eqZ_self]; rfl) ?_
 repeat (refine gO ?_; intros)
 refine Cd.f (by rw [eqN_self]; rfl) ?_
 repeat (refine gO ?_; intros)
 refine Cd.f (by rw [eqN_self]; rfl) ?_
 repeat (refine gO ?_; intros)
 refine Cd.f (by rw [eqN_self]; rfl) ?_
 repeat (refine gO ?_; intros)
 refine Cd.f (by rw [eqN_self]; rfl) ?_
 repeat (refine gO ?_; intros)
 refine Cd.f (by rw [eqN_self]; rfl) ?_
 repeat (refine gO ?_; intros)
 refine Cd.f (by rw [eqB_self]; rfl) ?_
 repeat (refine gO ?_; intros)
 refine Cd.f (by rw [eqZ_self]; rfl) ?_
 refine LoopC.ind (n := 100) (by kernel_rfl) (fun (i : Nat) σ H => σ 2 = ptr p1 0∧σ 3 = ptr p3 0∧σ 5 = iN i∧i ≤ c.vals.length∧H = H2) (fun i => c.vals.length - i) (fun i σ H hI => ?_) 0 _ _ ⟨rfl,rfl,rfl,Nat.zero_le _,rfl⟩
 obtain ⟨e2,e3,e5,hi,rfl⟩ := hI
 rw [sameAccessL_W]
 simp only [e2,e3,e5]
 repeat (refine gO ?_; intros)
 rcases Nat.lt_or_ge i c.vals.length with hlt | hge
 ·refine Cd.t (ltZ_t (by omega)) ?_
  rcases (hs.has hv).shape with ⟨h3,h4⟩ | ⟨b,o,c',h3⟩
  ·rw [h4] at hlt; simp at hlt
  rcases (hs.has hw).shape with ⟨h5,h6⟩ | ⟨b',o',c'',h5⟩
  ·rw [h6] at hlt; simp at hlt
  cases h3
  cases h5
  repeat (refine gO ?_; intros)
  refine Must.mk (ltN_t hlt) ?_
  refine ldSrc h2 (Src.skip (Src.skip (hv.src rfl))) (by rw [show Nat.mul i 1 = i from Nat.mul_one i]; rfl) (map_get _ hlt) ?_
  repeat (refine gO ?_; intros)
  refine Must.mk (ltN_t hlt) ?_
  refine ldSrc h2 (Src.skip (Src.skip (hw.src rfl))) (by rw [show Nat.mul i 1 = i from Nat.mul_one i]; rfl) (map_get _ hlt) ?_
  repeat (refine gO ?_; intros)
  refine Cd.f (by rw [eqN_self]; rfl) ?_
  repeat (refine gO ?_; intros)
  refine inR_nat (n := i + 1) (by omega) ?_
  show ∃ y,_∧_
  exact ⟨i + 1,by omega,e2,e3,rfl,hlt,rfl⟩
 ·refine Cd.f (ltZ_f (by omega)) ?_
  show Cd _ _ _
  refine Cd.t (eqN_self 0) ?_
  exact k _ h2.drop.drop
theorem sameTraceK_ok (hc : Con con lives) {L R1 R2 : List HP} {H : CH} {x y : Value} {e e' : Nat} {l : List Acs} {K : KP} (hs : Sat L H) (hp : Pull L (TrAt x e l) R1) (hq : Pull R1 (TrAt y e' l) R2) (hl : l.length ≤ 1000000000) (hvl : ∀ a ∈ l,a.vals.length ≤ 1000000000) (k : ∀ H1,Sat (TrAt y e' l::R2) H1→K (.bool true) H1) :
  Call1 Tryz.prog con 18 [x,y] H K := by
 refine call_of (hc _ _ _ rfl) ?_
 rw [sameTrace_W]
 have hs0 := hs.takes (.cons hp (.cons hq .nil))
 simp only [List.cons_append,List.nil_append] at hs0
 obtain ⟨h1,h2,s1,s2,d,⟨vs,hvs,hva⟩,hR⟩ := hs0.opens Pull.here
 have hsa := Sat.merge s1 s2 d hva hR
 have hsb : Sat (TrAt y e' l::(Vec x e 8 (List.zipWith encA l vs)::valsL l vs++R2)) H := by
  refine hsa.pull ?_
  have pu : ∀ (L1 : List HP),Pull (L1++(TrAt y e' l::R2)) (TrAt y e' l) (L1++R2) := fun L1 => by
   induction L1 with
   | nil => exact Pull.here
   | cons A L1 ih => exact Pull.there ih
  exact pu _
 obtain ⟨g1,g2,t1,t2,d2,⟨ws,hws,hb⟩,hR2⟩ := hsb.opens Pull.here
 have hs1 := Sat.merge t1 t2 d2 hb hR2
 have hV : Has (Vec y e' 8 (List.zipWith encA l ws)::valsL l ws++(Vec x e 8 (List.zipWith encA l vs)::valsL l vs++R2)) (Vec x e 8 (List.zipWith encA l vs)) := Has.app Has.vec
 have hW : Has (Vec y e' 8 (List.zipWith encA l ws)::valsL l ws++(Vec x e 8 (List.zipWith encA l vs)::valsL l vs++R2)) (Vec y e' 8 (List.zipWith encA l ws)) := Has.vec
 have hNv : ∀ (i : Nat) (c : Acs) (v : Value),l[i]? = some c→vs[i]? = some v→Has (Vec y e' 8 (List.zipWith encA l ws)::valsL l ws++(Vec x e 8 (List.zipWith encA l vs)::valsL l vs++R2)) (Nums v c.vals) := fun i c v h1 h2 => Has.app (Has.skip (Has.vals h1 h2))
 have hNw : ∀ (i : Nat) (c : Acs) (v : Value),l[i]? = some c→ws[i]? = some v→Has (Vec y e' 8 (List.zipWith encA l ws)::valsL l ws++(Vec x e 8 (List.zipWith encA l vs)::valsL l vs++R2)) (Nums v c.vals) := fun i c v h1 h2 => Has.skip (Has.vals h1 h2)
 have hend : ∀ {H1},Sat (Vec y e' 8 (List.zipWith encA l ws)::valsL l ws++(Vec x e 8 (List.zipWith encA l vs)::valsL l vs++R2)) H1→Sat (TrAt y e' l::R2) H1 := fun h => by
  have dr : ∀ (L1 : List HP) {R : List HP} {h : PH},SatL (L1++R) h→SatL R h := fun L1 => by
   induction L1 with
   | nil => exact fun h => h
   | cons A L1 ih => exact fun h => ih (SatL.drop h)
  have h2 : Sat (TrAt y e' l::(Vec x e 8 (List.zipWith encA l vs)::valsL l vs++R2)) _ := Sat.close (L1 := Vec y e' 8 (List.zipWith encA l ws)::valsL l ws) h fun g a => ⟨ws,hws,a⟩
  exact Sat.mk (SatL.under (fun g a => dr _ a) (Sat.out h2))
 generalize (Vec y e' 8 (List.zipWith encA l ws)::valsL l ws++(Vec x e 8 (List.zipWith encA l vs)::valsL l vs++R2)) = L' at hs1 hV hW hNv hNw hend
 have lv : (List.zipWith encA l vs).length = l.length := by rw [List.length_zipWith,hvs,Nat.min_self]
 have lw : (List.zipWith encA l ws).length = l.length := by rw [List.length_zipWith,hws,Nat.min_self]
 obtain ⟨px,ex⟩ := (hs1.has hV).shape
 obtain ⟨py,ey⟩ := (hs1.has hW).shape
 rw [lv] at ex
 rw [lw] at ey
 subst ex; subst ey
 repeat (refine gO ?_; intros)
 refine Cd.f (by rw [eqZ_self]; rfl) ?_
 refine LoopC.ind (n := 100) (by kernel_rfl) (fun (i : Nat) σ H => σ 0 = .slice px l.length l.length∧σ 1 = .slice py l.length l.length∧σ 5 = iN i∧i ≤ l.length∧Sat L' H) (fun i => l.length - i) (fun i σ H hI => ?_) 0 _ _ ⟨rfl,rfl,rfl,Nat.zero_le _,hs1⟩
 obtain ⟨e0,e1,e5,hi,hs2⟩ := hI
 rw [sameTraceL_W]
 simp only [e0,e1,e5]
 repeat (refine gO ?_; intros)
 rcases Nat.lt_or_ge i l.length with hlt | hge
 ·refine Cd.t (ltZ_t (by omega)) ?_
  obtain ⟨a,ha⟩ : ∃ a,l[i]? = some a := ⟨_,List.getElem?_eq_getElem hlt⟩
  obtain ⟨v,hv⟩ : ∃ v,vs[i]? = some v := ⟨_,List.getElem?_eq_getElem (by omega)⟩
  obtain ⟨w,hw⟩ : ∃ w,ws[i]? = some w := ⟨_,List.getElem?_eq_getElem (by omega)⟩
  have hne : l ≠ [] := by rintro rfl; simp at hlt
  have ox : ∃ b,Value.slice px l.length l.length = slc b 0 l.length l.length := by
   rcases (hs2.has hV).2 with ⟨e1,e2⟩ | ⟨b,_,e2,_⟩
   ·have e3 : l.length = 0 := by injection e1
    omega
   ·rw [lv] at e2; exact ⟨b,e2⟩
  have oy : ∃ b,Value.slice py l.length l.length = slc b 0 l.length l.length := by
   rcases (hs2.has hW).2 with ⟨e1,e2⟩ | ⟨b,_,e2,_⟩
   ·have e3 : l.length = 0 := by injection e1
    omega
   ·rw [lw] at e2; exact ⟨b,e2⟩
  obtain ⟨bx,ox⟩ := ox
  obtain ⟨by_,oy⟩ := oy
  cases ox
  cases oy
  repeat (refine gO ?_; intros)
  refine Must.mk (ltN_t hlt) ?_
  refine ldTr hs2 hV rfl ha hv (j := 0) (by simp) (by omega) rfl ?_
  refine ldTr hs2 hV rfl ha hv (j := 1) (by simp) (by omega) rfl ?_
  refine ldTr hs2 hV rfl ha hv (j := 2) (by simp) (by omega) rfl ?_
  refine ldTr hs2 hV rfl ha hv (j := 3) (by simp) (by omega) rfl ?_
  refine ldTr hs2 hV rfl ha hv (j := 4) (by simp) (by omega) rfl ?_
  refine ldTr hs2 hV rfl ha hv (j := 5) (by simp) (by omega) rfl ?_
  refine ldTr hs2 hV rfl ha hv (j := 6) (by simp) (by omega) rfl ?_
  refine ldTr hs2 hV rfl ha hv (j := 7) (by simp) (by omega) rfl ?_
  repeat (refine gO ?_; intros)
  refine Must.mk (ltN_t hlt) ?_
  refine ldTr hs2 hW rfl ha hw (j := 0) (by simp) (by omega) rfl ?_
  refine ldTr hs2 hW rfl ha hw (j := 1) (by simp) (by omega) rfl ?_
  refine ldTr hs2 hW rfl ha hw (j := 2) (by simp) (by omega) rfl ?_
  refine ldTr hs2 hW rfl ha hw (j := 3) (by simp) (by omega) rfl ?_
  refine ldTr hs2 hW rfl ha hw (j := 4) (by simp) (by omega) rfl ?_
  refine ldTr hs2 hW rfl ha hw (j := 5) (by simp) (by omega) rfl ?_
  refine ldTr hs2 hW rfl ha hw (j := 6) (by simp) (by omega) rfl ?_
  refine ldTr hs2 hW rfl ha hw (j := 7) (by simp) (by omega) rfl ?_
  refine sameAccess_ok (c := a) hc hs2 (hNv i a v ha hv) (hNw i a w ha hw) (hvl a (List.mem_of_getElem? ha)) fun H3 h3 => ?_
  repeat (refine gO ?_; intros)
  refine inR_nat (n := i + 1) (by omega) ?_
  show ∃ y,_∧_
  exact ⟨i + 1,by omega,e0,e1,rfl,hlt,h3⟩
 ·refine Cd.f (ltZ_f (by omega)) ?_
  show Cd _ _ _
  refine Cd.t (eqN_self 0) ?_
  exact k _ (hend hs2)
theorem sameTrace_ok (hc : Con con lives) {L R1 R2 : List HP} {H : CH} {x y : Value} {e e' : Nat} {l : List Acs} {K : KP} (hs : Sat L H) (hp : Pull L (TrAt x e l) R1) (hq : Pull R1 (TrAt y e' l) R2) (hl : l.length ≤ 1000000000) (hvl : ∀ a ∈ l,a.vals.length ≤ 1000000000) (k : ∀ H1,Sat R2 H1→K (.bool true) H1) :
  Call1 Tryz.prog con 18 [x,y] H K := sameTraceK_ok hc hs hp hq hl hvl fun H1 h => k H1 h.drop
end Go.Proofs.YtnkbmaccgifeoaaGreat

set_option linter.unusedVariables false
set_option linter.unusedSimpArgs false
namespace Go.Proofs.YtnkbmaccgifeoaaGreat
open Go Go.CM
attribute [local irreducible] AsBool AsWant AsNat AsInt AsCnt AsPtr AsSlc AsLen AsStr AsAgg AsTup AsFn AsIfc Nth Sc NotNil IsNil Must Cd codeW funW Sat SatL wrapN subM mkRow ltZ leZ ltN leN
attribute [local irreducible] isFunT
variable {con : CallT}
abbrev rowsU (l : List Nat) : List (List Value) := l.map fun x => [u64 x]
theorem sameU_ok (hc : Con con lives) {L : List HP} {H : CH} {v w : Value} {l : List Nat} {K : KP} (hs : Sat L H) (hv : Has L (Nums v l)) (hw : Has L (Nums w l)) (hl : l.length ≤ 1000000000) (k : K (.bool true) H) :
  Call1 Tryz.prog con 27 [v,w] H K := by
 refine call_of (hc _ _ _ rfl) ?_
 rw [sameU_W]
 obtain ⟨pv,cv,rfl⟩ := (hs.has hv).len
 obtain ⟨pw,cw,rfl⟩ := (hs.has hw).len
 repeat (refine gO ?_; intros)
 refine Cd.f (by rw [eqZ_self]; rfl) ?_
 refine LoopC.ind (n := 100) (by kernel_rfl) (fun (i : Nat) σ H1 => σ 0 = .slice pv l.length cv∧σ 1 = .slice pw l.length cw∧σ 5 = iN i∧i ≤ l.length∧H1 = H) (fun i => l.length - i) (fun i σ H1 hI => ?_) 0 _ _ ⟨rfl,rfl,rfl,Nat.zero_le _,rfl⟩
 obtain ⟨e0,e1,e5,hi,rfl⟩ := hI
 rw [sameUL_W]
 simp only [e0,e1,e5]
 repeat (refine gO ?_; intros)
 rcases Nat.lt_or_ge i l.length with hlt | hge
 ·refine Cd.t (ltZ_t (by omega)) ?_
  rcases (hs.has hv).shape with ⟨h3,h4⟩ | ⟨b,o,c',h3⟩
  ·rw [h4] at hlt; simp at hlt
  rcases (hs.has hw).shape with ⟨h5,h6⟩ | ⟨b',o',c'',h5⟩
  ·rw [h6] at hlt; simp at hlt
  cases h3
  cases h5
  repeat (refine gO ?_; intros)
  refine Must.mk (ltN_t hlt) ?_
  refine ldSrc hs (hv.src rfl) (by rw [show Nat.mul i 1 = i from Nat.mul_one i]; rfl) (map_get _ hlt) ?_
  repeat (refine gO ?_; intros)
  refine Must.mk (ltN_t hlt) ?_
  refine ldSrc hs (hw.src rfl) (by rw [show Nat.mul i 1 = i from Nat.mul_one i]; rfl) (map_get _ hlt) ?_
  repeat (refine gO ?_; intros)
  refine Cd.f (by rw [eqN_self]; rfl) ?_
  repeat (refine gO ?_; intros)
  refine inR_nat (n := i + 1) (by omega) ?_
  show ∃ y,_∧_
  exact ⟨i + 1,by omega,e0,e1,rfl,hlt,rfl⟩
 ·refine Cd.f (ltZ_f (by omega)) ?_
  show Cd _ _ _
  refine Cd.t (eqN_self 0) ?_
  exact k
def wordF (x : Nat) : Nat := Nat.mod (Nat.mul 4 x) 18446744073709551616
theorem mWord_ok (hc : Con con lives) {H : CH} {x : Nat} {K : KP} (k0 : 4611686018427387904 ≤ x→K (.tuple ⟨[u64 0,iN 2]⟩) H) (k1 : x < 4611686018427387904→K (.tuple ⟨[u64 (wordF x),iN 0]⟩) H) : Call1 Tryz.prog con 63 [u64 x] H K := by
 refine call_of (hc _ _ _ rfl) ?_
 rw [mWord_W]
 by_cases h : 4611686018427387904 ≤ x
 ·exact Cd.t (leN_t h) (k0 h)
 ·exact Cd.f (leN_f (by omega)) (k1 (by omega))
theorem rWord29_ok (hc : Con con lives) {H : CH} {x : Nat} {K : KP} (k0 : 4611686018427387904 ≤ x→K (.tuple ⟨[u64 0,iN 2]⟩) H) (k1 : x < 4611686018427387904→K (.tuple ⟨[u64 (wordF x),iN 0]⟩) H) : Call1 Tryz.prog con 65 [u64 x] H K := by
 refine call_of (hc _ _ _ rfl) ?_
 rw [rWord29_W]
 by_cases h : 4611686018427387904 ≤ x
 ·exact Cd.t (leN_t h) (k0 h)
 ·exact Cd.f (leN_f (by omega)) (k1 (by omega))
theorem take_map {l : List Nat} {i : Nat} (h : i < l.length) : rowsU ((l.take i).map wordF)++[[u64 (wordF (l.getD i 0))]] = rowsU ((l.take (i + 1)).map wordF) := by
 rw [List.take_add_one,List.getElem?_eq_getElem h,List.getD_eq_getElem?_getD,List.getElem?_eq_getElem h]
 simp only [rowsU,Option.toList_some,List.map_append,List.map_cons,List.map_nil,Option.getD_some]
theorem take_lt {l : List Nat} {i c : Nat} (h : i < l.length) (hx : ∀ x ∈ l.take i,x < c) (hn : l.getD i 0 < c) : ∀ x ∈ l.take (i + 1),x < c := fun x m => by
 rw [List.take_add_one,List.getElem?_eq_getElem h] at m
 rw [List.getD_eq_getElem?_getD,List.getElem?_eq_getElem h] at hn
 rcases List.mem_append.1 m with m | m
 ·exact hx x m
 ·obtain rfl : x = l[i] := by simpa using m
  exact hn
theorem getD_mem {l : List Nat} {i : Nat} (h : i < l.length) : l.getD i 0 ∈ l := by
 rw [List.getD_eq_getElem?_getD,List.getElem?_eq_getElem h]
 exact List.getElem_mem h
def errA (a : Nat) : Nat := if a = 0 then 30 else 0
theorem mMake_ok (hc : Con con lives) {L R1 R2 : List HP} {H : CH} {p m : Nat} {M : Mem} {v : Value} {th : Int} {l : List Nat} {K : KP} (hs : Sat L H) (hm : Pull L (MemP m M) R1) (hv : Pull R1 (ViewAt p m th 0) R2) (hq : Has R2 (Nums v l)) (hl : l.length ≤ 1048576)
  (ht : M.tr.length < 1000000000) (k0 : (∃ x ∈ l,4611686018427387904 ≤ x)→∀ H1,Sat (MemP m M::R2) H1→K (.tuple ⟨[u64 0,iN 2]⟩) H1)
  (k1 : (∀ x ∈ l,x < 4611686018427387904)→∀ H1,Sat (MemP m (M.alloc th (l.map wordF))::R2) H1→K (.tuple ⟨[u64 (M.room (l.map wordF)),iN (errA (M.room (l.map wordF)))]⟩) H1) :
  Call1 Tryz.prog con 49 [ptr p 0,v] H K := by
 refine call_of (hc _ _ _ rfl) ?_
 rw [mMake_W]
 have hs0 := hs.takes (.cons hm (.cons hv .nil))
 simp only [List.cons_append,List.nil_append] at hs0
 obtain ⟨pv,cv,ev⟩ := (hs0.has (Has.skip (Has.skip hq))).len
 refine AsLen.eq ev ?_
 refine LoopC.ind (n := 100) (by kernel_rfl)
  (fun (i : Nat) σ1 H1 => i ≤ l.length∧(∀ x ∈ l.take i,x < 4611686018427387904)∧∃ w,σ1 6 = w∧σ1 0 = ptr p 0∧σ1 14 = v∧σ1 15 = iN l.length∧σ1 16 = iN i∧Sat (Vec w tU 1 (rowsU ((l.take i).map wordF))::MemP m M::ViewAt p m th 0::R2) H1)
  (fun i => l.length - i) (fun i σ1 H1 hI => ?_) 0 _ _ ⟨Nat.zero_le _,fun x h => by simp at h,snil,rfl,rfl,rfl,rfl,rfl,(hs0.nilV (e := tU) (s := 1)).ent ee⟩
 obtain ⟨hi,hx,w,a6,a0,a14,a15,a16,hs1⟩ := hI
 rw [mMakeL_W]
 simp only [a6,a15,a16]
 repeat (refine gO ?_; intros)
 by_cases h : i < l.length
 ·refine Cd.t (ltZ_t h) ?_
  rcases (hs0.has (Has.skip (Has.skip hq))).shape with ⟨h3,h4⟩ | ⟨b',o,c',h3⟩
  ·rw [h4] at h; simp at h
  refine AsSlc.eq (a14.trans h3) ?_
  repeat (refine gO ?_; intros)
  refine Must.mk (ltN_t h) ?_
  refine ldSrc hs1 ((Has.skip (Has.skip (Has.skip hq))).src h3) (by rw [show Nat.mul i 1 = i from Nat.mul_one i]; rfl) (map_get _ h) ?_
  refine mWord_ok hc (fun hb => ?_) (fun hb => ?_)
  ·repeat (refine gO ?_; intros)
   exact k0 ⟨_,getD_mem h,hb⟩ _ (hs1.ent ee)
  ·repeat (refine gO ?_; intros)
   rename_i p16 H17 h17
   refine app_vec (new := [[u64 (wordF (l.getD i 0))]]) h17 pp el_u64 (by omega) sl_u64 (Src.cell (n := 1) (by rfl)) rfl (by simp) (by simp; omega) rfl fun w' H28 h28 => ?_
   rw [take_map h] at h28
   repeat (refine gO ?_; intros)
   rw [show Int.add (Int.ofNat i) (Int.ofNat 1) = Int.ofNat (i + 1) from addInt _ _]
   refine inR_nat (by omega) ?_
   show ∃ y,_∧_
   exact ⟨i + 1,by omega,h,take_lt h hx hb,w',rfl,a0,a14,a15,rfl,h28.ent ee⟩
 ·refine Cd.f (ltZ_f (by omega)) ?_
  obtain rfl : i = l.length := by omega
  show Cd _ _ _
  refine Cd.t rfl ?_
  show Call1 Tryz.prog con 64 [σ1 0,σ1 6] _ _
  rw [a0,a6]
  rw [List.take_length] at hs1 hx
  have h2 : Sat (MemP m M::ViewAt p m th 0::Nums w (l.map wordF)::R2) H1 := hs1.imp (fun g a => Vec.nums a) |>.ent ee
  refine viewAlloc_ok hc h2 pp pp Has.nums (by simp; omega) (by omega) ht fun H2 h3 => ?_
  repeat (refine gO ?_; intros)
  have h4 := k1 hx H2 (h3.ent ee)
  unfold errA at h4
  by_cases hz : M.room (l.map wordF) = 0
  ·rw [if_pos hz] at h4
   refine Cd.t (eqN_t hz) ?_
   rw [hz] at h4
   exact h4
  ·rw [if_neg hz] at h4
   exact Cd.f (eqN_f hz) h4
theorem rMake29_ok (hc : Con con lives) {L R2 : List HP} {H : CH} {m : Nat} {M : Mem} {v : Value} {th : Int} {l : List Nat} {K : KP} (hs : Sat L H) (hm : Pull L (RefP m M) R2) (hq : Has R2 (Nums v l)) (hl : l.length ≤ 1048576)
  (ht : M.tr.length < 1000000000) (k0 : (∃ x ∈ l,4611686018427387904 ≤ x)→∀ H1,Sat (RefP m M::R2) H1→K (.tuple ⟨[u64 0,iN 2]⟩) H1)
  (k1 : (∀ x ∈ l,x < 4611686018427387904)→∀ H1,Sat (RefP m (M.alloc th (l.map wordF))::R2) H1→K (.tuple ⟨[u64 (M.room (l.map wordF)),iN (errA (M.room (l.map wordF)))]⟩) H1) :
  Call1 Tryz.prog con 50 [ptr m 0,i64 th,v] H K := by
 refine call_of (hc _ _ _ rfl) ?_
 rw [rMake29_W]
 have hs0 := hs.pull hm
 obtain ⟨pv,cv,ev⟩ := (hs0.has (Has.skip hq)).len
 refine LoopC.ind (n := 100) (by kernel_rfl)
  (fun (i : Nat) σ1 H1 => i ≤ l.length∧(∀ x ∈ l.take i,x < 4611686018427387904)∧∃ w,σ1 8 = w∧σ1 0 = ptr m 0∧σ1 2 = v∧σ1 1 = i64 th∧σ1 9 = iN i∧Sat (Vec w tU 1 (rowsU ((l.take i).map wordF))::RefP m M::R2) H1)
  (fun i => l.length - i) (fun i σ1 H1 hI => ?_) 0 _ _ ⟨Nat.zero_le _,fun x h => by simp at h,snil,rfl,rfl,rfl,rfl,rfl,(hs0.nilV (e := tU) (s := 1)).ent ee⟩
 obtain ⟨hi,hx,w,a6,a0,a14,a15,a16,hs1⟩ := hI
 rw [rMake29L_W]
 simp only [a6,a16]
 refine AsLen.eq (a14.trans ev) ?_
 repeat (refine gO ?_; intros)
 by_cases h : i < l.length
 ·refine Cd.t (ltZ_t h) ?_
  rcases (hs0.has (Has.skip hq)).shape with ⟨h3,h4⟩ | ⟨b',o,c',h3⟩
  ·rw [h4] at h; simp at h
  refine AsSlc.eq (a14.trans h3) ?_
  repeat (refine gO ?_; intros)
  refine Must.mk (ltN_t h) ?_
  refine ldSrc hs1 ((Has.skip (Has.skip hq)).src h3) (by rw [show Nat.mul i 1 = i from Nat.mul_one i]; rfl) (map_get _ h) ?_
  refine rWord29_ok hc (fun hb => ?_) (fun hb => ?_)
  ·repeat (refine gO ?_; intros)
   exact k0 ⟨_,getD_mem h,hb⟩ _ (hs1.ent ee)
  ·repeat (refine gO ?_; intros)
   rename_i p16 H17 h17
   refine app_vec (new := [[u64 (wordF (l.getD i 0))]]) h17 pp el_u64 (by omega) sl_u64 (Src.cell (n := 1) (by rfl)) rfl (by simp) (by simp; omega) rfl fun w' H28 h28 => ?_
   rw [take_map h] at h28
   repeat (refine gO ?_; intros)
   rw [show Int.add (Int.ofNat i) (Int.ofNat 1) = Int.ofNat (i + 1) from addInt _ _]
   refine inR_nat (by omega) ?_
   show ∃ y,_∧_
   exact ⟨i + 1,by omega,h,take_lt h hx hb,w',rfl,a0,a14,a15,rfl,h28.ent ee⟩
 ·refine Cd.f (ltZ_f (by omega)) ?_
  obtain rfl : i = l.length := by omega
  show Cd _ _ _
  refine Cd.t rfl ?_
  show Call1 Tryz.prog con 43 [σ1 0,σ1 1,σ1 8] _ _
  rw [a0,a6,a15]
  rw [List.take_length] at hs1 hx
  have h2 : Sat (RefP m M::Nums w (l.map wordF)::R2) H1 := hs1.imp (fun g a => Vec.nums a) |>.ent ee
  refine refAlloc_ok hc h2 pp Has.nums (by simp; omega) ht fun H2 h3 => ?_
  repeat (refine gO ?_; intros)
  have h4 := k1 hx H2 (h3.ent ee)
  unfold errA at h4
  by_cases hz : M.room (l.map wordF) = 0
  ·rw [if_pos hz] at h4
   refine Cd.t (eqN_t hz) ?_
   rw [hz] at h4
   exact h4
  ·rw [if_neg hz] at h4
   exact Cd.f (eqN_f hz) h4
def cellW (M : Mem) (a i : Nat) : Nat := M.peek (Nat.mod (Nat.add a i) 18446744073709551616)
def valW (M : Mem) (a i : Nat) : Nat := Nat.mod (Nat.div (cellW M a i) 4) 18446744073709551616
def GoodC (M : Mem) (a i : Nat) : Prop := Nat.mod (cellW M a i) 4 ≠ 1∧Nat.mod (cellW M a i) 4 ≠ 2
def GoodV (M : Mem) (a n : Nat) : Prop := ∀ i,i < n→GoodC M a i
def valsW (M : Mem) (a n : Nat) : List Nat := (List.range n).map (valW M a)
theorem valsW_succ (M : Mem) (a n : Nat) : rowsU (valsW M a n)++[[u64 (valW M a n)]] = rowsU (valsW M a (n + 1)) := by
 unfold valsW
 rw [List.range_succ,List.map_append,rowsU,rowsU,List.map_append]
 rfl
theorem valsW_len (M : Mem) (a n : Nat) : (valsW M a n).length = n := by unfold valsW; simp
theorem good_succ {M : Mem} {a i : Nat} (h : ∀ j,j < i→GoodC M a j) (h2 : GoodC M a i) : ∀ j,j < i + 1→GoodC M a j := fun j hj => by
 rcases Nat.lt_or_ge j i with q | q
 ·exact h j q
 ·obtain rfl : j = i := by omega
  exact h2
theorem mValues_ok (hc : Con con lives) {L R : List HP} {H : CH} {m a n : Nat} {z : Int} {M : Mem} {K : KP} (hs : Sat L H) (hm : Pull L (MemP m M) R) (hz : z = Int.ofNat n) (hn : n ≤ 16) (ha : a < 18446744073709551616)
  (k0 : ¬ GoodV M a n→∀ H1,Sat L H1→K (.tuple ⟨[snil,.bool false]⟩) H1) (k1 : GoodV M a n→∀ w H1,Sat (Vec w tU 1 (rowsU (valsW M a n))::L) H1→K (.tuple ⟨[w,.bool true]⟩) H1) :
  Call1 Tryz.prog con 25 [ptr m 0,u64 a,i64 z] H K := by
 subst hz
 refine call_of (hc _ _ _ rfl) ?_
 rw [mValues_W]
 refine Cd.f (ltZ_f (by omega)) ?_
 refine Cd.f (ltZ_f (by omega)) ?_
 refine Must.mk (cv_small (by omega)) ?_
 rw [wrapN_small (by omega)]
 refine LoopC.ind (n := 100) (by kernel_rfl)
  (fun (i : Nat) σ1 H1 => i ≤ n∧(∀ j,j < i→GoodC M a j)∧∃ w,σ1 8 = w∧σ1 0 = ptr m 0∧σ1 1 = u64 a∧σ1 22 = u64 n∧σ1 23 = u64 i∧Sat (Vec w tU 1 (rowsU (valsW M a i))::L) H1)
  (fun i => n - i) (fun i σ1 H1 hI => ?_) 0 _ _ ⟨Nat.zero_le _,fun j h => by omega,snil,rfl,rfl,rfl,rfl,rfl,hs.nilV (e := tU) (s := 1)⟩
 obtain ⟨hi,hx,w,a8,a0,a1,a22,a23,hs1⟩ := hI
 rw [mValuesL_W]
 simp only [a8,a0,a1,a22,a23]
 repeat (refine gO ?_; intros)
 by_cases h : i < n
 ·refine Cd.t (ltN_t h) ?_
  repeat (refine gO ?_; intros)
  refine memPeek_ok hc hs1 (.there hm) ?_
  show AsNat .u64 (u64 (cellW M a i)) _
  repeat (refine gO ?_; intros)
  by_cases g1 : Nat.mod (cellW M a i) 4 = 1
  ·refine Cd.t (eqN_t g1) ?_
   exact k0 (fun g => (g i h).1 g1) _ (hs1.ent ee)
  ·refine Cd.f (eqN_f g1) ?_
   repeat (refine gO ?_; intros)
   by_cases g2 : Nat.mod (cellW M a i) 4 = 2
   ·refine Cd.t (eqN_t g2) ?_
    exact k0 (fun g => (g i h).2 g2) _ (hs1.ent ee)
   ·refine Cd.f (eqN_f g2) ?_
    repeat (refine gO ?_; intros)
    rename_i p16 H17 h17
    have hlen := valsW_len M a i
    refine app_vec (new := [[u64 (valW M a i)]]) h17 pp el_u64 (by omega) sl_u64 (Src.cell (n := 1) (by rfl)) rfl (by simp) (by simp; omega) rfl fun w' H28 h28 => ?_
    rw [valsW_succ] at h28
    repeat (refine gO ?_; intros)
    rw [show Nat.mod (Nat.add i 1) 18446744073709551616 = i + 1 from Nat.mod_eq_of_lt (by show i + 1 < _; omega)]
    show ∃ y,_∧_
    exact ⟨i + 1,by omega,h,good_succ hx ⟨g1,g2⟩,w',rfl,a0,a1,a22,rfl,h28.ent ee⟩
 ·refine Cd.f (ltN_f (by omega)) ?_
  obtain rfl : i = n := by omega
  show Cd _ _ _
  refine Cd.t rfl ?_
  show K (.tuple ⟨[σ1 8,.bool true]⟩) H1
  rw [a8]
  exact k1 hx w H1 hs1
theorem rValues29_ok (hc : Con con lives) {L R : List HP} {H : CH} {m a n : Nat} {z : Int} {M : Mem} {K : KP} (hs : Sat L H) (hm : Pull L (RefP m M) R) (hz : z = Int.ofNat n) (hn : n ≤ 16) (ha : a < 18446744073709551616)
  (k0 : ¬ GoodV M a n→∀ H1,Sat L H1→K (.tuple ⟨[snil,.bool false]⟩) H1) (k1 : GoodV M a n→∀ w H1,Sat (Vec w tU 1 (rowsU (valsW M a n))::L) H1→K (.tuple ⟨[w,.bool true]⟩) H1) :
  Call1 Tryz.prog con 26 [ptr m 0,u64 a,i64 z] H K := by
 subst hz
 refine call_of (hc _ _ _ rfl) ?_
 rw [rValues29_W]
 refine Cd.f (ltZ_f (by omega)) ?_
 refine Cd.f (ltZ_f (by omega)) ?_
 refine LoopC.ind (n := 100) (by kernel_rfl)
  (fun (i : Nat) σ1 H1 => i ≤ n∧(∀ j,j < i→GoodC M a j)∧∃ w,σ1 8 = w∧σ1 0 = ptr m 0∧σ1 1 = u64 a∧σ1 2 = iN n∧σ1 9 = iN i∧Sat (Vec w tU 1 (rowsU (valsW M a i))::L) H1)
  (fun i => n - i) (fun i σ1 H1 hI => ?_) 0 _ _ ⟨Nat.zero_le _,fun j h => by omega,snil,rfl,rfl,rfl,rfl,rfl,hs.nilV (e := tU) (s := 1)⟩
 obtain ⟨hi,hx,w,a8,a0,a1,a2,a9,hs1⟩ := hI
 rw [rValues29L_W]
 simp only [a8,a0,a1,a2,a9]
 repeat (refine gO ?_; intros)
 by_cases h : i < n
 ·refine Cd.t (ltZ_t h) ?_
  repeat (refine gO ?_; intros)
  refine Must.mk (cv_small (by omega)) ?_
  rw [wrapN_small (by omega)]
  repeat (refine gO ?_; intros)
  refine refPeek_ok hc hs1 (.there hm) ?_
  show Call1 Tryz.prog con 38 [u64 (cellW M a i)] _ _
  refine isLock_ok hc ?_
  repeat (refine gO ?_; intros)
  by_cases g1 : Nat.mod (cellW M a i) 4 = 1
  ·refine Cd.t (eqN_t g1) ?_
   exact k0 (fun g => (g i h).1 g1) _ (hs1.ent ee)
  ·refine Cd.f (eqN_f g1) ?_
   refine isPlan_ok hc ?_
   repeat (refine gO ?_; intros)
   by_cases g2 : Nat.mod (cellW M a i) 4 = 2
   ·refine Cd.t (eqN_t g2) ?_
    exact k0 (fun g => (g i h).2 g2) _ (hs1.ent ee)
   ·refine Cd.f (eqN_f g2) ?_
    repeat (refine gO ?_; intros)
    rename_i p16 H17 h17
    have hlen := valsW_len M a i
    refine app_vec (new := [[u64 (valW M a i)]]) h17 pp el_u64 (by omega) sl_u64 (Src.cell (n := 1) (by rfl)) rfl (by simp) (by simp; omega) rfl fun w' H28 h28 => ?_
    rw [valsW_succ] at h28
    repeat (refine gO ?_; intros)
    rw [show Int.add (Int.ofNat i) (Int.ofNat 1) = Int.ofNat (i + 1) from addInt _ _]
    refine inR_nat (by omega) ?_
    show ∃ y,_∧_
    exact ⟨i + 1,by omega,h,good_succ hx ⟨g1,g2⟩,w',rfl,a0,a1,a2,rfl,h28.ent ee⟩
 ·refine Cd.f (ltZ_f (by omega)) ?_
  obtain rfl : i = n := by omega
  show Cd _ _ _
  refine Cd.t rfl ?_
  show K (.tuple ⟨[σ1 8,.bool true]⟩) H1
  rw [a8]
  exact k1 hx w H1 hs1
end Go.Proofs.YtnkbmaccgifeoaaGreat

set_option linter.unusedVariables false
set_option linter.unusedSimpArgs false
namespace Go.Proofs.YtnkbmaccgifeoaaGreat
open Go Go.CM
attribute [local irreducible] AsBool AsWant AsNat AsInt AsCnt AsPtr AsSlc AsLen AsStr AsAgg AsTup AsFn AsIfc Nth Sc NotNil IsNil Must Cd codeW funW Sat SatL wrapN subM mkRow ltZ leZ ltN leN
attribute [local irreducible] isFunT
variable {con : CallT}
theorem call_yes {f : FuncId} {args : List Value} {H : CH} {K : KP} {v : Value} (h : con f ⟨args⟩ H = some (v,H)) (k : K v H) : Call1 Tryz.prog con f args H K := ⟨⟨0,v,H,h,k⟩⟩
def cut62 (x : Nat) : Nat := Nat.mod x 4611686018427387904
def mem5 (n : Nat) (f : List Nat) : Mem := (mem0 n).alloc (Int.negSucc 0) ((f.map cut62).map wordF)
theorem cut62_lt (x : Nat) : cut62 x < 4611686018427387904 := Nat.mod_lt _ (by omega)
theorem wordF_lt (x : Nat) : wordF x < 18446744073709551616 := Nat.mod_lt _ (by omega)
theorem fin0 {n : Nat} (h1 : 128 ≤ n) (h2 : n ≤ 4194304) : Fin29 (mem0 n) :=
 ⟨fun x hx => by rw [List.eq_of_mem_replicate hx]; omega,by show 1 ≤ (List.replicate n 0).length; simp; omega,by show (List.replicate n 0).length ≤ _; simp; omega⟩
theorem fin5 {n : Nat} (h1 : 128 ≤ n) (h2 : n ≤ 4194304) {f : List Nat} (hf : f.length = 5) : Fin29 (mem5 n f) := by
 have h0 := fin0 h1 h2
 have hn : Nx1 (mem0 n) (mem5 n f) := .alloc _ _ (by simp; omega)
 have hl := hn.lim h0.free h0.len
 exact ⟨Bd.alloc h0.bd _ fun x hx => by obtain ⟨y,_,rfl⟩ := List.mem_map.1 hx; exact wordF_lt y,hl.1,hl.2⟩
theorem tr5 {n : Nat} {f : List Nat} (hf : f.length = 5) : (mem5 n f).tr.length ≤ 10 := by
 have hn : Nx1 (mem0 n) (mem5 n f) := .alloc _ _ (by simp; omega)
 have h1 := hn.tr.2
 have h2 : (mem0 n).tr.length = 0 := rfl
 omega
theorem calm5 {n : Nat} {f : List Nat} (hf : f.length = 5) : CalmV (mem5 n f) := by
 have hn : Nx1 (mem0 n) (mem5 n f) := .alloc _ _ (by simp; omega)
 exact hn.calm fun a ha => nomatch ha
theorem room5 {n : Nat} (h : 128 ≤ n) {l : List Nat} (hl : l.length = 5) : (mem0 n).room l = 1 := by
 rw [room_t (by omega) (by show l.length ≤ (List.replicate n 0).length - 1; simp; omega)]; rfl
theorem get5 {f : List Nat} {i : Nat} (h : i < f.length) : (f.map u64)[i]? = some (u64 (f.getD i 0)) := map_get f h
theorem take5 {f : List Nat} {i : Nat} (h : i < f.length) : rowsU ((f.take i).map cut62)++[[u64 (cut62 (f.getD i 0))]] = rowsU ((f.take (i + 1)).map cut62) := by
 rw [List.take_add_one,List.getElem?_eq_getElem h,List.getD_eq_getElem?_getD,List.getElem?_eq_getElem h]
 simp only [rowsU,Option.toList_some,List.map_append,List.map_cons,List.map_nil,Option.getD_some]
theorem l29memory_ok (hc : Con con lives) {L : List HP} {H : CH} {n : Nat} {f0 f1 f2 f3 f4 : Nat} {K : KP} (hs : Sat L H) (h1 : 128 ≤ n) (h2 : n ≤ 4194304)
  (k : ∀ m r H1,Sat (MemP m (mem5 n [f0,f1,f2,f3,f4])::RefP r (mem5 n [f0,f1,f2,f3,f4])::L) H1→K (.tuple ⟨[ptr m 0,ptr r 0,.bool true]⟩) H1) :
  Call1 Tryz.prog con 20 [i64 (Int.ofNat n),.agg ⟨[u64 f0,u64 f1,u64 f2,u64 f3,u64 f4]⟩] H K := by
 refine call_of (hc _ _ _ rfl) ?_
 rw [l29memory_W]
 refine nw hs fun p1 H2 g2 => ?_
 refine arenaNew_ok hc g2 h1 h2 fun m H4 g4 => ?_
 refine AsTup.mk (Nth.mk rfl (AsTup.mk (Nth.mk rfl (AsInt.mk (Cd.f rfl ?_)))))
 refine refNew_ok hc g4 h1 h2 fun r H11 g11 => ?_
 refine AsTup.mk (Nth.mk rfl (AsTup.mk (Nth.mk rfl ?_)))
 have g12 : Sat (Own p1 ([f0,f1,f2,f3,f4].map u64)::MemP m (mem0 n)::RefP r (mem0 n)::L) H11 := g11.ent ee
 have hf : [f0,f1,f2,f3,f4].length = 5 := rfl
 generalize [f0,f1,f2,f3,f4] = f at *
 clear g2 g4 g11
 refine LoopC.indP (n := 100) (id := 0) (fun σ1 H1 => ∃ v,σ1 7 = ptr m 0∧σ1 9 = ptr r 0∧σ1 11 = v∧Sat (Vec v tU 1 (rowsU (f.map cut62))::MemP m (mem0 n)::RefP r (mem0 n)::L) H1) (by kernel_rfl)
  (fun (i : Nat) σ1 H1 => i ≤ 5∧σ1 3 = ptr p1 0∧σ1 7 = ptr m 0∧σ1 9 = ptr r 0∧σ1 12 = iN i∧∃ v,σ1 11 = v∧Sat (Vec v tU 1 (rowsU ((f.take i).map cut62))::Own p1 (f.map u64)::MemP m (mem0 n)::RefP r (mem0 n)::L) H1)
  (fun i => 5 - i) (fun i σ1 H1 hI => ?_) (fun σ1 H1 hP => ?_) 0 _ _ ⟨Nat.zero_le _,rfl,rfl,rfl,rfl,snil,rfl,(g12.nilV (e := tU) (s := 1))⟩
 ·obtain ⟨hi,a3,a7,a9,a12,v,a11,hs1⟩ := hI
  rw [l29memoryL_W]
  simp only [a3,a11,a12]
  repeat (refine gO ?_; intros)
  by_cases hlt : i < 5
  ·refine Cd.t (ltZ_t hlt) ?_
   repeat (refine gO ?_; intros)
   refine Must.mk (ltN_t hlt) ?_
   refine ldRow hs1 (i := i) (by show 0 + i * 1 = _; omega) (get5 (by omega)) ?_
   repeat (refine gO ?_; intros)
   rename_i p7 H8 h8
   refine app_vec (new := [[u64 (cut62 (f.getD i 0))]]) h8 pp el_u64 (by omega) sl_u64 (Src.cell (ys := [u64 (cut62 (f.getD i 0))]) (n := 1) (by rfl)) rfl (by simp) (by simp; omega) rfl fun w' H28 h28 => ?_
   rw [take5 (by omega)] at h28
   repeat (refine gO ?_; intros)
   try rw [addInt]
   refine inR_nat (by first | omega | (simp only; omega)) ?_
   repeat (refine gO ?_; intros)
   show ∃ y,_∧_
   exact ⟨i + 1,by omega,hlt,a3,a7,a9,rfl,w',rfl,h28.ent ee⟩
  ·obtain rfl : i = 5 := by omega
   refine Cd.f (ltZ_f (Nat.le_refl _)) ?_
   show _ = _∧_
   rw [List.take_of_length_le (by omega)] at hs1
   exact ⟨rfl,v,a7,a9,a11,hs1.ent ee⟩
 ·obtain ⟨v,a7,a9,a11,hs1⟩ := hP
  show Cd _ _ _
  refine Cd.t rfl ?_
  rw [a7,a9,a11]
  have hs2 : Sat (Nums v (f.map cut62)::MemP m (mem0 n)::RefP r (mem0 n)::L) H1 := hs1.imp fun g a => Vec.nums a
  refine memView_ok hc hs2 fun q H20 g20 => ?_
  have hlt62 : ¬ ∃ x ∈ f.map cut62,4611686018427387904 ≤ x := by
   rintro ⟨x,hx,hx2⟩
   obtain ⟨y,_,rfl⟩ := List.mem_map.1 hx
   have := cut62_lt y
   omega
  refine mMake_ok (l := f.map cut62) hc g20 pp pp Has.nums (by simp; omega) (by show 0 < _; omega) (fun g => (hlt62 g).elim) fun _ H22 g22 => ?_
  rw [room5 h1 (by simp; exact hf)]
  refine AsTup.mk (Nth.mk rfl (AsTup.mk (Nth.mk rfl ?_)))
  refine rMake29_ok (l := f.map cut62) hc g22 pp (Has.skip Has.nums) (by simp; omega) (by show 0 < _; omega) (fun g => (hlt62 g).elim) fun _ H28 g28 => ?_
  rw [room5 h1 (by simp; exact hf)]
  repeat (refine gO ?_; intros)
  refine k m r _ ?_
  exact g28.ent ee
theorem l29runs_ok (hc : Con con lives) {L : List HP} {H : CH} {tv : Value} {td : List (Value × List (CallS × Value))} {K : KP} (hs : Sat L H) (hT : Has L (ThrW tv td)) (htl : td.length < 1000000000) (k : K (.bool (!longC (callsOf td) && decide (td.length ≤ 64))) H) :
  Call1 Tryz.prog con 23 [tv] H K := by
 refine call_of (hc _ _ _ rfl) ?_
 rw [l29runs_W]
 have hlen : (td.map fun t => [t.1]).length = td.length := List.length_map ..
 obtain ⟨px,hpx⟩ := (hs.has (thr_vec hT)).shape
 rw [hlen] at hpx
 refine LoopC.ind (n := 100) (by kernel_rfl) (fun (i : Nat) σ1 H1 => i ≤ td.length∧σ1 0 = tv∧σ1 3 = iN i∧longC (callsOf (td.take i)) = false∧H1 = H)
  (fun i => td.length - i) (fun i σ1 H1 hI => ?_) 0 _ _ ⟨Nat.zero_le _,rfl,rfl,rfl,rfl⟩
 obtain ⟨hi,a0,a3,hlc,rfl⟩ := hI
 rw [l29runsL_W]
 simp only [a0,a3]
 refine AsLen.eq hpx ?_
 repeat (refine gO ?_; intros)
 by_cases hlt : i < td.length
 ·refine Cd.t (ltZ_t hlt) ?_
  obtain ⟨t,et⟩ : ∃ x,td[i]? = some x := ⟨_,List.getElem?_eq_getElem hlt⟩
  have hr : (td.map fun t => [t.1])[i]? = some [t.1] := by rw [List.getElem?_map,et]; rfl
  obtain ⟨b,hb,_⟩ := (hs.has (thr_vec hT)).slot hr
  rw [hlen] at hb
  have hC := thr_at hT et
  obtain ⟨pl,hpl⟩ := (hs.has (calls_vec hC)).shape
  rw [List.length_map] at hpl
  refine AsSlc.eq hb ?_
  repeat (refine gO ?_; intros)
  refine Must.mk (ltN_t hlt) ?_
  refine ldVec hs (thr_vec hT) hb hr (j := 0) (by show 0 + i * 1 = _; omega) (by omega) rfl ?_
  refine AsLen.eq hpl ?_
  have htk : callsOf (td.take (i + 1)) = callsOf (td.take i)++[t.2.map Prod.fst] := by rw [List.take_add_one,et]; simp
  by_cases hl : 4096 < t.2.length
  ·refine Cd.t (ltZ_t hl) ?_
   have : longC (callsOf td) = true := List.any_eq_true.2 ⟨t.2.map Prod.fst,List.mem_of_getElem? (calls_get et),by simpa using hl⟩
   rw [this] at k
   exact k
  ·refine Cd.f (ltZ_f (by omega)) ?_
   repeat (refine gO ?_; intros)
   try rw [addInt]
   refine inR_nat (by first | omega | (simp only; omega)) ?_
   repeat (refine gO ?_; intros)
   show ∃ y,_∧_
   refine ⟨i + 1,by omega,hlt,a0,rfl,?_,rfl⟩
   rw [htk]
   unfold longC at hlc ⊢
   rw [List.any_append,hlc]
   simp
   omega
 ·obtain rfl : i = td.length := by omega
  refine Cd.f (ltZ_f (Nat.le_refl _)) ?_
  rw [List.take_length] at hlc
  show Cd _ _ _
  refine Cd.t rfl ?_
  refine AsLen.eq (a0.trans hpx) ?_
  rw [hlc] at k
  have e : leZ (Int.ofNat td.length) (Int.ofNat 64) = (!false && decide (td.length ≤ 64)) := by
   by_cases h : td.length ≤ 64
   ·rw [leZ_t h,decide_eq_true h]; rfl
   ·rw [leZ_f (by omega),decide_eq_false h]; rfl
  rw [e]
  exact k
end Go.Proofs.YtnkbmaccgifeoaaGreat

set_option linter.unusedVariables false
set_option linter.unusedSimpArgs false
namespace Go.Proofs.YtnkbmaccgifeoaaGreat
open Go Go.CM
theorem sat_of {A : HP} {H : CH} (a : A (dom H)) : Sat [A] H := SatL.one a
attribute [local irreducible] AsBool AsWant AsNat AsInt AsCnt AsPtr AsSlc AsLen AsStr AsAgg AsTup AsFn AsIfc Nth Sc NotNil IsNil Must Cd codeW funW Sat SatL wrapN subM mkRow ltZ leZ ltN leN
attribute [local irreducible] isFunT
variable {con : CallT}
theorem muAt_own {p : Nat} {x : MuP} {L : List HP} {H : CH} (hs : Sat L H) (hq : Has L (MuAt p x)) : ∃ a0 a1 a2 a3,Sat [Own p [a0,a1,a2,a3,.bool x.done,iN x.err]] H := by
 have h1 : Sat [MuAt p x] H := sat_of (hs.has hq)
 obtain ⟨g1,g2,s1,s2,d,a,z⟩ := h1.opens Pull.here
 rcases a with ⟨e0,e1,e2,e3,lv,d',hd,a⟩ | ⟨e0,lv,q,a⟩ | ⟨e0,lv,po,a⟩
 ·have h2 := Sat.merge s1 s2 d a z
  rw [e2,e3]
  have h3 : Sat (Own p (muC lv 0 0 (.pointer none) false 0)::EntA lv d'::[]) H := h2
  exact ⟨_,_,_,_,sat_of (h3.has (Has.here fun a t => a.mono t))⟩
 ·have h2 := Sat.merge s1 s2 d a z
  have h3 : Sat (Own p (muC lv 1 x.d (ptr q 0) x.done x.err)::HlpAt q x.stk::[]) H := h2
  exact ⟨_,_,_,_,sat_of (h3.has (Has.here fun a t => a.mono t))⟩
 ·have h2 := Sat.merge (L1 := [_]) s1 s2 d (SatL.one a) z
  have h3 : Sat (Own p (muC lv x.at_ x.d (.pointer po) x.done x.err)::[]) H := h2
  exact ⟨_,_,_,_,h3⟩
theorem rdAt_own {p : Nat} {x : RdP} {L : List HP} {H : CH} (hs : Sat L H) (hq : Has L (RdAt p x)) : ∃ a0 a1 a2 a3,Sat [Own p [a0,a1,a2,a3,u64 x.val]] H := by
 have h1 : Sat [RdAt p x] H := sat_of (hs.has hq)
 obtain ⟨g1,g2,s1,s2,d,a,z⟩ := h1.opens Pull.here
 rcases a with ⟨e0,a⟩ | ⟨e0,q,a⟩ | ⟨e0,q,a⟩ | ⟨e0,a⟩
 ·have h2 := Sat.merge (L1 := [_]) s1 s2 d (SatL.one a) z
  have h3 : Sat (Own p (rdC x.addr pNil pNil false x.val)::[]) H := h2
  exact ⟨_,_,_,_,h3⟩
 ·have h2 := Sat.merge s1 s2 d a z
  have h3 : Sat (Own p (rdC x.addr (ptr q 0) pNil false x.val)::Own q (seC x.st)::[]) H := h2
  exact ⟨_,_,_,_,sat_of (h3.has (Has.here fun a t => a.mono t))⟩
 ·have h2 := Sat.merge s1 s2 d a z
  have h3 : Sat (Own p (rdC x.addr pNil (ptr q 0) false x.val)::HlpAt q x.stk::[]) H := h2
  exact ⟨_,_,_,_,sat_of (h3.has (Has.here fun a t => a.mono t))⟩
 ·have h2 := Sat.merge (L1 := [_]) s1 s2 d (SatL.one a) z
  have h3 : Sat (Own p (rdC x.addr pNil pNil true x.val)::[]) H := h2
  exact ⟨_,_,_,_,h3⟩
theorem muDone_ok (hc : Con con lives) {p : Nat} {x : MuP} {L : List HP} {H : CH} {K : KP} (hs : Sat L H) (hq : Has L (MuAt p x)) (k : K (.bool x.done) H) : Call1 Tryz.prog con 15 [ptr p 0] H K := by
 refine call_of (hc _ _ _ rfl) ?_
 rw [muDone_W]
 obtain ⟨a0,a1,a2,a3,h⟩ := muAt_own hs hq
 exact ld h rfl k
theorem muErrno_ok (hc : Con con lives) {p : Nat} {x : MuP} {L : List HP} {H : CH} {K : KP} (hs : Sat L H) (hq : Has L (MuAt p x)) (k : K (iN x.err) H) : Call1 Tryz.prog con 16 [ptr p 0] H K := by
 refine call_of (hc _ _ _ rfl) ?_
 rw [muErrno_W]
 obtain ⟨a0,a1,a2,a3,h⟩ := muAt_own hs hq
 exact ld h rfl k
theorem rdValue_ok (hc : Con con lives) {p : Nat} {x : RdP} {L : List HP} {H : CH} {K : KP} (hs : Sat L H) (hq : Has L (RdAt p x)) (k : K (u64 x.val) H) : Call1 Tryz.prog con 14 [ptr p 0] H K := by
 refine call_of (hc _ _ _ rfl) ?_
 rw [rdValue_W]
 obtain ⟨a0,a1,a2,a3,h⟩ := rdAt_own hs hq
 exact ld h rfl k
theorem eqB_self (b : Bool) : eqB b b = true := by cases b <;> rfl
theorem Has.rowSrc {L : List HP} {b e s : Nat} {w : Bool} {cs : List Value} (h : Has L (Row b e s w cs)) : Src L b 0 cs := fun g a => by
 obtain ⟨k,k1,k2,k3,k4,k5,kf,k6,k7⟩ := h g a
 exact ⟨k,k1,k5,fun j hj => by rw [Nat.zero_add]; exact k7 j⟩
theorem td_out (told : List Td29) {k : Nat} (h : told.length ≤ k) : wantOf told k = td0 := by unfold wantOf; rw [List.getElem?_eq_none h]; rfl
theorem td_in (told : List Td29) {k : Nat} (h : k < told.length) : (told.map tdC)[k]? = some (tdC (wantOf told k)) := by
 unfold wantOf
 rw [List.getElem?_map,List.getElem?_eq_getElem h]; rfl
theorem mpb_lp : lpAt Tryz.prog 4 1 = blkC (lpAt Tryz.prog 4 1) := by kernel_rfl
theorem mpb_sl : sliceC 2 1 (blkC (lpAt Tryz.prog 4 1)) = seqL [(flatC (blkC (lpAt Tryz.prog 4 1))).getD 2 .skip] := by kernel_rfl
theorem mpb_bk : (flatC (blkC (lpAt Tryz.prog 4 1))).getD 2 .skip = .block 3 (blkC ((flatC (blkC (lpAt Tryz.prog 4 1))).getD 2 .skip)) := by kernel_rfl
def KB (σ τ : TF) : Prop := τ 5 = σ 5∧τ 6 = σ 6∧τ 8 = σ 8∧τ 9 = σ 9∧τ 11 = σ 11∧τ 12 = σ 12∧τ 13 = σ 13
theorem KB.trans {a b c : TF} (h : KB a b) (g : KB b c) : KB a c := by
 obtain ⟨a0,a1,a2,a7,a8,a9,a10⟩ := h
 obtain ⟨b0,b1,b2,b7,b8,b9,b10⟩ := g
 exact ⟨b0.trans a0,b1.trans a1,b2.trans a2,b7.trans a7,b8.trans a8,b9.trans a9,b10.trans a10⟩
theorem hideB {c : Code} {H : CH} {Q : KX} {σ τ : TF} (h : KB σ τ) (k : ∀ τ,KB σ τ→codeW c Tryz.prog con τ H Q) : codeW c Tryz.prog con τ H Q := k τ h
theorem hideB14 {c : Code} {H : CH} {Q : KX} {σ τ : TF} {v : Value} (h : KB σ τ) (h' : τ 14 = v) (k : ∀ τ,KB σ τ→τ 14 = v→codeW c Tryz.prog con τ H Q) : codeW c Tryz.prog con τ H Q := k τ h h'
theorem hideB82 {c : Code} {H : CH} {Q : KX} {σ τ : TF} {v u : Value} (h : KB σ τ) (h' : τ 14 = v) (h2 : τ 82 = u) (k : ∀ τ,KB σ τ→τ 14 = v→τ 82 = u→codeW c Tryz.prog con τ H Q) : codeW c Tryz.prog con τ H Q := k τ h h' h2
set_option maxRecDepth 100000 in
theorem plTail (hc : Con con lives) {R : List HP} {H : CH} {i j p9 : Nat} {pss pv : Value} {pvs l : List Value} {ss : List PrS} {s : PrS} {v : Value} {wt : Td29} {σ : TF} {Q : KX}
  (hq : Sat (Own p9 (tdC wt)::R) H) (hV : Has R (Vec pss tPsPS 1 (pvs.map fun x => [x]))) (epv : pvs[i]? = some pv) (hl : Has R (Vec pv tPsP 2 (l.map pairV)))
  (hP : ∀ (k : Nat) (v : Value) (s : PrS),l[k]? = some v→ss[k]? = some s→Has R (PrcAt v s)) (hifc : ∀ v ∈ l,IfcOk v) (ev : l[j]? = some v) (es : ss[j]? = some s) (hfs : s.fits wt) (hll : l.length ≤ 4096)
  (e9 : σ 9 = pss) (e12 : σ 12 = iN i) (e13 : σ 13 = iN j) (e14 : σ 14 = ptr p9 0)
  (kk : ∀ τ H1,KB σ τ→Sat R H1→Q .normal τ H1) :
  codeW (dropC 3 (blkC ((flatC (blkC (lpAt Tryz.prog 4 1))).getD 2 .skip))) Tryz.prog con σ H Q := by
 have hpi : i < pvs.length := (List.getElem?_eq_some_iff.1 epv).1
 have hlt : j < l.length := (List.getElem?_eq_some_iff.1 ev).1
 have hrp : (pvs.map fun x => [x])[i]? = some [pv] := by rw [List.getElem?_map,epv]; rfl
 obtain ⟨bp,ebp,_⟩ := (hq.has (Has.skip hV)).slot hrp
 rw [List.length_map] at ebp
 have hpv2 := (hifc v (List.mem_of_getElem? ev)).pair
 obtain ⟨y0,y1,hxy⟩ : ∃ y0 y1,pairV v = [y0,y1] := by
  match h : pairV v,hpv2 with
  | [a,b],_ => exact ⟨a,b,rfl⟩
 have hrl : (l.map pairV)[j]? = some (pairV v) := by rw [List.getElem?_map,ev]; rfl
 have hxy0 : (pairV v)[0]? = some y0 := by rw [hxy]; rfl
 have hxy1 : (pairV v)[1]? = some y1 := by rw [hxy]; rfl
 obtain ⟨bl,ebl,_⟩ := (hq.has (Has.skip hl)).slot hrl
 rw [List.length_map] at ebl
 rw [mpB3_W,e9,e12,e13,e14]
 refine AsSlc.eq ebp ?_
 repeat (refine gO ?_; intros)
 refine Must.mk (ltN_t (by omega)) ?_
 refine ldVec hq (Has.skip hV) ebp hrp (j := 0) (by show 0 + i * 1 = _; omega) (by omega) rfl ?_
 refine AsSlc.eq ebl ?_
 repeat (refine gO ?_; intros)
 refine Must.mk (ltN_t hlt) ?_
 refine ldVec hq (Has.skip hl) ebl hrl (j := 0) (by show 0 + j * 2 + 0 = _; omega) (by omega) hxy0 ?_
 refine ldVec hq (Has.skip hl) ebl hrl (j := 1) (by show 0 + j * 2 + 1 = _; omega) (by omega) hxy1 ?_
 cases s with
 | mu x =>
  obtain ⟨p,rfl,_⟩ := hq.has (Has.skip (hP j v (.mu x) ev es))
  have hmu : Has R (MuAt p x) := fun g a => by
   obtain ⟨p',e,a⟩ := hP j _ (.mu x) ev es g a
   cases e
   exact a
  have q0 : y0 = ptr p 0 := by simp [pairV] at hxy; exact hxy.1.symm
  have q1 : y1 = nilP := by simp [pairV] at hxy; exact hxy.2.symm
  subst q0 q1
  obtain ⟨fd,fe⟩ := hfs
  refine nw hq fun p49 H50 h50 => ?_
  refine stN h50 (Nat.le_of_ble_eq_true rfl) rfl fun H51 h51 => ?_
  have h52 : Sat (Own p49 [ptr p 0,nilP]::Own p9 (tdC wt)::R) H51 := h51
  repeat (refine gO ?_; intros)
  refine muDone_ok hc h52 (Has.skip (Has.skip hmu)) ?_
  repeat (refine gO ?_; intros)
  refine Cd.f (by rw [fd,eqB_self]; rfl) ?_
  repeat (refine gO ?_; intros)
  refine muErrno_ok hc h52 (Has.skip (Has.skip hmu)) ?_
  repeat (refine gO ?_; intros)
  refine Cd.f (by rw [fe,eqZ_self]; rfl) ?_
  repeat (refine gO ?_; intros)
  exact kk _ _ ⟨rfl,rfl,rfl,rfl,rfl,rfl,rfl⟩ (h52.ent ee)
 | rd x =>
  obtain ⟨p,rfl,_⟩ := hq.has (Has.skip (hP j v (.rd x) ev es))
  have hrd : Has R (RdAt p x) := fun g a => by
   obtain ⟨p',e,a⟩ := hP j _ (.rd x) ev es g a
   cases e
   exact a
  have q0 : y0 = nilP := by simp [pairV] at hxy; exact hxy.1.symm
  have q1 : y1 = ptr p 0 := by simp [pairV] at hxy; exact hxy.2.symm
  subst q0 q1
  have fv : x.val = wt.val := hfs
  refine nw hq fun p49 H50 h50 => ?_
  refine stN h50 (Nat.le_of_ble_eq_true rfl) rfl fun H51 h51 => ?_
  have h52 : Sat (Own p49 [nilP,ptr p 0]::Own p9 (tdC wt)::R) H51 := h51
  repeat (refine gO ?_; intros)
  refine rdValue_ok hc h52 (Has.skip (Has.skip hrd)) ?_
  repeat (refine gO ?_; intros)
  refine Cd.f (by rw [fv,eqN_self]; rfl) ?_
  repeat (refine gO ?_; intros)
  exact kk _ _ ⟨rfl,rfl,rfl,rfl,rfl,rfl,rfl⟩ (h52.ent ee)
set_option maxRecDepth 100000 in
theorem plB_ok (hc : Con con lives) {R : List HP} {H : CH} {i bo n : Nat} {pss pv : Value} {pvs ov l : List Value} {w : W29} {ss : List PrS} {σ : TF} {Q : KX}
  (hs : Sat R H) (hV : Has R (Vec pss tPsPS 1 (pvs.map fun x => [x]))) (epv : pvs[i]? = some pv) (hl : Has R (Vec pv tPsP 2 (l.map pairV))) (hO : Src R bo 0 ov) (eo : ov[i]? = some w.o) (hT : Has R (Vec w.o tTd 4 (w.t.told.map tdC)))
  (hP : ∀ (k : Nat) (v : Value) (s : PrS),l[k]? = some v→ss[k]? = some s→Has R (PrcAt v s)) (hifc : ∀ v ∈ l,IfcOk v) (hlen : l.length = ss.length) (hfit : ∀ (k : Nat) (s : PrS),ss[k]? = some s→s.fits (wantOf w.t.told k)) (hin : i < n) (hll : l.length ≤ 4096)
  (e9 : σ 9 = pss) (e11 : σ 11 = slc bo 0 n n) (e12 : σ 12 = iN i) (e13 : σ 13 = iN 0)
  (k : ∀ σ1 H1,σ1 5 = σ 5→σ1 6 = σ 6→σ1 8 = σ 8→σ1 9 = pss→σ1 11 = slc bo 0 n n→σ1 12 = iN i→Sat R H1→Q (.exit 2) σ1 H1) :
  LoopC Tryz.prog con (lpAt Tryz.prog 4 1) σ H Q := by
 have hpi : i < pvs.length := (List.getElem?_eq_some_iff.1 epv).1
 have hrp : (pvs.map fun x => [x])[i]? = some [pv] := by rw [List.getElem?_map,epv]; rfl
 obtain ⟨bp,ebp,_⟩ := (hs.has hV).slot hrp
 rw [List.length_map] at ebp
 obtain ⟨pl,epl⟩ := (hs.has hl).shape
 rw [List.length_map] at epl
 obtain ⟨pt,ept⟩ := (hs.has hT).shape
 rw [List.length_map] at ept
 refine LoopC.indP (n := 300) (id := 2) (fun σ1 H1 => σ1 5 = σ 5∧σ1 6 = σ 6∧σ1 8 = σ 8∧σ1 9 = pss∧σ1 11 = slc bo 0 n n∧σ1 12 = iN i∧Sat R H1) (by kernel_rfl)
  (fun (j : Nat) σ1 H1 => j ≤ l.length∧σ1 5 = σ 5∧σ1 6 = σ 6∧σ1 8 = σ 8∧σ1 9 = pss∧σ1 11 = slc bo 0 n n∧σ1 12 = iN i∧σ1 13 = iN j∧Sat R H1)
  (fun j => l.length - j) (fun j σ1 H1 hI => ?_) (fun σ1 H1 hP => ?_) 0 _ _ ⟨Nat.zero_le _,rfl,rfl,rfl,e9,e11,e12,e13,hs⟩
 ·obtain ⟨hj,a5,a6,a8,a9,a11,a12,a13,h1⟩ := hI
  rw [mpb_lp,codeW_cut 2,mpB0_W,a9,a12,a13]
  refine AsSlc.eq ebp ?_
  repeat (refine gO ?_; intros)
  refine Must.mk (ltN_t (by omega)) ?_
  refine ldVec h1 hV ebp hrp (j := 0) (by show 0 + i * 1 = _; omega) (by omega) rfl ?_
  refine AsLen.eq epl ?_
  repeat (refine gO ?_; intros)
  by_cases hlt : j < l.length
  ·refine Cd.t (ltZ_t hlt) ?_
   rw [ceP_n,codeW_cut2 2 1,mpb_sl,codeW_one,codeW_blk (id := 3) mpb_bk]
   refine hideB (σ := σ1) ⟨rfl,rfl,rfl,rfl,rfl,rfl,rfl⟩ fun τ hK => ?_
   obtain ⟨k5,k6,k8,k9,k11,k12,k13⟩ := id hK
   rw [a9] at k9
   rw [a11] at k11
   rw [a12] at k12
   rw [a13] at k13
   obtain ⟨v,ev⟩ : ∃ v,l[j]? = some v := ⟨_,List.getElem?_eq_getElem hlt⟩
   obtain ⟨s,es⟩ : ∃ s,ss[j]? = some s := ⟨_,List.getElem?_eq_getElem (by omega)⟩
   have hfs := hfit j s es
   rw [codeW_cut 2,mpB1_W,k11,k12,k13]
   refine nw h1 fun p9 H10 h10 => ?_
   refine stN h10 (Nat.le_of_ble_eq_true rfl) rfl fun H11 h11 => ?_
   have hq0 : Sat (Own p9 (tdC td0)::R) H11 := h11
   repeat (refine gO ?_; intros)
   refine Must.mk (ltN_t hin) ?_
   refine ldSrc hq0 (fun g a => hO g (SatL.drop a)) (i := i) (by show 0 + i * 1 = _; omega) eo ?_
   refine AsLen.eq ept ?_
   repeat (refine gO ?_; intros)
   rw [ceP_n]
   clear h11 h10
   refine hideB82 (σ := τ) (v := ptr p9 0) (u := .bool (ltZ (Int.ofNat j) (Int.ofNat w.t.told.length))) ⟨rfl,rfl,rfl,rfl,rfl,rfl,rfl⟩ rfl rfl fun τ1 hK1 d14 d82 => ?_
   replace hK := KB.trans hK hK1
   obtain ⟨_,_,_,k9,k11,k12,k13⟩ := id hK
   rw [a9] at k9
   rw [a11] at k11
   rw [a12] at k12
   rw [a13] at k13
   rw [codeW_cut2 2 1,mpB2_W,d82,k11,k12,k13,d14]
   refine AsBool.mk ?_
   by_cases hk : j < w.t.told.length
   ·refine Cd.t (ltZ_t hk) ?_
    repeat (refine gO ?_; intros)
    refine Must.mk (ltN_t hin) ?_
    refine ldSrc hq0 (fun g a => hO g (SatL.drop a)) (i := i) (by show 0 + i * 1 = _; omega) eo ?_
    have hrt := td_in w.t.told hk
    obtain ⟨bt,ebt,_⟩ := (h1.has hT).slot hrt
    rw [List.length_map] at ebt
    generalize wantOf w.t.told j = wt at *
    refine AsSlc.eq ebt ?_
    repeat (refine gO ?_; intros)
    refine Must.mk (ltN_t hk) ?_
    refine ldVec hq0 (Has.skip hT) ebt hrt (j := 0) (by show 0 + j * 4 + 0 = _; omega) (by omega) rfl ?_
    refine ldVec hq0 (Has.skip hT) ebt hrt (j := 1) (by show 0 + j * 4 + 1 = _; omega) (by omega) rfl ?_
    refine ldVec hq0 (Has.skip hT) ebt hrt (j := 2) (by show 0 + j * 4 + 2 = _; omega) (by omega) rfl ?_
    refine ldVec hq0 (Has.skip hT) ebt hrt (j := 3) (by show 0 + j * 4 + 3 = _; omega) (by omega) rfl ?_
    repeat (refine gO ?_; intros)
    refine stN hq0 (Nat.le_of_ble_eq_true rfl) rfl fun H35 h35 => ?_
    have hq : Sat (Own p9 (tdC wt)::R) H35 := h35
    clear h35 hq0
    rw [ceP_n]
    refine hideB14 (σ := τ1) (v := ptr p9 0) ⟨rfl,rfl,rfl,rfl,rfl,rfl,rfl⟩ d14 fun τ2 hK2 e14 => ?_
    obtain ⟨q5,q6,q8,q9,q11,q12,q13⟩ := id hK2
    refine plTail hc hq hV epv hl hP hifc ev es hfs hll (q9.trans k9) (q12.trans k12) (q13.trans k13) e14 fun τ3 H3 hK3 h3 => ?_
    obtain ⟨r5,r6,r8,r9,r11,r12,r13⟩ := KB.trans hK (KB.trans hK2 hK3)
    show ceP CE.normal _ _ _ τ3 H3
    rw [ceP_n,ceP_n,mpBZ_W,r13,a13]
    repeat (refine gO ?_; intros)
    try rw [addInt]
    refine inR_nat (by first | omega | (simp only; omega)) ?_
    repeat (refine gO ?_; intros)
    show ∃ y,_∧_
    exact ⟨j + 1,by omega,hlt,r5.trans a5,r6.trans a6,r8.trans a8,r9.trans a9,r11.trans a11,r12.trans a12,rfl,h3⟩
   ·refine Cd.f (ltZ_f (by omega)) ?_
    rw [td_out w.t.told (by omega)] at hfs
    have hq := hq0
    clear hq0
    rw [ceP_n]
    refine hideB14 (σ := τ1) (v := ptr p9 0) ⟨rfl,rfl,rfl,rfl,rfl,rfl,rfl⟩ d14 fun τ2 hK2 e14 => ?_
    obtain ⟨q5,q6,q8,q9,q11,q12,q13⟩ := id hK2
    refine plTail hc hq hV epv hl hP hifc ev es hfs hll (q9.trans k9) (q12.trans k12) (q13.trans k13) e14 fun τ3 H3 hK3 h3 => ?_
    obtain ⟨r5,r6,r8,r9,r11,r12,r13⟩ := KB.trans hK (KB.trans hK2 hK3)
    show ceP CE.normal _ _ _ τ3 H3
    rw [ceP_n,ceP_n,mpBZ_W,r13,a13]
    repeat (refine gO ?_; intros)
    try rw [addInt]
    refine inR_nat (by first | omega | (simp only; omega)) ?_
    repeat (refine gO ?_; intros)
    show ∃ y,_∧_
    exact ⟨j + 1,by omega,hlt,r5.trans a5,r6.trans a6,r8.trans a8,r9.trans a9,r11.trans a11,r12.trans a12,rfl,h3⟩
  ·obtain rfl : j = l.length := by omega
   refine Cd.f (ltZ_f (Nat.le_refl _)) ?_
   rw [ceP_x]
   show _ = _∧_
   exact ⟨rfl,a5,a6,a8,a9,a11,a12,h1⟩
 ·obtain ⟨a5,a6,a8,a9,a11,a12,h1⟩ := hP
  exact k σ1 H1 a5 a6 a8 a9 a11 a12 h1
end Go.Proofs.YtnkbmaccgifeoaaGreat

set_option linter.unusedVariables false
set_option linter.unusedSimpArgs false
namespace Go.Proofs.YtnkbmaccgifeoaaGreat
open Go Go.CM
attribute [local irreducible] AsBool AsWant AsNat AsInt AsCnt AsPtr AsSlc AsLen AsStr AsAgg AsTup AsFn AsIfc Nth Sc NotNil IsNil Must Cd codeW funW Sat SatL wrapN subM mkRow ltZ leZ ltN leN
attribute [local irreducible] isFunT
variable {con : CallT}
theorem psp_vec {pss : Value} {pvs : List Value} {prs : List (List Value)} {L : List HP} (h : Has L (PsP pss pvs prs)) : Has L (Vec pss tPsPS 1 (pvs.map fun x => [x])) := fun g a => satL_fst (h g a).2 fun a t => a.mono t
theorem psp_at {pss : Value} {pvs : List Value} {prs : List (List Value)} {L : List HP} {i : Nat} {pv : Value} {l : List Value} (h : Has L (PsP pss pvs prs)) (h1 : pvs[i]? = some pv) (h2 : prs[i]? = some l) : Has L (Vec pv tPsP 2 (l.map pairV)) := fun g a =>
 satL_at (h g a).2 (i := i) (by unfold psL; rw [List.getElem?_zipWith,h1,h2]) fun a t => a.mono t
theorem PsP.mono {pss : Value} {pvs : List Value} {prs : List (List Value)} {g h : PH} (a : PsP pss pvs prs g) (t : Subh g h) : PsP pss pvs prs h := ⟨a.1,SatL.mono t a.2⟩
theorem w_vec {ws : List W29} {i : Nat} {w : W29} {L : List HP} (h : Has L (SatL (ws.map W29.at))) (hw : ws[i]? = some w) : Has L (Vec w.o tTd 4 (w.t.told.map tdC)) := fun g a =>
 satL_fst (Has.all h (A := W29.at w) (i := i) (by rw [List.getElem?_map,hw]; rfl) (fun a t => SatL.mono t a) g a) fun a t => a.mono t
set_option maxRecDepth 100000 in
theorem plA_ok (hc : Con con lives) {R : List HP} {H : CH} {tv mv rv : Value} {td : List (Value × List (CallS × Value))} {g : G} {d : D29} {n0 bo eo : Nat} {pss : Value} {pvs : List Value} {prs : List (List Value)} {ws : List W29} {σ : TF} {Q : KX}
  (hrel : Rel29 td g d) (hg : Good (callsOf td) n0 g) (hsh : Short (callsOf td)) (hw : ws.map W29.t = d.ts) (hpl : prs.map List.length = (callsOf td).map List.length) (htl : td.length ≤ 64)
  (hs : Sat R H) (hPs : Has R (PsP pss pvs prs)) (hO : Has R (SatL (objsL prs g.st))) (hR : Has R (Row bo eo 0 true (ws.map W29.o))) (hA : Has R (SatL (ws.map W29.at)))
  (e5 : σ 5 = mv) (e6 : σ 6 = rv) (e8 : σ 8 = tv) (e9 : σ 9 = pss) (e11 : σ 11 = slc bo 0 td.length td.length) (e12 : σ 12 = iN 0)
  (k : ∀ σ1 H1,σ1 5 = mv→σ1 6 = rv→σ1 8 = tv→Sat R H1→Q (.exit 0) σ1 H1) :
  LoopC Tryz.prog con (lpAt Tryz.prog 4 0) σ H Q := by
 obtain ⟨⟨hpv,hifc⟩,_⟩ := hs.has hPs
 have lc : (callsOf td).length = td.length := List.length_map ..
 have hprl : prs.length = td.length := by have := congrArg List.length hpl; simp at this; omega
 have hwl : ws.length = td.length := by have := congrArg List.length hw; rw [List.length_map,hrel.len] at this; exact this
 obtain ⟨px,hpx⟩ := (hs.has (psp_vec hPs)).shape
 rw [List.length_map] at hpx
 refine LoopC.indP (n := 300) (id := 0) (fun σ1 H1 => σ1 5 = mv∧σ1 6 = rv∧σ1 8 = tv∧Sat R H1) (by kernel_rfl)
  (fun (i : Nat) σ1 H1 => i ≤ td.length∧σ1 5 = mv∧σ1 6 = rv∧σ1 8 = tv∧σ1 9 = pss∧σ1 11 = slc bo 0 td.length td.length∧σ1 12 = iN i∧Sat R H1)
  (fun i => td.length - i) (fun i σ1 H1 hI => ?_) (fun σ1 H1 hP => ?_) 0 _ _ ⟨Nat.zero_le _,e5,e6,e8,e9,e11,e12,hs⟩
 ·obtain ⟨hi,a5,a6,a8,a9,a11,a12,h1⟩ := hI
  rw [multiPlaysA_W]
  simp only [a9,a12]
  refine AsLen.eq hpx ?_
  repeat (refine gO ?_; intros)
  by_cases hlt : i < td.length
  ·refine Cd.t (ltZ_t (by omega)) ?_
   obtain ⟨pv,epv⟩ : ∃ x,pvs[i]? = some x := ⟨_,List.getElem?_eq_getElem (by omega)⟩
   obtain ⟨l,el⟩ : ∃ x,prs[i]? = some x := ⟨_,List.getElem?_eq_getElem (by omega)⟩
   obtain ⟨w,ew⟩ : ∃ x,ws[i]? = some x := ⟨_,List.getElem?_eq_getElem (by omega)⟩
   obtain ⟨ss,ess⟩ : ∃ x,g.st[i]? = some x := ⟨_,List.getElem?_eq_getElem (by have := hg.2.1; omega)⟩
   obtain ⟨cs,ecs⟩ : ∃ x,(callsOf td)[i]? = some x := ⟨_,List.getElem?_eq_getElem (by omega)⟩
   obtain ⟨⟨a,o⟩,ea⟩ : ∃ x,g.ths[i]? = some x := ⟨_,List.getElem?_eq_getElem (by have := hg.1; omega)⟩
   have ex : d.ts[i]? = some w.t := by rw [← hw,List.getElem?_map,ew]; rfl
   have hss := (hg.2.2 i cs a o ss ecs ea ess).1
   have hlc : l.length = cs.length := by
    have h2 : (prs.map List.length)[i]? = ((callsOf td).map List.length)[i]? := by rw [hpl]
    rw [List.getElem?_map,List.getElem?_map,el,ecs] at h2
    simpa using h2
   have h4 := (hsh cs (List.mem_of_getElem? ecs)).1
   have hov : (objsL prs g.st)[i]? = some (SatL (List.zipWith PrcAt l ss)) := objs_get el ess
   refine plB_ok hc (n := td.length) (w := w) (ss := ss) (l := l) h1 (psp_vec hPs) epv (psp_at hPs epv el) (Has.rowSrc hR) (by rw [List.getElem?_map,ew]; rfl) (w_vec hA ew) (fun k v s hv hs' => ?_) (hifc l (List.mem_of_getElem? el)) (by omega) (fun k s hs' => rel_fits hrel hg ess hs' ex) hlt (by omega) a9 a11 a12 rfl fun σ2 H2 c5 c6 c8 c9 c11 c12 h2 => ?_
   ·have hzv : (List.zipWith PrcAt l ss)[k]? = some (PrcAt v s) := by rw [List.getElem?_zipWith,hv,hs']
    exact Has.all (Has.all (l := objsL prs g.st) hO hov fun a t => SatL.mono t a) hzv fun {g h} a t => prc_mono a t
   show Cd _ _ _
   refine Cd.t rfl ?_
   simp only [c12]
   repeat (refine gO ?_; intros)
   try rw [addInt]
   refine inR_nat (by first | omega | (simp only; omega)) ?_
   repeat (refine gO ?_; intros)
   show ∃ y,_∧_
   exact ⟨i + 1,by omega,hlt,c5.trans a5,c6.trans a6,c8.trans a8,c9,c11,rfl,h2⟩
  ·refine Cd.f (ltZ_f (by omega)) ?_
   show _ = _∧_
   exact ⟨rfl,a5,a6,a8,h1⟩
 ·obtain ⟨a5,a6,a8,h1⟩ := hP
  exact k σ1 H1 a5 a6 a8 h1
end Go.Proofs.YtnkbmaccgifeoaaGreat

set_option linter.unusedVariables false
set_option linter.unusedSimpArgs false
namespace Go.Proofs.YtnkbmaccgifeoaaGreat
open Go Go.CM
attribute [local irreducible] AsBool AsWant AsNat AsInt AsCnt AsPtr AsSlc AsLen AsStr AsAgg AsTup AsFn AsIfc Nth Sc NotNil IsNil Must Cd codeW funW Sat SatL wrapN subM mkRow ltZ leZ ltN leN
attribute [local irreducible] isFunT
variable {con : CallT}
set_option maxRecDepth 100000 in
theorem multiPlays_ok (hc : Con con lives) (hlive : ∀ H,con 17 ⟨[]⟩ H = some (.bool true,H)) {R : List HP} {H : CH} {c : Int} {f0 f1 f2 f3 f4 : Nat} {xv xw : Value} {threads : List (List CallS)} {picks : List Int}
  (hcv : cvOk .i64 c = true) (hs : Sat (ThrR xv threads::IntsR xw picks::R) H) (hl1 : threads.length ≤ 10000000) (hl2 : ∀ cs ∈ threads,cs.length ≤ 10000000∧∀ c ∈ cs,c.l.length ≤ 10000000) (hl3 : picks.length < 90000000) :
  Call1 Tryz.prog con 4 [i64 c,.agg ⟨[u64 f0,u64 f1,u64 f2,u64 f3,u64 f4,xv,xw]⟩] H (fun v _ => v = .bool true) := by
 refine call_of (hc _ _ _ rfl) ?_
 rw [multiPlays_W]
 obtain ⟨pxv,cxv,exv⟩ := RowsR.len (hs.has (Has.here fun a t => ThrR.mono a t))
 obtain ⟨pxw,cxw,exw⟩ := (hs.has (Has.skip (Has.here (A := IntsR xw picks) fun a t => IntsR.mono a t))).len
 have hcxv : isCell xv = true := by rw [exv]; rfl
 have hcxw : isCell xw = true := by rw [exw]; rfl
 refine nw hs fun p1 H2 g2 => ?_
 refine Must.mk hcv ?_
 have hlt : Nat.mod (wrapN .u64 c) 4000 < 4000 := Nat.mod_lt _ (by omega)
 generalize Nat.mod (wrapN .u64 c) 4000 = z at *
 rw [wrapI_small (by omega),addInt]
 refine inR_nat (by omega) ?_
 refine ld g2 rfl ?_
 refine ld g2 rfl ?_
 refine ld g2 rfl ?_
 refine ld g2 rfl ?_
 refine ld g2 rfl ?_
 refine l29memory_ok hc g2 (n := 128 + z) (by omega) (by omega) fun m r H9 g9 => ?_
 refine AsTup.mk (Nth.mk rfl (AsTup.mk (Nth.mk rfl (AsTup.mk (Nth.mk rfl ?_)))))
 refine call_yes (hlive _) ?_
 refine AsBool.mk (Cd.f rfl (AsBool.mk (Cd.f rfl ?_)))
 refine ld g9 rfl ?_
 have hf5 : [f0,f1,f2,f3,f4].length = 5 := rfl
 have htr5 := tr5 (n := 128 + z) hf5
 have hcalm5 := calm5 (n := 128 + z) hf5
 have hfin5 := fin5 (n := 128 + z) (by omega) (by omega) hf5
 generalize mem5 (128 + z) [f0,f1,f2,f3,f4] = M5 at *
 have hl2' : ∀ cs ∈ threads,cs.length < 1000000000∧∀ c ∈ cs,c.l.length < 1000000000 := fun cs h => ⟨by have := (hl2 cs h).1; omega,fun c hcc => by have := (hl2 cs h).2 c hcc; omega⟩
 have g9' : Sat (Own p1 [u64 f0,u64 f1,u64 f2,u64 f3,u64 f4,xv,xw]::ThrR xv threads::IntsR xw picks::MemP m M5::RefP r M5::R) H9 := g9.ent ee
 refine placed_ok hc (by omega) hl2' (Has.skip (Has.here fun a t => ThrR.mono a t)) g9' fun tv td H22 htd hctv g22 => ?_
 have etl : td.length = threads.length := by have := congrArg List.length htd; simpa using this
 have ecl : callsOf td = threads.map (fun cs => cs.map plc) := htd
 have hcm : ∀ cs ∈ callsOf td,∃ cs0 ∈ threads,cs = cs0.map plc := fun cs h => by
  rw [ecl] at h
  obtain ⟨a,ha,rfl⟩ := List.mem_map.1 h
  exact ⟨a,ha,rfl⟩
 have htdl : ∀ t ∈ td,t.2.length < 1000000000∧∀ c ∈ t.2,c.1.l.length < 1000000000 := fun t ht => by
  obtain ⟨cs0,h0,e0⟩ := hcm _ (List.mem_map_of_mem (f := fun t : Value × List (CallS × Value) => t.2.map Prod.fst) ht)
  obtain ⟨q1,q2⟩ := hl2 cs0 h0
  refine ⟨?_,fun c hcc => ?_⟩
  ·have := congrArg List.length e0
   simp only [List.length_map] at this
   omega
  ·have hm : c.1 ∈ cs0.map plc := by rw [← e0]; exact List.mem_map_of_mem (f := Prod.fst) hcc
   obtain ⟨c0,hc0,e1⟩ := List.mem_map.1 hm
   have := q2 c0 hc0
   rw [← e1]
   show (c0.l.map plcE).length < _
   rw [List.length_map]; omega
 have hbd : ∀ cs ∈ callsOf td,∀ c ∈ cs,∀ e ∈ c.l,e.a < 18446744073709551616 := fun cs hcs c hcc e he => by
  obtain ⟨cs0,h0,rfl⟩ := hcm _ hcs
  obtain ⟨c0,hc0,rfl⟩ := List.mem_map.1 hcc
  obtain ⟨e0,he0,rfl⟩ := List.mem_map.1 (show e ∈ c0.l.map plcE from he)
  exact Nat.mod_lt _ (by omega)
 refine ld g22 rfl ?_
 have g23 : Sat (MemP m M5::IntsR xw picks::ThrW tv td::Own p1 [u64 f0,u64 f1,u64 f2,u64 f3,u64 f4,xv,xw]::RefP r M5::R) H22 := g22.ent ee
 have hT : Has (ThrW tv td::Own p1 [u64 f0,u64 f1,u64 f2,u64 f3,u64 f4,xv,xw]::RefP r M5::R) (ThrW tv td) := Has.thrW
 refine l29run_ok hc (by omega) htdl hbd hT g23 hfin5 htr5 hl3 (fun hbad H25 g25 => ?_) (fun h64 hlc hsh pss pvs prs rr H25 hpl g25 => ?_)
 ·refine AsTup.mk (Nth.mk rfl (AsTup.mk (Nth.mk rfl ?_)))
  repeat (refine gO ?_; intros)
  refine l29runs_ok hc g25 (Has.skip (Has.skip hT)) (by omega) ?_
  have e : (!longC (callsOf td) && decide (td.length ≤ 64)) = false := by
   rcases hbad with h | h
   ·rw [decide_eq_false (by omega)]; simp
   ·rw [h]; rfl
  rw [e]
  repeat (refine gO ?_; intros)
  rfl
 ·refine AsTup.mk (Nth.mk rfl (AsTup.mk (Nth.mk rfl ?_)))
  repeat (refine gO ?_; intros)
  have hruns : (!longC (callsOf td) && decide (td.length ≤ 64)) = true := by
   rw [hlc,decide_eq_true h64]; rfl
  have hrel := rel_at hsh hfin5 picks picks.length
  obtain ⟨hgood,hfing⟩ := gAt_good hsh (Nat.le_refl 1) hfin5 (good0 M5 hsh 1) picks picks.length
  have htrg := gAt_tr (g := g0 M5 (callsOf td)) picks picks.length
  have htr0 : (g0 M5 (callsOf td)).M.tr.length ≤ 10 := htr5
  have hcalm := gAt_calm (g := g0 M5 (callsOf td)) hcalm5 picks picks.length
  have g26 : Sat (RefP r M5::IntsR xw picks::ThrW tv td::MemP m (gAt (g0 M5 (callsOf td)) picks picks.length).M::SatL (objsL prs (gAt (g0 M5 (callsOf td)) picks picks.length).st)::PsP pss pvs prs::R) H25 := g25.ent ee
  refine rRun29_ok hc hsh h64 hl3 hfin5 htr5 g26 Has.thrW fun vo ws H36 hws ⟨bo,eo,bm,em,br,er,hvo,g36⟩ => ?_
  generalize gAt (g0 M5 (callsOf td)) picks picks.length = g at *
  generalize dAt td (d0 M5 td) picks picks.length = d at *
  subst hvo
  refine plA_ok (eo := eo) (mv := ptr m 0) (rv := ptr r 0) (tv := tv) (pss := pss) (pvs := pvs) (prs := prs) (ws := ws) hc hrel hgood hsh hws hpl h64 g36 ?_ ?_ ?_ ?_ rfl rfl rfl rfl rfl rfl fun σ1 H38 a5 a6 a8 g38 => ?_
  ·repeat (first | exact Has.here (fun a t => PsP.mono a t) | apply Has.skip)
  ·repeat (first | exact Has.here (fun a t => SatL.mono t a) | apply Has.skip)
  ·exact Has.skip (Has.here fun a t => Row.mono a t)
  ·exact Has.skip (Has.skip (Has.skip (Has.skip Has.sat)))
  show Cd _ _ _
  refine Cd.t rfl ?_
  simp only [a5,a6,a8]
  have hMd : d.M = g.M := hrel.M.symm
  have g39 : Sat (RefP r g.M::MemP m g.M::ThrW tv td::R) H38 := by
   rw [← hMd]
   have : Sat (RefP r d.M::MemP m g.M::ThrW tv td::R) H38 := g38.ent ee
   rw [← hMd] at this
   exact this
  clear g38 g36 g26 g25
  generalize g.M = MZ at *
  have last : ∀ {H41 H47 : CH} {w1 w2 : Value} {bb : Bool} {s : List Nat} {L2 : List HP},s.length ≤ 100→Sat (RefP r MZ::MemP m MZ::ThrW tv td::L2) H47→Has L2 (Nums w1 s)→Has L2 (Nums w2 s) →
    Call1 Tryz.prog con 23 [tv] H47 fun v52 H53 =>
     AsWant v52 (False) fun b54 =>
     Cd b54 (
      Call1 Tryz.prog con 19 [ptr m 0] H53 fun v55 H56 =>
      NotNil Tryz.prog (ptr r 0) (
      AsPtr (ptr r 0) fun p57 o58 =>
      Ld H56 p57 (Nat.add o58 2) fun v59 =>
      Call1 Tryz.prog con 18 [v55,v59] H56 fun v60 H61 =>
      AsWant v60 (False) fun b62 =>
      Cd b62 (
       AsBool (.bool bb) fun b63 =>
       AsBool (.bool bb) fun b64 =>
       Cd (eqB b63 b64) (
        Call1 Tryz.prog con 27 [w1,w2] H61 fun v65 H66 =>
        Ld H53 p57 (Nat.add o58 2) fun v67 =>
        Same v59 v67 (
        Ld H56 p57 (Nat.add o58 2) fun v68 =>
        Same v59 v68 (
        (fun v _ => v = Value.bool true) v65 H66))) (
        Ld H53 p57 (Nat.add o58 2) fun v69 =>
        Same v59 v69 (
        Ld H56 p57 (Nat.add o58 2) fun v70 =>
        Same v59 v70 (
        (fun v _ => v = Value.bool true) (.bool false) H61)))) (
       Ld H53 p57 (Nat.add o58 2) fun v71 =>
       Same v59 v71 (
       Ld H56 p57 (Nat.add o58 2) fun v72 =>
       Same v59 v72 (
       (fun v _ => v = Value.bool true) (.bool false) H61))))) (
      (fun v _ => v = Value.bool true) (.bool false) H53) := by
   intro H41 H47 w1 w2 bb s L2 hsl g47 q1 q2
   refine l29runs_ok hc g47 (Has.skip (Has.skip Has.thrW)) (by omega) ?_
   rw [hruns]
   repeat (refine gO ?_; intros)
   obtain ⟨k1,k2,u1,u2,dj,⟨bl,tr,⟨hn,hfr⟩,hin⟩,hRR⟩ := g47.opens Pull.here
   have hs5 := Sat.merge u1 u2 dj hin hRR
   simp only [List.cons_append,List.nil_append] at hs5
   obtain ⟨k3,k4,t1,t2,d2,hTT,_⟩ := hs5.opens (A := TrAt tr tA MZ.tr) (.there (.there .here))
   obtain ⟨pt,rfl⟩ := hTT.shape
   refine memTrace_ok hc hs5 pp (by omega) hcalm fun x H14 h14 => ?_
   repeat (refine gO ?_; intros)
   refine sameTrace_ok hc h14 pp pp (by omega) hcalm fun H15 h15 => ?_
   repeat (refine gO ?_; intros)
   refine Cd.t (eqB_self bb) ?_
   have q1' : Has L2 (Nums w1 s) := q1
   refine sameU_ok hc h15 (by repeat (first | exact q1 | apply Has.skip)) (by repeat (first | exact q2 | apply Has.skip)) (by omega) ?_
   repeat (refine gO ?_; intros)
   rfl
  refine mValues_ok (n := 5) hc g39 pp rfl (by omega) (by omega) (fun gv H41 h41 => ?_) (fun gv w1 H41 h41 => ?_)
  ·repeat (refine gO ?_; intros)
   refine rValues29_ok (n := 5) hc h41 pp rfl (by omega) (by omega) (fun g2 H47 h47 => ?_) (fun g2 w2 H47 h47 => absurd g2 gv)
   repeat (refine gO ?_; intros)
   exact last (H41 := H41) (s := []) (L2 := Nums snil []::R) (by simp) (h47.nil.ent ee) Has.nums Has.nums
  ·repeat (refine gO ?_; intros)
   refine rValues29_ok (n := 5) hc h41 pp rfl (by omega) (by omega) (fun g2 H47 h47 => absurd gv g2) (fun g2 w2 H47 h47 => ?_)
   repeat (refine gO ?_; intros)
   exact last (H41 := H41) (s := valsW MZ 1 5) (L2 := Vec w2 tU 1 (rowsU (valsW MZ 1 5))::Vec w1 tU 1 (rowsU (valsW MZ 1 5))::R) (by rw [valsW_len]; omega) (h47.ent ee) (Has.skip (fun h a => Vec.nums (SatL.head a fun _ a s => Vec.mono a s))) (fun h a => Vec.nums (SatL.head a fun _ a s => Vec.mono a s))
end Go.Proofs.YtnkbmaccgifeoaaGreat

