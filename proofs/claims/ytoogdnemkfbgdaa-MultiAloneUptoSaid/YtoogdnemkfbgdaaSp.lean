/- What the functions do to the memories and procs that they are given: their contracts. The conditions stand in each. -/
import Derived.Test.YtoogdnemkfbgdaaSpA
import Derived.Sort.AssemblyPlain
set_option linter.unusedVariables false
set_option linter.unusedSimpArgs false

set_option linter.unusedVariables false
set_option linter.unusedSimpArgs false
namespace Go.Proofs.Ytoogdnemkfbgdaa
open Go Go.CM
attribute [local irreducible] AsBool AsWant AsNat AsInt AsCnt AsPtr AsSlc AsLen AsStr AsAgg AsTup AsFn AsIfc Nth Sc NotNil IsNil Must Cd codeW funW Sat SatL wrapN subM mkRow ltZ leZ ltN leN
attribute [local irreducible] isFunT
variable {con : CallT}
theorem multiHelp_ok (hc : Con con lives) {d : Nat} {L : List HP} {H : CH} {K : KP} (hs : Sat L H) (k : ∀ q H1,Sat (HlpAt q [fr0 d]::L) H1→K (ptr q 0) H1) : Call1 Try.prog con 56 [u64 d] H K := by
 refine call_of (hc _ _ _ rfl) ?_
 rw [multiHelp_W]
 refine nw hs fun p1 H1 h1 => ?_
 refine nwR h1 fun p3 H2 h2 => ?_
 refine nw h2 fun q H3 h3 => ?_
 refine k q H3 ?_
 have h4 : Sat (Row p3 tFrp 0 true [ptr p1 0]::Own q [slc p3 0 1 1]::Own p1 (frC (fr0 d) (.pointer none))::L) H3 := h3.ent ee
 have h5 : Sat (Stk (slc p3 0 1 1) tFrp 1 [[ptr p1 0]]::Own q [slc p3 0 1 1]::Own p1 (frC (fr0 d) (.pointer none))::L) H3 := h4.imp fun g a => a.stk rfl (by simp) (by omega) rfl
 have h6 : Sat (FrAt p1 (fr0 d)::Own q [slc p3 0 1 1]::Stk (slc p3 0 1 1) tFrp 1 [[ptr p1 0]]::L) H3 := FrAt.cls (po := none) (h5.ent ee) (show (0 : Nat) ≠ 9 by decide)
 have h7 : Sat (SatL [FrAt p1 (fr0 d)]::Own q [slc p3 0 1 1]::Stk (slc p3 0 1 1) tFrp 1 [[ptr p1 0]]::L) H3 := h6.imp fun g a => SatL.one a
 exact HlpAt.cls (bs := [p1]) rfl (h7.ent ee)
def plV (x : Value) (l : List Nat) : HP := fun h => (∃ b e,x = slc b 0 l.length l.length∧Row b e 0 true (l.map u64) h) ∨ (l ≠ []∧Vec x tU 1 (l.map fun x => [u64 x]) h)
theorem plV.nums {x : Value} {l : List Nat} {h : PH} (a : plV x l h) : Nums x l h := by
 rcases a with ⟨b,e,rfl,a⟩ | ⟨_,a⟩
 ·exact .inr ⟨b,0,_,e,0,true,_,rfl,Nat.le_refl _,by simp,by rw [List.drop_zero,List.take_of_length_le (by simp)],a⟩
 ·exact a.nums
theorem Has.plV {x : Value} {l : List Nat} {L : List HP} : Has (plV x l::L) (Nums x l) := fun h a => SatL.first a fun g a s => (plV.nums a).mono s
theorem app_plV {L R : List HP} {H : CH} {x : Value} {l new : List Nat} {p n xc : Nat} {K : KP} (hs : Sat L H) (hp : Pull L (plV x l) R) (hn : Src R p 0 (new.map u64)) (hnl : new.length = n) (hpos : 0 < n) (hlen : l.length + n ≤ 1000000000)
  (k : ∀ v H1,isCell v = true→Sat (plV v (l++new)::R) H1→K v H1) : App Try.prog tUS tUS H x (.slice (some ⟨p,0,none⟩) n xc) K := by
 have hs0 := hs.pull hp
 obtain ⟨h1,h2,s1,s2,dj,a,y⟩ := hs0.opens Pull.here
 have fin : ∀ v H1,Sat (Vec v tU 1 ((l.map fun x => [u64 x])++(new.map fun x => [u64 x]))::R) H1→K v H1 := fun v H1 h => by
  rw [← List.map_append] at h
  refine k v H1 ?_ (h.imp fun g a => .inr ⟨?_,a⟩)
  ·obtain ⟨q,rfl⟩ := (h.has Has.vec).shape; rfl
  ·intro e
   have := congrArg List.length e
   rw [List.length_append,hnl] at this
   simp at this
   omega
 rcases a with ⟨b,e,rfl,hrow⟩ | ⟨hne,hv⟩
 ·have hs1 : Sat (Row b e 0 true (l.map u64)::R) H := Sat.merge (L1 := [_]) s1 s2 dj (SatL.one hrow) y
  have := app_lit (l := l.map fun x => [u64 x]) (new := new.map fun x => [u64 x]) (xc := xc) hs1 (by rw [flat1]) el_u64 (by omega) sl_u64 (by rw [flat1]; exact hn) (by rw [List.length_map]; exact hnl) (by simp) (by simp) hpos (by rw [List.length_map]; exact hlen) fin
  rw [List.length_map] at this
  exact this
 ·have hs1 : Sat (Vec x tU 1 (l.map fun x => [u64 x])::R) H := Sat.merge (L1 := [_]) s1 s2 dj (SatL.one hv) y
  exact app_vec (new := new.map fun x => [u64 x]) hs1 Pull.here el_u64 (by omega) sl_u64 (by rw [flat1]; exact hn.skip) (by rw [List.length_map]; exact hnl) (by simp) (by rw [List.length_map]; exact hlen) (by rw [flat1]; exact isCell_u64 _) fin
def plE (d : Array E3) (i : Nat) : List Nat := 0::d.size::(d.toList.take i).flatMap fun e => [e.a,Nat.mod (Nat.mul 4 e.o) 18446744073709551616,Nat.mod (Nat.mul 4 e.n) 18446744073709551616]
theorem plE_all (d : Array E3) : plE d d.size = planE d.toList := by
 unfold plE planE
 rw [List.take_of_length_le (by rw [Array.length_toList]; exact Nat.le_refl _),Array.length_toList]
theorem plE_succ {d : Array E3} {i : Nat} (h : i < d.size) : plE d (i + 1) = plE d i++[d[i]!.a,Nat.mod (Nat.mul 4 d[i]!.o) 18446744073709551616,Nat.mod (Nat.mul 4 d[i]!.n) 18446744073709551616] := by
 unfold plE
 have h' : i < d.toList.length := by rw [Array.length_toList]; exact h
 rw [List.take_add_one,List.getElem?_eq_getElem h',getA,List.flatMap_append]
 simp
theorem plE_len (d : Array E3) : ∀ i,i ≤ d.size→(plE d i).length = 2 + 3 * i
 | 0,_ => by simp [plE]
 | i + 1,h => by rw [plE_succ (by omega),List.length_append,plE_len d i (by omega)]; simp; omega
theorem planLoop_ok (hc : Con con lives) {R : List HP} {H : CH} {p v : Nat} {lv pv : Value} {d : Array E3} {σ : TF} {Q : KX} (hs : Sat (EntA lv d::plV pv (plE d 0)::R) H) (hn : d.size ≤ 16)
  (e0 : σ 0 = ptr p 0) (e1 : σ 1 = ptr v 0) (e6 : σ 6 = pv) (e44 : σ 44 = lv) (e45 : σ 45 = iN d.size) (e46 : σ 46 = iN 0)
  (k : ∀ σ1 H1 pv',σ1 0 = ptr p 0→σ1 1 = ptr v 0→σ1 6 = pv'→Sat (EntA lv d::plV pv' (planE d.toList)::R) H1→Q (.exit 1) σ1 H1) :
  LoopC Try.prog con (lpAt Try.prog 53 0) σ H Q := by
 refine LoopC.indP (n := 300) (id := 1) (fun σ1 H1 => ∃ pv',σ1 0 = ptr p 0∧σ1 1 = ptr v 0∧σ1 6 = pv'∧Sat (EntA lv d::plV pv' (planE d.toList)::R) H1) (by kernel_rfl)
  (fun (i : Nat) σ1 H1 => i ≤ d.size∧σ1 0 = ptr p 0∧σ1 1 = ptr v 0∧σ1 44 = lv∧σ1 45 = iN d.size∧σ1 46 = iN i∧∃ pv',σ1 6 = pv'∧Sat (EntA lv d::plV pv' (plE d i)::R) H1)
  (fun i => d.size - i) (fun i σ1 H1 hI => ?_) (fun σ1 H1 hP => ?_) 0 _ _ ⟨Nat.zero_le _,e0,e1,e44,e45,e46,pv,e6,hs⟩
 ·obtain ⟨hi,a0,a1,a44,a45,a46,pv',a6,hs1⟩ := hI
  rw [multiStepA_W]
  simp only [a44,a45,a46,a6]
  repeat (refine gO ?_; intros)
  by_cases hlt : i < d.size
  ·refine Cd.t (ltZ_t hlt) ?_
   obtain ⟨b,hlv,hsrc⟩ := EntA.row hs1 Has.entA hlt
   subst hlv
   repeat (refine gO ?_; intros)
   refine Must.mk (ltN_t hlt) ?_
   refine ldEs hs1 hsrc hlt ?_
   repeat (refine gO ?_; intros)
   refine stN (by assumption) (Nat.le_of_ble_eq_true rfl) rfl fun H13 h13 => ?_
   repeat (refine gO ?_; intros)
   rename_i p19 H20 h20
   refine app_plV (new := [d[i]!.a,Nat.mod (Nat.mul 4 d[i]!.o) 18446744073709551616,Nat.mod (Nat.mul 4 d[i]!.n) 18446744073709551616]) h20 pp (Src.cell (ys := [u64 d[i]!.a,u64 (Nat.mod (Nat.mul 4 d[i]!.o) 18446744073709551616),u64 (Nat.mod (Nat.mul 4 d[i]!.n) 18446744073709551616)]) (n := 3) rfl) rfl (by omega) (by rw [plE_len d i hi]; omega) fun v' H5 hv' h5 => ?_
   repeat (refine gO ?_; intros)
   try rw [addInt]
   refine inR_nat (by first | omega | (simp only; omega)) ?_
   repeat (refine gO ?_; intros)
   show ∃ y,_∧_
   refine ⟨i + 1,by omega,hlt,a0,a1,a44,a45,rfl,v',rfl,?_⟩
   rw [plE_succ hlt]
   exact h5.ent ee
  ·obtain rfl : i = d.size := by omega
   refine Cd.f (ltZ_f (Nat.le_refl _)) ?_
   show _ = _∧_
   exact ⟨rfl,pv',a0,a1,a6,by rw [← plE_all]; exact hs1⟩
 ·obtain ⟨pv',a0,a1,a6,hs1⟩ := hP
  exact k σ1 H1 pv' a0 a1 a6 hs1
theorem multiEnd_ok (hc : Con con lives) {L R : List HP} {H : CH} {p at_ dd err er : Nat} {lv hv : Value} {done b : Bool} {K : KP} (hs : Sat L H) (hp : Pull L (Own p (muC lv at_ dd hv done err)) R)
  (k : ∀ H1,Sat (Own p (muC lv 3 dd hv b er)::R) H1→K (.bool true) H1) : Call1 Try.prog con 55 [ptr p 0,.bool b,iN er] H K := by
 refine call_of (hc _ _ _ rfl) ?_
 rw [multiEnd_W]
 have hs0 := hs.pull hp
 repeat (refine gO ?_; intros)
 exact k _ (Sat.ent (by assumption) ee)
def MuAt (p : Nat) (x : MuP) : HP := fun h =>
 (x.at_ = 0∧x.d = 0∧x.done = false∧x.err = 0∧∃ lv d,d.toList = x.l∧SatL [Own p (muC lv 0 0 (.pointer none) false 0),EntA lv d] h) ∨
 (x.at_ = 1∧∃ lv q,SatL [Own p (muC lv 1 x.d (ptr q 0) x.done x.err),HlpAt q x.stk] h) ∨
 (2 ≤ x.at_∧∃ lv po,Own p (muC lv x.at_ x.d (.pointer po) x.done x.err) h)
structure MuP.Ok (x : MuP) (c : Nat) : Prop where
 at_ : x.at_ ≤ 3
 l : ∀ e ∈ x.l,e.a < 18446744073709551616
 stk : x.at_ = 1→x.stk ≠ []∧OkS x.stk∧x.stk.length ≤ c
 d : x.d < 18446744073709551616
theorem planE_len (l : List E3) : (planE l).length = 2 + 3 * l.length := by
 unfold planE
 have : ∀ l : List E3,(l.flatMap fun e => [e.a,Nat.mod (Nat.mul 4 e.o) 18446744073709551616,Nat.mod (Nat.mul 4 e.n) 18446744073709551616]).length = 3 * l.length := fun l => by
  induction l with
  | nil => rfl
  | cons x r ih => rw [List.flatMap_cons,List.length_append,ih]; simp; omega
 rw [List.length_cons,List.length_cons,this]; omega
theorem multiStep_ok (hc : Con con lives) {x : MuP} {c : Nat} {L R1 R2 R3 : List HP} {H : CH} {p v m n : Nat} {th : Int} {M : Mem} {K : KP} (hs : Sat L H) (hm : Pull L (MemP m M) R1) (hv : Pull R1 (ViewAt v m th n) R2) (hp : Pull R2 (MuAt p x) R3)
  (hn : n < 1000000000) (ht : M.tr.length < 1000000000) (hb : M.Bd) (ok : x.Ok c) (hcc : c < 100000000)
  (k : ∀ n' H1,n' ≤ n + 1→Sat (MuAt p (x.go M th).1::MemP m (x.go M th).2::ViewAt v m th n'::R3) H1→K (.bool (decide ((x.go M th).1.at_ = 3))) H1) : Call1 Try.prog con 53 [ptr p 0,ptr v 0] H K := by
 refine call_of (hc _ _ _ rfl) ?_
 rw [multiStep_W]
 have hs0 := hs.takes (.cons hm (.cons hv (.cons hp .nil)))
 simp only [List.cons_append,List.nil_append] at hs0
 clear hs hm hv hp
 have hs1 : Sat (MuAt p x::MemP m M::ViewAt v m th n::R3) H := hs0.ent ee
 clear hs0
 obtain ⟨h1,h2,s1,s2,dj,a,y⟩ := hs1.opens Pull.here
 clear hs1
 obtain ⟨l,at_,dd,stk,done,err⟩ := x
 have hat := ok.at_
 have hl := ok.l
 have hst := ok.stk
 simp only at hat hl hst
 rcases a with ⟨e0,e1,e2,e3,lv,d,hdl,a⟩ | ⟨e0,lv,q,a⟩ | ⟨e0,lv,po,a⟩
 ·simp only at e0 e1 e2 e3 hdl
  subst e0 e1 e2 e3 hdl
  have hs2 := Sat.merge s1 s2 dj a y
  simp only [List.cons_append,List.nil_append] at hs2
  clear a y s1 s2 dj
  obtain ⟨pl,hlv⟩ := (hs2.has (Has.skip Has.entA)).len
  repeat (refine gO ?_; intros)
  refine multiWrong_ok hc hs2 .here .here fun d' H4 hsz hsrt h4 => ?_
  repeat (refine gO ?_; intros)
  have hlen : d.toList.length = d.size := Array.length_toList
  by_cases he : errE d.toList = 0
  ·have hsrt := hsrt he
   rw [he]
   refine Cd.f (by rw [eqZ_self]; rfl) ?_
   refine ld h4 rfl (AsLen.eq hlv ?_)
   by_cases h0 : d.size = 0
   ·refine Cd.t (eqZ_t h0) ?_
    repeat (refine gO ?_; intros)
    have hnil : d.toList = [] := List.eq_nil_of_length_eq_zero (by rw [hlen]; exact h0)
    have ek : MuP.go ⟨d.toList,0,0,stk,false,0⟩ M th = (⟨d.toList,3,0,stk,decide (errE d.toList = 0),errE d.toList⟩,M) := Eq.trans (if_pos rfl) (if_pos (.inr hnil))
    rw [ek,he] at k
    refine multiEnd_ok (lv := lv) (at_ := 0) (dd := 0) (hv := .pointer none) (done := false) (err := 0) (er := 0) hc h4 .here fun H5 h5 => ?_
    refine k n H5 (Nat.le_succ _) ?_
    have h6 : Sat (Own p (muC lv 3 0 (.pointer none) true 0)::MemP m M::ViewAt v m th n::R3) H5 := h5.ent ee
    exact h6.imp fun g a => .inr (.inr ⟨by show 2 ≤ 3; omega,lv,none,a⟩)
   ·refine Cd.f (eqZ_f h0) ?_
    have hne : ¬ (errE d.toList ≠ 0 ∨ d.toList = []) := by
     rintro (h | h)
     ·exact h he
     ·rw [h] at hlen; exact h0 hlen.symm
    have ek : MuP.go ⟨d.toList,0,0,stk,false,0⟩ M th = (⟨d.toList,if M.room (planE (srtE d.toList)) = 0 then 3 else 1,M.room (planE (srtE d.toList)),[fr0 (M.room (planE (srtE d.toList)))],false,if M.room (planE (srtE d.toList)) = 0 then 30 else 0⟩,M.alloc th (planE (srtE d.toList))) := Eq.trans (if_pos rfl) (if_neg hne)
    rw [ek] at k
    rw [← hsrt] at k
    have hd16 : d.size ≤ 16 := by have := (errE_zero he).1; omega
    refine ld h4 rfl (AsLen.eq hlv ?_)
    refine Must.mk (cv_small (by omega)) ?_
    rw [wrapN_small (by omega)]
    refine nwR h4 fun p16 H17 h17 => ?_
    refine ld h17 rfl (AsLen.eq hlv ?_)
    have h18 : Sat (plV (slc p16 0 2 2) (plE d' 0)::Own p (muC lv 0 0 (.pointer none) false 0)::EntA lv d'::MemP m M::ViewAt v m th n::R3) H17 := h17.imp fun g a => .inl ⟨p16,_,rfl,by rw [← hsz] at a; exact a⟩
    refine planLoop_ok (p := p) (v := v) (lv := lv) (pv := slc p16 0 2 2) (d := d') hc (h18.ent ee) (by omega) rfl rfl rfl rfl (by rw [hsz]; rfl) rfl fun σ1 H1 pv' c0 c1 c6 h19 => ?_
    show Cd _ _ _
    refine Cd.t rfl ?_
    simp only [c0,c1,c6]
    repeat (refine gO ?_; intros)
    refine viewAlloc_ok (vals := planE d'.toList) hc (by assumption) pp pp (Has.ent ee (Has.plV (x := pv') (l := planE d'.toList) (L := []))) (by rw [planE_len,Array.length_toList]; omega) hn ht fun H27 h27 => ?_
    repeat (refine gO ?_; intros)
    by_cases hr : M.room (planE d'.toList) = 0
    ·simp only [hr,if_true] at k
     refine Cd.t (eqN_t hr) ?_
     rename_i hlast
     rw [hr] at hlast
     refine multiEnd_ok (lv := lv) (at_ := 1) (dd := 0) (hv := .pointer none) (done := false) (err := 0) (er := 30) hc hlast pp fun H5 h5 => ?_
     refine k (n + 1) H5 (Nat.le_refl _) ?_
     have h6 : Sat (Own p (muC lv 3 0 (.pointer none) false 30)::MemP m (M.alloc th (planE d'.toList))::ViewAt v m th (n + 1)::R3) H5 := h5.ent ee
     exact h6.imp fun g a => .inr (.inr ⟨by show 2 ≤ 3; omega,lv,none,a⟩)
    ·simp only [hr,if_false] at k
     refine Cd.f (eqN_f hr) ?_
     repeat (refine gO ?_; intros)
     refine multiHelp_ok hc (by assumption) fun q H41 h41 => ?_
     repeat (refine gO ?_; intros)
     rename_i hlast
     refine k (n + 1) _ (Nat.le_refl _) ?_
     have h6 : Sat ([Own p (muC lv 1 (M.room (planE d'.toList)) (ptr q 0) false 0),HlpAt q [fr0 (M.room (planE d'.toList))]]++(MemP m (M.alloc th (planE d'.toList))::ViewAt v m th (n + 1)::R3)) _ := Sat.ent hlast ee
     exact Sat.close h6 fun g a => .inr (.inl ⟨rfl,lv,q,a⟩)
  ·have ek : MuP.go ⟨d.toList,0,0,stk,false,0⟩ M th = (⟨d.toList,3,0,stk,decide (errE d.toList = 0),errE d.toList⟩,M) := Eq.trans (if_pos rfl) (if_pos (.inl he))
   rw [ek,decide_eq_false he] at k
   refine Cd.t (by rw [eqZ_f he]; rfl) ?_
   repeat (refine gO ?_; intros)
   rw [eqZ_f he]
   refine multiEnd_ok (lv := lv) (at_ := 0) (dd := 0) (hv := .pointer none) (done := false) (err := 0) (er := errE d.toList) hc h4 .here fun H5 h5 => ?_
   refine k n H5 (Nat.le_succ _) ?_
   have h6 : Sat (Own p (muC lv 3 0 (.pointer none) false (errE d.toList))::MemP m M::ViewAt v m th n::R3) H5 := h5.ent ee
   exact h6.imp fun g a => .inr (.inr ⟨by show 2 ≤ 3; omega,lv,none,a⟩)
 ·simp only at e0
  subst e0
  have hs2 := Sat.merge s1 s2 dj a y
  simp only [List.cons_append,List.nil_append] at hs2
  clear a y s1 s2 dj
  obtain ⟨hne,hok,hlen⟩ := hst rfl
  obtain ⟨f,r,rfl⟩ : ∃ f r,stk = f::r := by
   cases stk with
   | nil => exact absurd rfl hne
   | cons f r => exact ⟨f,r,rfl⟩
  have hlen2 : r.length + 1 ≤ c := hlen
  repeat (refine gO ?_; intros)
  refine helperStep_ok hc hs2 pp pp pp hn ht hb (hok f (List.mem_cons_self ..)) (by omega) fun H40 h40 => ?_
  have ek : MuP.go ⟨l,1,dd,f::r,done,err⟩ M th = (⟨l,if (stkP (f::r) M th).1 = [] then 2 else 1,dd,(stkP (f::r) M th).1,done,err⟩,(stkP (f::r) M th).2) := rfl
  rw [ek] at k
  generalize (stkP (f::r) M th).1 = s' at *
  generalize (stkP (f::r) M th).2 = M' at *
  repeat (refine gO ?_; intros)
  by_cases h0 : s' = []
  ·rw [if_pos h0] at k
   refine Cd.t (by rw [h0]; rfl) ?_
   repeat (refine gO ?_; intros)
   rename_i hlast
   have h6 : Sat (Own p (muC lv 2 dd (ptr q 0) done err)::MemP m M'::ViewAt v m th (n + 1)::R3) _ := Sat.ent hlast ee
   exact k (n + 1) _ (Nat.le_refl _) (h6.imp fun g a => .inr (.inr ⟨by show 2 ≤ 2; omega,lv,_,a⟩))
  ·rw [if_neg h0] at k
   refine Cd.f (decide_eq_false fun h => h0 (List.eq_nil_of_length_eq_zero h)) ?_
   repeat (refine gO ?_; intros)
   have h6 : Sat ([Own p (muC lv 1 dd (ptr q 0) done err),HlpAt q s']++(MemP m M'::ViewAt v m th (n + 1)::R3)) _ := Sat.ent h40 ee
   exact k (n + 1) _ (Nat.le_refl _) (Sat.close h6 fun g a => .inr (.inl ⟨rfl,lv,q,a⟩))
 ·have hs2 : Sat (Own p (muC lv at_ dd (.pointer po) done err)::MemP m M::ViewAt v m th n::R3) H := Sat.merge (L1 := [_]) s1 s2 dj (SatL.one a) y
  clear a y s1 s2 dj
  simp only at e0
  rcases (by omega : at_ = 2 ∨ at_ = 3) with rfl | rfl
  ·repeat (refine gO ?_; intros)
   refine viewLoad_ok hc hs2 pp pp hn ht fun H50 h50 => ?_
   have ek : MuP.go ⟨l,2,dd,stk,done,err⟩ M th = (⟨l,3,dd,stk,decide (M.peek dd = 1),if M.peek dd = 3 then 30 else 0⟩,M.load th dd) := rfl
   rw [ek] at k
   repeat (refine gO ?_; intros)
   by_cases c1 : M.peek dd = 1
   ·rw [decide_eq_true c1,if_neg (by omega)] at k
    refine Cd.t (eqN_t c1) ?_
    refine multiEnd_ok (lv := lv) (at_ := 2) (dd := dd) (hv := .pointer po) (done := done) (err := err) (er := 0) hc h50 pp fun H5 h5 => ?_
    have h6 : Sat (Own p (muC lv 3 dd (.pointer po) true 0)::MemP m (M.load th dd)::ViewAt v m th (n + 1)::R3) _ := Sat.ent h5 ee
    exact k (n + 1) _ (Nat.le_refl _) (h6.imp fun g a => .inr (.inr ⟨by show 2 ≤ 3; omega,lv,po,a⟩))
   ·rw [decide_eq_false c1] at k
    refine Cd.f (eqN_f c1) ?_
    repeat (refine gO ?_; intros)
    by_cases c3 : M.peek dd = 3
    ·rw [if_pos c3] at k
     refine Cd.t (eqN_t c3) ?_
     refine multiEnd_ok (lv := lv) (at_ := 2) (dd := dd) (hv := .pointer po) (done := done) (err := err) (er := 30) hc h50 pp fun H5 h5 => ?_
     have h6 : Sat (Own p (muC lv 3 dd (.pointer po) false 30)::MemP m (M.load th dd)::ViewAt v m th (n + 1)::R3) _ := Sat.ent h5 ee
     exact k (n + 1) _ (Nat.le_refl _) (h6.imp fun g a => .inr (.inr ⟨by show 2 ≤ 3; omega,lv,po,a⟩))
    ·rw [if_neg c3] at k
     refine Cd.f (eqN_f c3) ?_
     refine multiEnd_ok (lv := lv) (at_ := 2) (dd := dd) (hv := .pointer po) (done := done) (err := err) (er := 0) hc h50 pp fun H5 h5 => ?_
     have h6 : Sat (Own p (muC lv 3 dd (.pointer po) false 0)::MemP m (M.load th dd)::ViewAt v m th (n + 1)::R3) _ := Sat.ent h5 ee
     exact k (n + 1) _ (Nat.le_refl _) (h6.imp fun g a => .inr (.inr ⟨by show 2 ≤ 3; omega,lv,po,a⟩))
  ·repeat (refine gO ?_; intros)
   exact k n _ (Nat.le_succ _) (hs2.imp fun g a => .inr (.inr ⟨by show 2 ≤ 3; omega,lv,po,a⟩))
end Go.Proofs.Ytoogdnemkfbgdaa

set_option linter.unusedVariables false
set_option linter.unusedSimpArgs false
namespace Go.Proofs.Ytoogdnemkfbgdaa
open Go Go.CM
attribute [local irreducible] AsBool AsWant AsNat AsInt AsCnt AsPtr AsSlc AsLen AsStr AsAgg AsTup AsFn AsIfc Nth Sc NotNil IsNil Must Cd codeW funW Sat SatL wrapN subM mkRow ltZ leZ ltN leN
attribute [local irreducible] isFunT
variable {con : CallT}
abbrev pNil : Value := .pointer none
def rdC (addr : Nat) (sv hv : Value) (o : Bool) (val : Nat) : List Value := [u64 addr,sv,hv,.bool o,u64 val]
def RdAt (p : Nat) (x : RdP) : HP := fun h =>
 (x.kind = 0∧Own p (rdC x.addr pNil pNil false x.val) h) ∨
 (x.kind = 1∧∃ q,SatL [Own p (rdC x.addr (ptr q 0) pNil false x.val),Own q (seC x.st)] h) ∨
 (x.kind = 2∧∃ q,SatL [Own p (rdC x.addr pNil (ptr q 0) false x.val),HlpAt q x.stk] h) ∨
 (x.kind = 3∧Own p (rdC x.addr pNil pNil true x.val) h)
structure RdP.Ok (x : RdP) (c : Nat) : Prop where
 kind : x.kind ≤ 3
 st : x.kind = 1→x.st.Ok
 stk : x.kind = 2→x.stk ≠ []∧OkS x.stk∧x.stk.length ≤ c
theorem readStep_ok (hc : Con con lives) {x : RdP} {c : Nat} {L R1 R2 R3 : List HP} {H : CH} {p v m n : Nat} {th : Int} {M : Mem} {K : KP} (hs : Sat L H) (hm : Pull L (MemP m M) R1) (hv : Pull R1 (ViewAt v m th n) R2) (hp : Pull R2 (RdAt p x) R3)
  (hn : n < 1000000000) (ht : M.tr.length < 1000000000) (hb : M.Bd) (ok : x.Ok c) (hcc : c < 100000000)
  (k : ∀ n' H1,n' ≤ n + 1→Sat (RdAt p (x.go M th).1::MemP m (x.go M th).2::ViewAt v m th n'::R3) H1→K (.bool (decide ((x.go M th).1.kind = 3))) H1) : Call1 Try.prog con 90 [ptr p 0,ptr v 0] H K := by
 refine call_of (hc _ _ _ rfl) ?_
 rw [readStep_W]
 have hs0 := hs.takes (.cons hm (.cons hv (.cons hp .nil)))
 simp only [List.cons_append,List.nil_append] at hs0
 clear hs hm hv hp
 have hs1 : Sat (RdAt p x::MemP m M::ViewAt v m th n::R3) H := hs0.ent ee
 clear hs0
 obtain ⟨h1,h2,s1,s2,dj,a,y⟩ := hs1.opens Pull.here
 clear hs1
 obtain ⟨addr,kind,st,stk,val⟩ := x
 have hst := ok.st
 have hstk := ok.stk
 simp only at hst hstk
 rcases a with ⟨e0,a⟩ | ⟨e0,q,a⟩ | ⟨e0,q,a⟩ | ⟨e0,a⟩
 ·simp only at e0
  subst e0
  have hs2 : Sat (Own p (rdC addr pNil pNil false val)::MemP m M::ViewAt v m th n::R3) H := Sat.merge (L1 := [_]) s1 s2 dj (SatL.one a) y
  clear a y s1 s2 dj
  repeat (refine gO ?_; intros)
  refine viewLoad_ok hc hs2 pp pp hn ht fun H19 h19 => ?_
  repeat (refine gO ?_; intros)
  have hr := hb.peek addr
  have ek : RdP.go ⟨addr,0,st,stk,val⟩ M th = (if M.peek addr % 4 = 1 then ⟨addr,1,sett0 (M.peek addr),stk,val⟩ else if M.peek addr % 4 = 2 then ⟨addr,2,st,[fr0 (M.peek addr / 4)],val⟩ else ⟨addr,3,st,stk,M.peek addr / 4⟩,M.load th addr) := rfl
  rw [ek] at k
  generalize M.peek addr = r at *
  generalize M.load th addr = M' at *
  by_cases c1 : r % 4 = 1
  ·rw [if_pos c1] at k
   refine Cd.t (eqN_t c1) ?_
   repeat (refine gO ?_; intros)
   rename_i q H22 _ _ hlast
   refine k (n + 1) _ (Nat.le_refl _) (Sat.close (L1 := [Own p (rdC addr (ptr q 0) pNil false val),Own q (seC (sett0 r))]) (Sat.ent hlast ee) fun g a => .inr (.inl ⟨rfl,q,a⟩))
  ·rw [if_neg c1] at k
   refine Cd.f (eqN_f c1) ?_
   by_cases c2 : r % 4 = 2
   ·rw [if_pos c2] at k
    refine Cd.t (eqN_t c2) ?_
    repeat (refine gO ?_; intros)
    rw [md4 hr]
    refine multiHelp_ok hc h19 fun q H27 h27 => ?_
    repeat (refine gO ?_; intros)
    rename_i hlast
    refine k (n + 1) _ (Nat.le_refl _) (Sat.close (L1 := [Own p (rdC addr pNil (ptr q 0) false val),HlpAt q [fr0 (r / 4)]]) (Sat.ent hlast ee) fun g a => .inr (.inr (.inl ⟨rfl,q,a⟩)))
   ·rw [if_neg c2] at k
    refine Cd.f (eqN_f c2) ?_
    repeat (refine gO ?_; intros)
    rename_i hlast
    rw [md4 hr] at hlast
    refine k (n + 1) _ (Nat.le_refl _) (Sat.imp (A := Own p (rdC addr pNil pNil true (r / 4))) (Sat.ent hlast ee) fun g a => .inr (.inr (.inr ⟨rfl,a⟩)))
 ·simp only at e0
  subst e0
  have hs2 := Sat.merge s1 s2 dj a y
  simp only [List.cons_append,List.nil_append] at hs2
  clear a y s1 s2 dj
  have ost := hst rfl
  repeat (refine gO ?_; intros)
  refine settlerStep_ok hc hs2 pp pp pp hn ht ost.word ost.at_ fun H7 h7 => ?_
  have ek : RdP.go ⟨addr,1,st,stk,val⟩ M th = (⟨addr,if (st.go M th).2.2 then 0 else 1,(st.go M th).1,stk,val⟩,(st.go M th).2.1) := rfl
  rw [ek] at k
  generalize (st.go M th).1 = s' at *
  generalize (st.go M th).2.1 = M' at *
  repeat (refine gO ?_; intros)
  cases c : (st.go M th).2.2 with
  | true =>
   rw [c] at k
   refine Cd.t rfl ?_
   repeat (refine gO ?_; intros)
   rename_i hlast
   exact k (n + 1) _ (Nat.le_refl _) (Sat.imp (A := Own p (rdC addr pNil pNil false val)) (Sat.ent hlast ee) fun g a => .inl ⟨rfl,a⟩)
  | false =>
   rw [c] at k
   refine Cd.f rfl ?_
   exact k (n + 1) _ (Nat.le_refl _) (Sat.close (L1 := [Own p (rdC addr (ptr q 0) pNil false val),Own q (seC s')]) (Sat.ent h7 ee) fun g a => .inr (.inl ⟨rfl,q,a⟩))
 ·simp only at e0
  subst e0
  have hs2 := Sat.merge s1 s2 dj a y
  simp only [List.cons_append,List.nil_append] at hs2
  clear a y s1 s2 dj
  obtain ⟨hne,hok,hlen⟩ := hstk rfl
  obtain ⟨f,r,rfl⟩ : ∃ f r,stk = f::r := by
   cases stk with
   | nil => exact absurd rfl hne
   | cons f r => exact ⟨f,r,rfl⟩
  have hlen2 : r.length + 1 ≤ c := hlen
  repeat (refine gO ?_; intros)
  refine helperStep_ok hc hs2 pp pp pp hn ht hb (hok f (List.mem_cons_self ..)) (by omega) fun H40 h40 => ?_
  have ek : RdP.go ⟨addr,2,st,f::r,val⟩ M th = (⟨addr,if (stkP (f::r) M th).1 = [] then 0 else 2,st,(stkP (f::r) M th).1,val⟩,(stkP (f::r) M th).2) := rfl
  rw [ek] at k
  generalize (stkP (f::r) M th).1 = s' at *
  generalize (stkP (f::r) M th).2 = M' at *
  repeat (refine gO ?_; intros)
  by_cases h0 : s' = []
  ·rw [if_pos h0] at k
   refine Cd.t (by rw [h0]; rfl) ?_
   repeat (refine gO ?_; intros)
   rename_i hlast
   exact k (n + 1) _ (Nat.le_refl _) (Sat.imp (A := Own p (rdC addr pNil pNil false val)) (Sat.ent hlast ee) fun g a => .inl ⟨rfl,a⟩)
  ·rw [if_neg h0] at k
   refine Cd.f (decide_eq_false fun h => h0 (List.eq_nil_of_length_eq_zero h)) ?_
   exact k (n + 1) _ (Nat.le_refl _) (Sat.close (L1 := [Own p (rdC addr pNil (ptr q 0) false val),HlpAt q s']) (Sat.ent h40 ee) fun g a => .inr (.inr (.inl ⟨rfl,q,a⟩)))
 ·simp only at e0
  subst e0
  have hs2 : Sat (Own p (rdC addr pNil pNil true val)::MemP m M::ViewAt v m th n::R3) H := Sat.merge (L1 := [_]) s1 s2 dj (SatL.one a) y
  repeat (refine gO ?_; intros)
  exact k n _ (Nat.le_succ _) (hs2.imp fun g a => .inr (.inr (.inr ⟨rfl,a⟩)))
theorem stkP_len (l : List FrP) (M : Mem) (th : Int) : (stkP l M th).1.length ≤ l.length + 1 := by
 cases l with
 | nil => exact Nat.zero_le _
 | cons f r =>
  unfold stkP
  simp only
  split
  ·simp
  ·split <;> simp <;> omega
theorem RdP.Ok.go {x : RdP} {c : Nat} (h : x.Ok c) {M : Mem} (hb : M.Bd) (th : Int) : (x.go M th).2.Bd∧(x.go M th).1.Ok (c + 1) := by
 obtain ⟨addr,kind,st,stk,val⟩ := x
 obtain ⟨h1,h2,h3⟩ := h
 simp only at h1 h2 h3
 have e : kind = 0 ∨ kind = 1 ∨ kind = 2 ∨ kind = 3 := by omega
 rcases e with rfl | rfl | rfl | rfl
 ·refine ⟨hb.load th addr,?_⟩
  show RdP.Ok (if M.peek addr % 4 = 1 then ⟨addr,1,sett0 (M.peek addr),stk,val⟩ else if M.peek addr % 4 = 2 then ⟨addr,2,st,[fr0 (M.peek addr / 4)],val⟩ else ⟨addr,3,st,stk,M.peek addr / 4⟩) (c + 1)
  have hr := hb.peek addr
  split
  ·exact ⟨by show 1 ≤ 3; omega,fun _ => ⟨hr,by show 0 < _; omega,by show 0 < _; omega,by show 0 < 6; omega⟩,fun q => absurd q (by show ¬ 1 = 2; omega)⟩
  ·split
   ·exact ⟨by show 2 ≤ 3; omega,fun q => absurd q (by show ¬ 2 = 1; omega),fun _ => ⟨by simp,fun f hf => by rw [List.mem_singleton.1 hf]; exact fr0_ok (by omega),by simp⟩⟩
   ·exact ⟨Nat.le_refl _,fun q => absurd q (by show ¬ 3 = 1; omega),fun q => absurd q (by show ¬ 3 = 2; omega)⟩
 ·obtain ⟨g1,g2⟩ := (h2 rfl).go hb th
  refine ⟨g1,?_⟩
  show RdP.Ok ⟨addr,if (st.go M th).2.2 then 0 else 1,(st.go M th).1,stk,val⟩ (c + 1)
  split
  ·exact ⟨by show 0 ≤ 3; omega,fun q => absurd q (by show ¬ 0 = 1; omega),fun q => absurd q (by show ¬ 0 = 2; omega)⟩
  ·rename_i q
   exact ⟨by show 1 ≤ 3; omega,fun _ => g2.resolve_left q,fun q => absurd q (by show ¬ 1 = 2; omega)⟩
 ·obtain ⟨q1,q2,q3⟩ := h3 rfl
  obtain ⟨g1,g2⟩ := q2.go hb th
  refine ⟨g1,?_⟩
  have := stkP_len stk M th
  show RdP.Ok ⟨addr,if (stkP stk M th).1 = [] then 0 else 2,st,(stkP stk M th).1,val⟩ (c + 1)
  split
  ·exact ⟨by show 0 ≤ 3; omega,fun q => absurd q (by show ¬ 0 = 1; omega),fun q => absurd q (by show ¬ 0 = 2; omega)⟩
  ·rename_i q
   exact ⟨by show 2 ≤ 3; omega,fun q => absurd q (by show ¬ 2 = 1; omega),fun _ => ⟨q,g2,by show (stkP stk M th).1.length ≤ c + 1; omega⟩⟩
 ·exact ⟨hb,Nat.le_refl _,fun q => absurd q (by show ¬ 3 = 1; omega),fun q => absurd q (by show ¬ 3 = 2; omega)⟩
theorem planE_bd {l : List E3} (hl : l.length < 18446744073709551616) (h : ∀ e ∈ l,e.a < 18446744073709551616) : ∀ x ∈ planE l,x < 18446744073709551616 := by
 intro x hx
 unfold planE at hx
 rcases List.mem_cons.1 hx with rfl | hx
 ·omega
 rcases List.mem_cons.1 hx with rfl | hx
 ·exact hl
 obtain ⟨e,h1,h2⟩ := List.mem_flatMap.1 hx
 simp only [List.mem_cons,List.mem_nil_iff,or_false] at h2
 rcases h2 with rfl | rfl | rfl
 ·exact h e h1
 ·exact m64_lt _
 ·exact m64_lt _
theorem MuP.Ok.go {x : MuP} {c : Nat} (h : x.Ok c) {M : Mem} (hb : M.Bd) (hfree : M.free < 18446744073709551616) (hc1 : 1 ≤ c) (th : Int) : (x.go M th).2.Bd∧(x.go M th).1.Ok (c + 1) := by
 obtain ⟨l,at_,d,stk,done,err⟩ := x
 obtain ⟨h1,h2,h3,h4⟩ := h
 simp only at h1 h2 h3 h4
 have e : at_ = 0 ∨ at_ = 1 ∨ at_ = 2 ∨ at_ = 3 := by omega
 rcases e with rfl | rfl | rfl | rfl
 ·by_cases hw : errE l ≠ 0 ∨ l = []
  ·rw [show MuP.go ⟨l,0,d,stk,done,err⟩ M th = (⟨l,3,d,stk,decide (errE l = 0),errE l⟩,M) from Eq.trans (if_pos rfl) (if_pos hw)]
   exact ⟨hb,Nat.le_refl _,h2,fun q => absurd q (by show ¬ 3 = 1; omega),h4⟩
  ·rw [show MuP.go ⟨l,0,d,stk,done,err⟩ M th = (⟨l,if M.room (planE (srtE l)) = 0 then 3 else 1,M.room (planE (srtE l)),[fr0 (M.room (planE (srtE l)))],done,if M.room (planE (srtE l)) = 0 then 30 else 0⟩,M.alloc th (planE (srtE l))) from Eq.trans (if_pos rfl) (if_neg hw)]
   have he : errE l = 0 := Classical.byContradiction fun q => hw (.inl q)
   have hroom : M.room (planE (srtE l)) < 18446744073709551616 := by
    unfold Mem.room
    split
    ·exact hfree
    ·omega
   have hsl : (srtE l).length = l.length := (srtE_perm l).length_eq
   refine ⟨Bd.alloc hb th (planE_bd (by rw [hsl]; have := (errE_zero he).1; omega) fun e he => h2 e ((srtE_perm l).mem_iff.1 he)),?_,h2,fun _ => ⟨by simp,fun f hf => by rw [List.mem_singleton.1 hf]; exact fr0_ok hroom,by simp⟩,hroom⟩
   show (if _ then 3 else 1) ≤ 3
   split <;> omega
 ·obtain ⟨q1,q2,q3⟩ := h3 rfl
  obtain ⟨g1,g2⟩ := q2.go hb th
  refine ⟨g1,?_⟩
  have := stkP_len stk M th
  show MuP.Ok ⟨l,if (stkP stk M th).1 = [] then 2 else 1,d,(stkP stk M th).1,done,err⟩ (c + 1)
  split
  ·exact ⟨by show 2 ≤ 3; omega,h2,fun q => absurd q (by show ¬ 2 = 1; omega),h4⟩
  ·rename_i q
   exact ⟨by show 1 ≤ 3; omega,h2,fun _ => ⟨q,g2,by show (stkP stk M th).1.length ≤ c + 1; omega⟩,h4⟩
 ·exact ⟨hb.load th d,Nat.le_refl _,h2,fun q => absurd q (by show ¬ 3 = 1; omega),h4⟩
 ·exact ⟨hb,Nat.le_refl _,h2,fun q => absurd q (by show ¬ 3 = 1; omega),h4⟩
end Go.Proofs.Ytoogdnemkfbgdaa

set_option linter.unusedVariables false
set_option linter.unusedSimpArgs false
namespace Go.Proofs.Ytoogdnemkfbgdaa
open Go Go.CM
attribute [local irreducible] AsBool AsWant AsNat AsInt AsCnt AsPtr AsSlc AsLen AsStr AsAgg AsTup AsFn AsIfc Nth Sc NotNil IsNil Must Cd codeW funW Sat SatL wrapN subM mkRow ltZ leZ ltN leN
attribute [local irreducible] isFunT
variable {con : CallT}
inductive Nx1 (M : Mem) : Mem→Prop where
 | same : Nx1 M M
 | load (th : Int) (a : Nat) : Nx1 M (M.load th a)
 | cas (th : Int) (a x y : Nat) : Nx1 M (M.cas th a x y)
 | alloc (th : Int) (vals : List Nat) (h : vals.length ≤ 1000) : Nx1 M (M.alloc th vals)
theorem sett_nx (x : SettP) (M : Mem) (th : Int) : Nx1 M (x.go M th).2.1 := by
 unfold SettP.go
 split
 ·exact .load _ _
 split
 ·exact .load _ _
 split
 ·exact .load _ _
 split
 ·exact .load _ _
 split
 ·exact .load _ _
 ·exact .cas _ _ _ _
theorem ite_nx {α : Type} {c : Prop} [Decidable c] {M : Mem} {a b : α × Mem} (h1 : Nx1 M a.2) (h2 : Nx1 M b.2) : Nx1 M (if c then a else b).2 := by
 by_cases h : c
 ·rw [if_pos h]; exact h1
 ·rw [if_neg h]; exact h2
theorem fr_nx (f : FrP) (M : Mem) (th : Int) : Nx1 M (f.go M th).2 := by
 unfold FrP.go
 exact ite_nx (.load _ _) (ite_nx (.load _ _) (ite_nx (.load _ _) (ite_nx (.load _ _) (ite_nx (.alloc _ _ (by simp)) (ite_nx (.cas _ _ _ _) (ite_nx (.load _ _) (ite_nx (.cas _ _ _ _) (ite_nx (.load _ _) (ite_nx (sett_nx _ _ _) (ite_nx (.cas _ _ _ _) (ite_nx (.load _ _) (ite_nx (.load _ _) (ite_nx (.load _ _) (.cas _ _ _ _))))))))))))))
theorem stk_nx (l : List FrP) (M : Mem) (th : Int) : Nx1 M (stkP l M th).2 := by
 cases l with
 | nil => exact .same
 | cons f r => exact fr_nx f M th
theorem rd_nx (x : RdP) (M : Mem) (th : Int) : Nx1 M (x.go M th).2 := by
 unfold RdP.go
 split
 ·exact .load _ _
 split
 ·exact sett_nx _ _ _
 split
 ·exact stk_nx _ _ _
 ·exact .same
theorem mu_nx (x : MuP) (M : Mem) (th : Int) : Nx1 M (x.go M th).2 := by
 unfold MuP.go
 split
 ·split
  ·exact .same
  ·rename_i h
   have he : errE x.l = 0 := Classical.byContradiction fun q => h (.inl q)
   exact .alloc _ _ (by rw [planE_len,(srtE_perm _).length_eq]; have := (errE_zero he).1; omega)
 split
 ·exact stk_nx _ _ _
 split
 ·exact .load _ _
 ·exact .same
structure Fin29 (M : Mem) : Prop where
 bd : M.Bd
 free : M.free ≤ M.cells.length
 len : M.cells.length ≤ 4194304
theorem Nx1.tr {M M' : Mem} (h : Nx1 M M') : M.tr.length ≤ M'.tr.length∧M'.tr.length ≤ M.tr.length + 1 := by
 cases h with
 | same => exact ⟨Nat.le_refl _,Nat.le_succ _⟩
 | load th a => simp [Mem.load,Mem.note]
 | cas th a x y =>
  simp only [Mem.cas,Mem.note]
  split <;> simp [Mem.put]
 | alloc th vals h =>
  simp only [Mem.alloc,Mem.note]
  split <;> simp
theorem Nx1.lim {M M' : Mem} (h : Nx1 M M') (hf : M.free ≤ M.cells.length) (hl : M.cells.length ≤ 4194304) : M'.free ≤ M'.cells.length∧M'.cells.length ≤ 4194304 := by
 cases h with
 | same => exact ⟨hf,hl⟩
 | load th a => exact ⟨hf,hl⟩
 | cas th a x y =>
  unfold Mem.cas
  split
  ·show M.free ≤ (M.put a y).cells.length∧(M.put a y).cells.length ≤ _
   rw [put_len]; exact ⟨hf,hl⟩
  ·exact ⟨hf,hl⟩
 | alloc th vals h =>
  unfold Mem.alloc
  split
  ·rename_i q
   show M.free + vals.length ≤ (ovN vals M.cells M.free).length∧(ovN vals M.cells M.free).length ≤ _
   rw [ovN_len]; exact ⟨by omega,hl⟩
  ·exact ⟨hf,hl⟩
def CalmV (M : Mem) : Prop := ∀ a ∈ M.tr,a.vals.length ≤ 1000000000
theorem CalmV.note {M : Mem} {c : Acs} (h : CalmV M) (hc : c.vals.length ≤ 1000000000) : CalmV (M.note c) := fun a ha => by
 simp only [Mem.note,List.mem_append,List.mem_singleton] at ha
 rcases ha with ha | rfl
 ·exact h a ha
 ·exact hc
inductive PrS where
 | mu (x : MuP)
 | rd (x : RdP)
def PrS.step (s : PrS) (M : Mem) (th : Int) : PrS × Mem :=
 match s with
 | .mu x => (.mu (x.go M th).1,(x.go M th).2)
 | .rd x => (.rd (x.go M th).1,(x.go M th).2)
def PrS.over (s : PrS) : Bool :=
 match s with
 | .mu x => decide (x.at_ = 3)
 | .rd x => decide (x.kind = 3)
def PrS.Ok (s : PrS) (c : Nat) : Prop :=
 match s with
 | .mu x => x.Ok c
 | .rd x => x.Ok c
theorem step_nx (s : PrS) (M : Mem) (th : Int) : Nx1 M (s.step M th).2 := by
 cases s with
 | mu x => exact mu_nx x M th
 | rd x => exact rd_nx x M th
theorem step_ok {s : PrS} {c : Nat} (h : s.Ok c) {M : Mem} (hf : Fin29 M) (hc1 : 1 ≤ c) (th : Int) : Fin29 (s.step M th).2∧(s.step M th).1.Ok (c + 1) := by
 have hl := (step_nx s M th).lim hf.free hf.len
 cases s with
 | mu x =>
  obtain ⟨h1,h2⟩ := MuP.Ok.go (x := x) h hf.bd (by have := hf.free; have := hf.len; omega) hc1 th
  exact ⟨⟨h1,hl.1,hl.2⟩,h2⟩
 | rd x =>
  obtain ⟨h1,h2⟩ := RdP.Ok.go (x := x) h hf.bd th
  exact ⟨⟨h1,hl.1,hl.2⟩,h2⟩
theorem PrS.Ok.up {s : PrS} {c c' : Nat} (h : s.Ok c) (hc : c ≤ c') : s.Ok c' := by
 cases s with
 | mu x =>
  have h : x.Ok c := h
  exact ⟨h.at_,h.l,fun q => by obtain ⟨a,b,e⟩ := h.stk q; exact ⟨a,b,by omega⟩,h.d⟩
 | rd x =>
  have h : x.Ok c := h
  exact ⟨h.kind,h.st,fun q => by obtain ⟨a,b,e⟩ := h.stk q; exact ⟨a,b,by omega⟩⟩
structure CallS where
 rd : Bool
 addr : Nat
 l : List E3
def CallS.fresh (c : CallS) : PrS := if c.rd = true then .rd ⟨c.addr,0,sett0 0,[],0⟩ else .mu ⟨c.l,0,0,[],false,0⟩
theorem CallS.freshOk (c : CallS) (h : ∀ e ∈ c.l,e.a < 18446744073709551616) (n : Nat) : c.fresh.Ok n := by
 unfold CallS.fresh
 split
 ·exact ⟨by show 0 ≤ 3; omega,fun q => absurd q (by show ¬ 0 = 1; omega),fun q => absurd q (by show ¬ 0 = 2; omega)⟩
 ·exact ⟨by show 0 ≤ 3; omega,h,fun q => absurd q (by show ¬ 0 = 1; omega),by show 0 < _; omega⟩
def PrcAt (v : Value) (s : PrS) : HP := fun h =>
 match s with
 | .mu x => ∃ p,v = .iface 41 (ptr p 0)∧MuAt p x h
 | .rd x => ∃ p,v = .iface 42 (ptr p 0)∧RdAt p x h
def IfcOk (v : Value) : Prop := ∃ t p,v = .iface t (ptr p 0)∧(t = 41 ∨ t = 42)
theorem PrcAt.ifc {v : Value} {s : PrS} {h : PH} (a : PrcAt v s h) : IfcOk v := by
 cases s with
 | mu s => obtain ⟨p,rfl,_⟩ := a; exact ⟨_,p,rfl,.inl rfl⟩
 | rd s => obtain ⟨p,rfl,_⟩ := a; exact ⟨_,p,rfl,.inr rfl⟩
theorem MuAt.mono {p : Nat} {x : MuP} {g h : PH} (a : MuAt p x g) (t : Subh g h) : MuAt p x h := by
 rcases a with ⟨e0,e1,e2,e3,lv,d,hd,a⟩ | ⟨e0,lv,q,a⟩ | ⟨e0,lv,po,a⟩
 ·exact .inl ⟨e0,e1,e2,e3,lv,d,hd,a.mono t⟩
 ·exact .inr (.inl ⟨e0,lv,q,a.mono t⟩)
 ·exact .inr (.inr ⟨e0,lv,po,a.mono t⟩)
theorem RdAt.mono {p : Nat} {x : RdP} {g h : PH} (a : RdAt p x g) (t : Subh g h) : RdAt p x h := by
 rcases a with ⟨e0,a⟩ | ⟨e0,q,a⟩ | ⟨e0,q,a⟩ | ⟨e0,a⟩
 ·exact .inl ⟨e0,a.mono t⟩
 ·exact .inr (.inl ⟨e0,q,a.mono t⟩)
 ·exact .inr (.inr (.inl ⟨e0,q,a.mono t⟩))
 ·exact .inr (.inr (.inr ⟨e0,a.mono t⟩))
theorem prc_mono {v : Value} {s : PrS} {g h : PH} (a : PrcAt v s g) (t : Subh g h) : PrcAt v s h := by
 cases s with
 | mu s => obtain ⟨p,rfl,a⟩ := a; exact ⟨p,rfl,a.mono t⟩
 | rd s => obtain ⟨p,rfl,a⟩ := a; exact ⟨p,rfl,a.mono t⟩
theorem IfcOk.cell {v : Value} (h : IfcOk v) : isCell v = true := by
 obtain ⟨t,p,rfl,_⟩ := h; rfl
def VwB (q m : Nat) (th : Int) (n : Nat) : HP := fun h => ∃ n',n' ≤ n∧ViewAt q m th n' h
theorem prcStep_ok (hc : Con con lives) (s : PrS) {c : Nat} {L R1 R2 R3 : List HP} {H : CH} {v : Value} {q m n : Nat} {th : Int} {M : Mem} {K : KP} (hs : Sat L H) (hm : Pull L (MemP m M) R1) (hv : Pull R1 (VwB q m th n) R2) (hp : Pull R2 (PrcAt v s) R3)
  (hn : n < 1000000000) (ht : M.tr.length < 1000000000) (hb : M.Bd) (hok : s.Ok c) (hcc : c < 100000000) (k : ∀ H1,Sat (PrcAt v (s.step M th).1::MemP m (s.step M th).2::VwB q m th (n + 1)::R3) H1→K (.bool (s.step M th).1.over) H1) :
  Mth Try.prog con v "Step" [ptr q 0] H K := by
 have hs0 := hs.takes (.cons hm (.cons hv (.cons hp .nil)))
 simp only [List.cons_append,List.nil_append] at hs0
 clear hs hm hv hp
 have hsv : Sat (VwB q m th n::PrcAt v s::MemP m M::R3) H := hs0.ent ee
 obtain ⟨h1,h2,s1,s2,d,⟨n',hn',hin⟩,hR⟩ := hsv.opens .here
 have hs1 : Sat (ViewAt q m th n'::PrcAt v s::MemP m M::R3) H := Sat.merge (L1 := [_]) s1 s2 d (SatL.one hin) hR
 clear hs0 hsv hin hR s1 s2 d
 have hs2 : Sat (PrcAt v s::ViewAt q m th n'::MemP m M::R3) H := hs1.ent ee
 clear hs1
 obtain ⟨h1,h2,s1,s2,d,hin,hR⟩ := hs2.opens .here
 cases s with
 | mu x =>
  obtain ⟨p,rfl,hin⟩ := hin
  have hs1 : Sat (MuAt p x::ViewAt q m th n'::MemP m M::R3) H := Sat.merge (L1 := [_]) s1 s2 d (SatL.one hin) hR
  refine Mth.of (f := 53) (rc := ptr p 0) (by kernel_rfl) (by kernel_rfl) ?_
  refine multiStep_ok hc hs1 pp pp pp (by omega) ht hb hok hcc fun n2 H1 hn2 h1 => k _ ?_
  have h2 : Sat (ViewAt q m th n2::MuAt p (x.go M th).1::MemP m (x.go M th).2::R3) H1 := h1.ent ee
  have h3 : Sat (VwB q m th (n + 1)::MuAt p (x.go M th).1::MemP m (x.go M th).2::R3) H1 := h2.imp fun g a => ⟨n2,by omega,a⟩
  have h4 : Sat (MuAt p (x.go M th).1::MemP m (x.go M th).2::VwB q m th (n + 1)::R3) H1 := h3.ent ee
  exact h4.imp fun g a => ⟨p,rfl,a⟩
 | rd x =>
  obtain ⟨p,rfl,hin⟩ := hin
  have hs1 : Sat (RdAt p x::ViewAt q m th n'::MemP m M::R3) H := Sat.merge (L1 := [_]) s1 s2 d (SatL.one hin) hR
  refine Mth.of (f := 90) (rc := ptr p 0) (by kernel_rfl) (by kernel_rfl) ?_
  refine readStep_ok hc hs1 pp pp pp (by omega) ht hb hok hcc fun n2 H1 hn2 h1 => k _ ?_
  have h2 : Sat (ViewAt q m th n2::RdAt p (x.go M th).1::MemP m (x.go M th).2::R3) H1 := h1.ent ee
  have h3 : Sat (VwB q m th (n + 1)::RdAt p (x.go M th).1::MemP m (x.go M th).2::R3) H1 := h2.imp fun g a => ⟨n2,by omega,a⟩
  have h4 : Sat (RdAt p (x.go M th).1::MemP m (x.go M th).2::VwB q m th (n + 1)::R3) H1 := h3.ent ee
  exact h4.imp fun g a => ⟨p,rfl,a⟩
end Go.Proofs.Ytoogdnemkfbgdaa

set_option linter.unusedVariables false
set_option linter.unusedSimpArgs false
namespace Go.Proofs.Ytoogdnemkfbgdaa
open Go Go.CM
attribute [local irreducible] AsBool AsWant AsNat AsInt AsCnt AsPtr AsSlc AsLen AsStr AsAgg AsTup AsFn AsIfc Nth Sc NotNil IsNil Must Cd codeW funW Sat SatL wrapN subM mkRow ltZ leZ ltN leN
attribute [local irreducible] isFunT
variable {con : CallT}
theorem call_yes {f : FuncId} {args : List Value} {H : CH} {K : KP} {v : Value} (h : con f ⟨args⟩ H = some (v,H)) (k : K v H) : Call1 Try.prog con f args H K := ⟨⟨0,v,H,h,k⟩⟩
def cut62 (x : Nat) : Nat := Nat.mod x 4611686018427387904
def mem5 (n : Nat) (f : List Nat) : Mem := (mem0 n).alloc (Int.negSucc 0) ((f.map cut62).map wordF)
theorem cut62_lt (x : Nat) : cut62 x < 4611686018427387904 := Nat.mod_lt _ (by omega)
theorem wordF_lt (x : Nat) : wordF x < 18446744073709551616 := Nat.mod_lt _ (by omega)
theorem fin0 {n : Nat} (h1 : 128 ≤ n) (h2 : n ≤ 4194304) : Fin29 (mem0 n) :=
 ⟨fun x hx => by rw [List.eq_of_mem_replicate hx]; omega,by show 1 ≤ (List.replicate n 0).length; simp; omega,by show (List.replicate n 0).length ≤ _; simp; omega⟩
theorem fin5 {n : Nat} (h1 : 128 ≤ n) (h2 : n ≤ 4194304) {f : List Nat} (hf : f.length = 5) : Fin29 (mem5 n f) := by
 have h0 := fin0 h1 h2
 have hn : Nx1 (mem0 n) (mem5 n f) := .alloc _ _ (by simp; omega)
 have hl := hn.lim h0.free h0.len
 exact ⟨Bd.alloc h0.bd _ fun x hx => by obtain ⟨y,_,rfl⟩ := List.mem_map.1 hx; exact wordF_lt y,hl.1,hl.2⟩
theorem tr5 {n : Nat} {f : List Nat} (hf : f.length = 5) : (mem5 n f).tr.length ≤ 10 := by
 have hn : Nx1 (mem0 n) (mem5 n f) := .alloc _ _ (by simp; omega)
 have h1 := hn.tr.2
 have h2 : (mem0 n).tr.length = 0 := rfl
 omega
theorem room5 {n : Nat} (h : 128 ≤ n) {l : List Nat} (hl : l.length = 5) : (mem0 n).room l = 1 := by
 rw [room_t (by omega) (by show l.length ≤ (List.replicate n 0).length - 1; simp; omega)]; rfl
theorem get5 {f : List Nat} {i : Nat} (h : i < f.length) : (f.map u64)[i]? = some (u64 (f.getD i 0)) := map_get f h
theorem take5 {f : List Nat} {i : Nat} (h : i < f.length) : rowsU ((f.take i).map cut62)++[[u64 (cut62 (f.getD i 0))]] = rowsU ((f.take (i + 1)).map cut62) := by
 rw [List.take_add_one,List.getElem?_eq_getElem h,List.getD_eq_getElem?_getD,List.getElem?_eq_getElem h]
 simp only [rowsU,Option.toList_some,List.map_append,List.map_cons,List.map_nil,Option.getD_some]
theorem l29memory_ok (hc : Con con lives) {L : List HP} {H : CH} {n : Nat} {f0 f1 f2 f3 f4 : Nat} {K : KP} (hs : Sat L H) (h1 : 128 ≤ n) (h2 : n ≤ 4194304)
  (k : ∀ m r H1,Sat (MemP m (mem5 n [f0,f1,f2,f3,f4])::RefP r (mem5 n [f0,f1,f2,f3,f4])::L) H1→K (.tuple ⟨[ptr m 0,ptr r 0,.bool true]⟩) H1) :
  Call1 Try.prog con 4 [i64 (Int.ofNat n),.agg ⟨[u64 f0,u64 f1,u64 f2,u64 f3,u64 f4]⟩] H K := by
 refine call_of (hc _ _ _ rfl) ?_
 rw [l29memory_W]
 refine nw hs fun p1 H2 g2 => ?_
 refine arenaNew_ok hc g2 h1 h2 fun m H4 g4 => ?_
 refine AsTup.mk (Nth.mk rfl (AsTup.mk (Nth.mk rfl (AsInt.mk (Cd.f rfl ?_)))))
 refine refNew_ok hc g4 h1 h2 fun r H11 g11 => ?_
 refine AsTup.mk (Nth.mk rfl (AsTup.mk (Nth.mk rfl ?_)))
 have g12 : Sat (Own p1 ([f0,f1,f2,f3,f4].map u64)::MemP m (mem0 n)::RefP r (mem0 n)::L) H11 := g11.ent ee
 have hf : [f0,f1,f2,f3,f4].length = 5 := rfl
 generalize [f0,f1,f2,f3,f4] = f at *
 clear g2 g4 g11
 refine LoopC.indP (n := 100) (id := 0) (fun σ1 H1 => ∃ v,σ1 7 = ptr m 0∧σ1 9 = ptr r 0∧σ1 11 = v∧Sat (Vec v tU 1 (rowsU (f.map cut62))::MemP m (mem0 n)::RefP r (mem0 n)::L) H1) (by kernel_rfl)
  (fun (i : Nat) σ1 H1 => i ≤ 5∧σ1 3 = ptr p1 0∧σ1 7 = ptr m 0∧σ1 9 = ptr r 0∧σ1 12 = iN i∧∃ v,σ1 11 = v∧Sat (Vec v tU 1 (rowsU ((f.take i).map cut62))::Own p1 (f.map u64)::MemP m (mem0 n)::RefP r (mem0 n)::L) H1)
  (fun i => 5 - i) (fun i σ1 H1 hI => ?_) (fun σ1 H1 hP => ?_) 0 _ _ ⟨Nat.zero_le _,rfl,rfl,rfl,rfl,snil,rfl,(g12.nilV (e := tU) (s := 1))⟩
 ·obtain ⟨hi,a3,a7,a9,a12,v,a11,hs1⟩ := hI
  rw [l29memoryL_W]
  simp only [a3,a11,a12]
  repeat (refine gO ?_; intros)
  by_cases hlt : i < 5
  ·refine Cd.t (ltZ_t hlt) ?_
   repeat (refine gO ?_; intros)
   refine Must.mk (ltN_t hlt) ?_
   refine ldRow hs1 (i := i) (by show 0 + i * 1 = _; omega) (get5 (by omega)) ?_
   repeat (refine gO ?_; intros)
   rename_i p7 H8 h8
   refine app_vec (new := [[u64 (cut62 (f.getD i 0))]]) h8 pp el_u64 (by omega) sl_u64 (Src.cell (ys := [u64 (cut62 (f.getD i 0))]) (n := 1) (by rfl)) rfl (by simp) (by simp; omega) rfl fun w' H28 h28 => ?_
   rw [take5 (by omega)] at h28
   repeat (refine gO ?_; intros)
   try rw [addInt]
   refine inR_nat (by first | omega | (simp only; omega)) ?_
   repeat (refine gO ?_; intros)
   show ∃ y,_∧_
   exact ⟨i + 1,by omega,hlt,a3,a7,a9,rfl,w',rfl,h28.ent ee⟩
  ·obtain rfl : i = 5 := by omega
   refine Cd.f (ltZ_f (Nat.le_refl _)) ?_
   show _ = _∧_
   rw [List.take_of_length_le (by omega)] at hs1
   exact ⟨rfl,v,a7,a9,a11,hs1.ent ee⟩
 ·obtain ⟨v,a7,a9,a11,hs1⟩ := hP
  show Cd _ _ _
  refine Cd.t rfl ?_
  rw [a7,a9,a11]
  have hs2 : Sat (Nums v (f.map cut62)::MemP m (mem0 n)::RefP r (mem0 n)::L) H1 := hs1.imp fun g a => Vec.nums a
  refine memView_ok hc hs2 fun q H20 g20 => ?_
  have hlt62 : ¬ ∃ x ∈ f.map cut62,4611686018427387904 ≤ x := by
   rintro ⟨x,hx,hx2⟩
   obtain ⟨y,_,rfl⟩ := List.mem_map.1 hx
   have := cut62_lt y
   omega
  refine mMake_ok (l := f.map cut62) hc g20 pp pp Has.nums (by simp; omega) (by show 0 < _; omega) (fun g => (hlt62 g).elim) fun _ H22 g22 => ?_
  rw [room5 h1 (by simp; exact hf)]
  refine AsTup.mk (Nth.mk rfl (AsTup.mk (Nth.mk rfl ?_)))
  refine rMake29_ok (l := f.map cut62) hc g22 pp (Has.skip Has.nums) (by simp; omega) (by show 0 < _; omega) (fun g => (hlt62 g).elim) fun _ H28 g28 => ?_
  rw [room5 h1 (by simp; exact hf)]
  repeat (refine gO ?_; intros)
  refine k m r _ ?_
  exact g28.ent ee
end Go.Proofs.Ytoogdnemkfbgdaa

set_option linter.unusedVariables false
set_option linter.unusedSimpArgs false
namespace Go.Proofs.Ytoogdnemkfbgdaa
open Go Go.CM
theorem sat_of {A : HP} {H : CH} (a : A (dom H)) : Sat [A] H := SatL.one a
attribute [local irreducible] AsBool AsWant AsNat AsInt AsCnt AsPtr AsSlc AsLen AsStr AsAgg AsTup AsFn AsIfc Nth Sc NotNil IsNil Must Cd codeW funW Sat SatL wrapN subM mkRow ltZ leZ ltN leN
attribute [local irreducible] isFunT
variable {con : CallT}
theorem muAt_own {p : Nat} {x : MuP} {L : List HP} {H : CH} (hs : Sat L H) (hq : Has L (MuAt p x)) : ∃ a0 a1 a2 a3,Sat [Own p [a0,a1,a2,a3,.bool x.done,iN x.err]] H := by
 have h1 : Sat [MuAt p x] H := sat_of (hs.has hq)
 obtain ⟨g1,g2,s1,s2,d,a,z⟩ := h1.opens Pull.here
 rcases a with ⟨e0,e1,e2,e3,lv,d',hd,a⟩ | ⟨e0,lv,q,a⟩ | ⟨e0,lv,po,a⟩
 ·have h2 := Sat.merge s1 s2 d a z
  rw [e2,e3]
  have h3 : Sat (Own p (muC lv 0 0 (.pointer none) false 0)::EntA lv d'::[]) H := h2
  exact ⟨_,_,_,_,sat_of (h3.has (Has.here fun a t => a.mono t))⟩
 ·have h2 := Sat.merge s1 s2 d a z
  have h3 : Sat (Own p (muC lv 1 x.d (ptr q 0) x.done x.err)::HlpAt q x.stk::[]) H := h2
  exact ⟨_,_,_,_,sat_of (h3.has (Has.here fun a t => a.mono t))⟩
 ·have h2 := Sat.merge (L1 := [_]) s1 s2 d (SatL.one a) z
  have h3 : Sat (Own p (muC lv x.at_ x.d (.pointer po) x.done x.err)::[]) H := h2
  exact ⟨_,_,_,_,h3⟩
theorem rdAt_own {p : Nat} {x : RdP} {L : List HP} {H : CH} (hs : Sat L H) (hq : Has L (RdAt p x)) : ∃ a0 a1 a2 a3,Sat [Own p [a0,a1,a2,a3,u64 x.val]] H := by
 have h1 : Sat [RdAt p x] H := sat_of (hs.has hq)
 obtain ⟨g1,g2,s1,s2,d,a,z⟩ := h1.opens Pull.here
 rcases a with ⟨e0,a⟩ | ⟨e0,q,a⟩ | ⟨e0,q,a⟩ | ⟨e0,a⟩
 ·have h2 := Sat.merge (L1 := [_]) s1 s2 d (SatL.one a) z
  have h3 : Sat (Own p (rdC x.addr pNil pNil false x.val)::[]) H := h2
  exact ⟨_,_,_,_,h3⟩
 ·have h2 := Sat.merge s1 s2 d a z
  have h3 : Sat (Own p (rdC x.addr (ptr q 0) pNil false x.val)::Own q (seC x.st)::[]) H := h2
  exact ⟨_,_,_,_,sat_of (h3.has (Has.here fun a t => a.mono t))⟩
 ·have h2 := Sat.merge s1 s2 d a z
  have h3 : Sat (Own p (rdC x.addr pNil (ptr q 0) false x.val)::HlpAt q x.stk::[]) H := h2
  exact ⟨_,_,_,_,sat_of (h3.has (Has.here fun a t => a.mono t))⟩
 ·have h2 := Sat.merge (L1 := [_]) s1 s2 d (SatL.one a) z
  have h3 : Sat (Own p (rdC x.addr pNil pNil true x.val)::[]) H := h2
  exact ⟨_,_,_,_,h3⟩
theorem muDone_ok (hc : Con con lives) {p : Nat} {x : MuP} {L : List HP} {H : CH} {K : KP} (hs : Sat L H) (hq : Has L (MuAt p x)) (k : K (.bool x.done) H) : Call1 Try.prog con 12 [ptr p 0] H K := by
 refine call_of (hc _ _ _ rfl) ?_
 rw [muDone_W]
 obtain ⟨a0,a1,a2,a3,h⟩ := muAt_own hs hq
 exact ld h rfl k
theorem muErrno_ok (hc : Con con lives) {p : Nat} {x : MuP} {L : List HP} {H : CH} {K : KP} (hs : Sat L H) (hq : Has L (MuAt p x)) (k : K (iN x.err) H) : Call1 Try.prog con 11 [ptr p 0] H K := by
 refine call_of (hc _ _ _ rfl) ?_
 rw [muErrno_W]
 obtain ⟨a0,a1,a2,a3,h⟩ := muAt_own hs hq
 exact ld h rfl k
theorem rdValue_ok (hc : Con con lives) {p : Nat} {x : RdP} {L : List HP} {H : CH} {K : KP} (hs : Sat L H) (hq : Has L (RdAt p x)) (k : K (u64 x.val) H) : Call1 Try.prog con 10 [ptr p 0] H K := by
 refine call_of (hc _ _ _ rfl) ?_
 rw [rdValue_W]
 obtain ⟨a0,a1,a2,a3,h⟩ := rdAt_own hs hq
 exact ld h rfl k
end Go.Proofs.Ytoogdnemkfbgdaa

set_option linter.unusedVariables false
set_option linter.unusedSimpArgs false
namespace Go.Proofs.Ytoogdnemkfbgdaa
open Go Go.CM
attribute [local irreducible] AsBool AsWant AsNat AsInt AsCnt AsPtr AsSlc AsLen AsStr AsAgg AsTup AsFn AsIfc Nth Sc NotNil IsNil Must Cd codeW funW Sat SatL wrapN subM mkRow ltZ leZ ltN leN
attribute [local irreducible] isFunT
variable {con : CallT}
abbrev tEntD : Nat := 75
theorem el_entD : elemOk Try.prog 38 tEntD 3 24 = true := by kernel_rfl
theorem sl_entD : ∃ e,Try.prog.underlying 38 = some (.slice e) := ⟨_,(elemOk.out el_entD).1⟩
def EntS (v : Value) (d : Array E3) : HP := fun h => (d.size = 0∧∃ po c,v = .slice po 0 c) ∨ (0 < d.size∧∃ b c e s w cs,v = slc b 0 d.size c∧Row b e s w cs h∧∀ j,j < (rowE d).length→cs[j]? = (rowE d)[j]?)
theorem EntS.mono {v : Value} {d : Array E3} {g h : PH} (a : EntS v d g) (t : Subh g h) : EntS v d h := by
 rcases a with a | ⟨h0,b,c,e,s,w,cs,h1,h2,h3⟩
 ·exact .inl a
 ·exact .inr ⟨h0,b,c,e,s,w,cs,h1,h2.mono t,h3⟩
theorem EntS.len {v : Value} {d : Array E3} {h : PH} (a : EntS v d h) : ∃ p c,v = .slice p d.size c := by
 rcases a with ⟨h0,po,c,rfl⟩ | ⟨h0,b,c,e,s,w,cs,rfl,_⟩
 ·rw [h0]; exact ⟨po,c,rfl⟩
 ·exact ⟨_,_,rfl⟩
theorem EntS.row {v : Value} {d : Array E3} {L : List HP} {H : CH} (hs : Sat L H) (hq : Has L (EntS v d)) {i : Nat} (hi : i < d.size) : ∃ b c,v = slc b 0 d.size c∧Src L b 0 (rowE d) := by
 rcases hs.has hq with ⟨h0,_⟩ | ⟨h0,b,c,e,s,w,cs,rfl,_⟩
 ·omega
 ·refine ⟨b,c,rfl,fun g a => ?_⟩
  rcases hq g a with ⟨h0',_⟩ | ⟨_,b',c',e',s',w',cs',hv,⟨k,k1,k2,k3,k4,k5,kf,k6,k7⟩,h3⟩
  ·omega
  ·cases hv
   exact ⟨k,k1,k5,fun j hj => by rw [Nat.zero_add,k7]; exact h3 j hj⟩
theorem ldEj {L : List HP} {H : CH} {b i j : Nat} {d : Array E3} {v : Value} {K : Value→Prop} (hs : Sat L H) (hb : Src L b 0 (rowE d)) (hi : i < d.size) (hj : j < 3) (hv : (encE d[i]!)[j]? = some v) (k : K v) : Ld H b (Nat.add (Nat.add 0 (Nat.mul i 3)) j) K :=
 ldSrc hs hb (show Nat.add (Nat.add 0 (Nat.mul i 3)) j = 0 + (i * 3 + j) by show 0 + i * 3 + j = _; omega) ((rowE_at hi j hj).trans hv) k
end Go.Proofs.Ytoogdnemkfbgdaa

set_option linter.unusedVariables false
set_option linter.unusedSimpArgs false
namespace Go.Proofs.Ytoogdnemkfbgdaa
open Go Go.CM
attribute [local irreducible] AsBool AsWant AsNat AsInt AsCnt AsPtr AsSlc AsLen AsStr AsAgg AsTup AsFn AsIfc Nth Sc NotNil IsNil Must Cd codeW funW Sat SatL wrapN subM mkRow ltZ leZ ltN leN
attribute [local irreducible] isFunT
variable {con : CallT}
abbrev tCl : Nat := 40
abbrev tCls : Nat := 37
theorem el_cl : elemOk Try.prog tCls tCl 3 40 = true := by kernel_rfl
theorem sl_cl : ∃ e,Try.prog.underlying tCls = some (.slice e) := ⟨_,(elemOk.out el_cl).1⟩
theorem el_cls : elemOk Try.prog 24 tCls 1 24 = true := by kernel_rfl
theorem sl_cls : ∃ e,Try.prog.underlying 24 = some (.slice e) := ⟨_,(elemOk.out el_cls).1⟩
def callRow (c : CallS × Value) : List Value := [.bool c.1.rd,u64 c.1.addr,c.2]
def CallsW (v : Value) (cd : List (CallS × Value)) : HP := fun h => SatL [Vec v tCl 3 (cd.map callRow),SatL (cd.map fun c => EntS c.2 c.1.l.toArray)] h
def ThrW (v : Value) (td : List (Value × List (CallS × Value))) : HP := fun h => SatL [Vec v tCls 1 (td.map fun t => [t.1]),SatL (td.map fun t => CallsW t.1 t.2)] h
theorem CallsW.mono {v : Value} {cd : List (CallS × Value)} {g h : PH} (a : CallsW v cd g) (t : Subh g h) : CallsW v cd h := SatL.mono t a
theorem ThrW.mono {v : Value} {td : List (Value × List (CallS × Value))} {g h : PH} (a : ThrW v td g) (t : Subh g h) : ThrW v td h := SatL.mono t a
theorem Has.thrW {v : Value} {td : List (Value × List (CallS × Value))} {L : List HP} : Has (ThrW v td::L) (ThrW v td) := Has.here fun a t => ThrW.mono a t
theorem satL_fst {A : HP} {L : List HP} {h : PH} (a : SatL (A::L) h) (m : ∀ {g h : PH},A g→Subh g h→A h) : A h := SatL.first a fun g a s => m a s
theorem satL_at {l : List HP} {A B : HP} {i : Nat} {h : PH} (a : SatL [A,SatL l] h) (hi : l[i]? = some B) (m : ∀ {g h : PH},B g→Subh g h→B h) : B h :=
 (Has.all (l := l) (L := [A,SatL l]) (Has.skip Has.sat) hi m) h a
theorem thr_vec {v : Value} {td : List (Value × List (CallS × Value))} {L : List HP} (h : Has L (ThrW v td)) : Has L (Vec v tCls 1 (td.map fun t => [t.1])) := fun g a => satL_fst (h g a) fun a t => a.mono t
theorem thr_at {v : Value} {td : List (Value × List (CallS × Value))} {L : List HP} {i : Nat} {t : Value × List (CallS × Value)} (h : Has L (ThrW v td)) (hi : td[i]? = some t) : Has L (CallsW t.1 t.2) := fun g a => satL_at (h g a) (i := i) (by rw [List.getElem?_map,hi]; rfl) fun a t => CallsW.mono a t
theorem calls_vec {v : Value} {cd : List (CallS × Value)} {L : List HP} (h : Has L (CallsW v cd)) : Has L (Vec v tCl 3 (cd.map callRow)) := fun g a => satL_fst (h g a) fun a t => a.mono t
theorem calls_at {v : Value} {cd : List (CallS × Value)} {L : List HP} {i : Nat} {c : CallS × Value} (h : Has L (CallsW v cd)) (hi : cd[i]? = some c) : Has L (EntS c.2 c.1.l.toArray) := fun g a => satL_at (h g a) (i := i) (by rw [List.getElem?_map,hi]; rfl) fun a t => EntS.mono a t
theorem EntS.cell {v : Value} {d : Array E3} {h : PH} (a : EntS v d h) : isCell v = true := by
 obtain ⟨p,c,rfl⟩ := a.len; rfl
theorem Vec.entS {v : Value} {e : Nat} {l : List E3} {h : PH} (a : Vec v e 3 (l.map encE) h) : EntS v l.toArray h := by
 obtain ⟨a1,⟨rfl,a2⟩ | ⟨b,h1,rfl,h3⟩⟩ := a
 ·rw [List.map_eq_nil_iff.1 a2]
  exact .inl ⟨rfl,none,0,rfl⟩
 ·refine .inr ⟨?_,b,(l.map encE).length,e,3,true,(l.map encE).flatten,by rw [List.length_map,List.size_toArray],h3,fun j _ => rfl⟩
  rw [List.size_toArray]
  cases l with
  | nil => exact absurd rfl h1
  | cons x r => simp
def ad5 (a : Nat) : Nat := Nat.mod (Nat.add (Nat.mod a 5) 1) 18446744073709551616
def plcE (e : E3) : E3 := ⟨ad5 e.a,e.o,e.n⟩
def plc (c : CallS) : CallS := ⟨c.rd,ad5 c.addr,c.l.map plcE⟩
def EntPE (e : E3) (cs : List Value) : HP := fun _ => cs = encE e
def EntsR : Value→List E3→HP := RowsR 3 EntPE
def CallPE (c : CallS) (cs : List Value) : HP := fun h => ∃ xl,cs = [.bool c.rd,u64 c.addr,xl]∧EntsR xl c.l h
def CallsR : Value→List CallS→HP := RowsR 3 CallPE
def ThrPE (l : List CallS) (cs : List Value) : HP := fun h => ∃ xv,cs = [xv]∧CallsR xv l h
def ThrR : Value→List (List CallS)→HP := RowsR 1 ThrPE
theorem EntsR.mono {v : Value} {l : List E3} {g h : PH} (a : EntsR v l g) (t : Subh g h) : EntsR v l h := RowsR.mono (fun a _ => a) a t
theorem CallsR.mono {v : Value} {l : List CallS} {g h : PH} (a : CallsR v l g) (t : Subh g h) : CallsR v l h := RowsR.mono (fun ⟨x,e,a⟩ t => ⟨x,e,EntsR.mono a t⟩) a t
theorem ThrR.mono {v : Value} {l : List (List CallS)} {g h : PH} (a : ThrR v l g) (t : Subh g h) : ThrR v l h := RowsR.mono (fun ⟨x,e,a⟩ t => ⟨x,e,CallsR.mono a t⟩) a t
theorem placedC_ok (hc : Con con lives) {R : List HP} {H : CH} {pc ad : Nat} {rd : Bool} {xl : Value} {l : List E3} {σ : TF} {Q : KX} (hll : l.length < 1000000000) (hs : Sat (EntsR xl l::Own pc [.bool rd,u64 ad,xl]::R) H)
  (e7 : σ 7 = ptr pc 0) (e8 : σ 8 = snil) (e9 : σ 9 = iN 0)
  (k : ∀ σ1 H1 x,σ1 0 = σ 0→σ1 3 = σ 3→σ1 4 = σ 4→σ1 5 = σ 5→σ1 6 = σ 6→σ1 7 = ptr pc 0→σ1 8 = x→Sat (Vec x tEntD 3 ((l.map plcE).map encE)::EntsR xl l::Own pc [.bool rd,u64 ad,xl]::R) H1→Q (.exit 4) σ1 H1) :
  LoopC Try.prog con (lpAt Try.prog 7 2) σ H Q := by
 refine LoopC.indP (n := 200) (id := 4) (fun σ1 H1 => ∃ x,σ1 0 = σ 0∧σ1 3 = σ 3∧σ1 4 = σ 4∧σ1 5 = σ 5∧σ1 6 = σ 6∧σ1 7 = ptr pc 0∧σ1 8 = x∧Sat (Vec x tEntD 3 ((l.map plcE).map encE)::EntsR xl l::Own pc [.bool rd,u64 ad,xl]::R) H1) (by kernel_rfl)
  (fun (i : Nat) σ1 H1 => i ≤ l.length∧σ1 0 = σ 0∧σ1 3 = σ 3∧σ1 4 = σ 4∧σ1 5 = σ 5∧σ1 6 = σ 6∧σ1 7 = ptr pc 0∧σ1 9 = iN i∧∃ x,σ1 8 = x∧Sat (Vec x tEntD 3 (((l.take i).map plcE).map encE)::EntsR xl l::Own pc [.bool rd,u64 ad,xl]::R) H1)
  (fun i => l.length - i) (fun i σ1 H1 hI => ?_) (fun σ1 H1 hP => ?_) 0 _ _ ⟨Nat.zero_le _,rfl,rfl,rfl,rfl,rfl,e7,e9,snil,e8,hs.nilV⟩
 ·obtain ⟨hi,a0,a3,a4,a5,a6,a7,a9,x,a8,hs1⟩ := hI
  rw [l29placedC_W]
  simp only [a7,a8,a9]
  have hE : Has (Vec x tEntD 3 (((l.take i).map plcE).map encE)::EntsR xl l::Own pc [.bool rd,u64 ad,xl]::R) (EntsR xl l) := Has.skip (Has.here fun a t => EntsR.mono a t)
  obtain ⟨px,cx,ex⟩ := RowsR.len (hs1.has hE)
  repeat (refine gO ?_; intros)
  refine AsLen.eq ex ?_
  repeat (refine gO ?_; intros)
  by_cases hlt : i < l.length
  ·refine Cd.t (ltZ_t hlt) ?_
   obtain ⟨e,ee'⟩ : ∃ e,l[i]? = some e := ⟨_,List.getElem?_eq_getElem hlt⟩
   obtain ⟨b,c,cs,hb,_,hcs,hld⟩ := rows_at hs1 hE ee'
   have hcs : cs = encE e := hcs
   subst hcs
   repeat (refine gO ?_; intros)
   refine AsSlc.eq hb ?_
   repeat (refine gO ?_; intros)
   refine Must.mk (ltN_t hlt) ?_
   refine hld _ 0 _ _ (by show 0 + i * 3 + 0 = _; omega) rfl ?_
   refine hld _ 1 _ _ (by show 0 + i * 3 + 1 = _; omega) rfl ?_
   refine hld _ 2 _ _ (by show 0 + i * 3 + 2 = _; omega) rfl ?_
   repeat (refine gO ?_; intros)
   refine stN (by assumption) (Nat.le_of_ble_eq_true rfl) rfl fun H19 h19 => ?_
   repeat (refine gO ?_; intros)
   rename_i p26 H27 h27
   have hlen : (((l.take i).map plcE).map encE).length = i := by simp; omega
   refine app_vec (new := [encE (plcE e)]) h27 pp el_entD (by omega) sl_entD (Src.cell (ys := encE (plcE e)) (n := 3) rfl) rfl (by simp [encE]) (by rw [hlen]; omega) rfl fun v H29 h29 => ?_
   repeat (refine gO ?_; intros)
   try rw [addInt]
   refine inR_nat (by first | omega | (simp only; omega)) ?_
   repeat (refine gO ?_; intros)
   show ∃ y,_∧_
   refine ⟨i + 1,by omega,hlt,a0,a3,a4,a5,a6,a7,rfl,v,rfl,?_⟩
   have e1 : ((l.take (i + 1)).map plcE).map encE = ((l.take i).map plcE).map encE++[encE (plcE e)] := by rw [List.take_add_one,ee']; simp
   rw [e1]
   exact h29.ent ee
  ·obtain rfl : i = l.length := by omega
   refine Cd.f (ltZ_f (Nat.le_refl _)) ?_
   show _ = _∧_
   rw [List.take_length] at hs1
   exact ⟨rfl,x,a0,a3,a4,a5,a6,a7,a8,hs1⟩
 ·obtain ⟨x,a0,a3,a4,a5,a6,a7,a8,hs1⟩ := hP
  exact k σ1 H1 x a0 a3 a4 a5 a6 a7 a8 hs1
theorem EntsR.ro {v : Value} {l : List E3} : RoP (EntsR v l) := fun h a => by
 rcases a with a | ⟨b,c,te,cells,h1,h2,h3,h4,h5⟩
 ·exact ⟨fun _ => none,(fun _ _ e => nomatch e),(fun _ _ e => nomatch e),.inl a⟩
 ·obtain ⟨k,k1,k2,k3,k4,k5,kf,k6,k7⟩ := h2
  refine ⟨fun x => if x = b then some k else none,fun x q hq => ?_,fun x q hq => ?_,.inr ⟨b,c,te,cells,h1,⟨k,by simp,k2,k3,k4,k5,kf,k6,k7⟩,h3,h4,h5⟩⟩
  ·simp only at hq
   split at hq
   ·rename_i hx; subst hx; cases hq; exact k1
   ·cases hq
  ·simp only at hq
   split at hq
   ·cases hq; exact k4
   ·cases hq
theorem placedB_ok (hc : Con con lives) {R : List HP} {H : CH} {i : Nat} {xv : Value} {threads : List (List CallS)} {cs : List CallS} {σ : TF} {Q : KX} (hlt : i < threads.length) (ec : threads[i]? = some cs) (hcl : cs.length < 1000000000) (hll : ∀ c ∈ cs,c.l.length < 1000000000) (hR : Has R (ThrR xv threads)) (hs : Sat R H)
  (e0 : σ 0 = xv) (e4 : σ 4 = iN i) (e5 : σ 5 = snil) (e6 : σ 6 = iN 0)
  (k : ∀ σ1 H1 v cd,σ1 0 = xv→σ1 3 = σ 3→σ1 4 = iN i→σ1 5 = v→cd.map Prod.fst = cs.map plc→Sat (CallsW v cd::R) H1→Q (.exit 2) σ1 H1) :
  LoopC Try.prog con (lpAt Try.prog 7 1) σ H Q := by
 refine LoopC.indP (n := 200) (id := 2) (fun σ1 H1 => ∃ v cd,σ1 0 = xv∧σ1 3 = σ 3∧σ1 4 = iN i∧σ1 5 = v∧cd.map Prod.fst = cs.map plc∧Sat (CallsW v cd::R) H1) (by kernel_rfl)
  (fun (j : Nat) σ1 H1 => j ≤ cs.length∧σ1 0 = xv∧σ1 3 = σ 3∧σ1 4 = iN i∧σ1 6 = iN j∧∃ v cd,σ1 5 = v∧cd.map Prod.fst = (cs.take j).map plc∧Sat (Vec v tCl 3 (cd.map callRow)::SatL (cd.map fun c => EntS c.2 c.1.l.toArray)::R) H1)
  (fun j => cs.length - j) (fun j σ1 H1 hI => ?_) (fun σ1 H1 hP => ?_) 0 _ _ ⟨Nat.zero_le _,e0,rfl,e4,e6,snil,[],e5,rfl,(Sat.none hs).nilV⟩
 ·obtain ⟨hj,a0,a3,a4,a6,v,cd,a5,hcd,hs1⟩ := hI
  rw [l29placedB_W]
  simp only [a0,a4,a6]
  have hT : Has (Vec v tCl 3 (cd.map callRow)::SatL (cd.map fun c => EntS c.2 c.1.l.toArray)::R) (ThrR xv threads) := Has.skip (Has.skip hR)
  obtain ⟨b,c,cs1,rfl,_,⟨xl,rfl,hcl'⟩,hld⟩ := rows_at hs1 hT ec
  obtain ⟨pl,cl',exl⟩ := RowsR.len hcl'
  repeat (refine gO ?_; intros)
  refine Must.mk (ltN_t hlt) (hld _ 0 _ _ (by show 0 + i * 1 = _; omega) rfl ?_)
  refine AsLen.eq exl ?_
  repeat (refine gO ?_; intros)
  by_cases hjl : j < cs.length
  ·refine Cd.t (ltZ_t hjl) ?_
   obtain ⟨cl,ecl⟩ : ∃ x,cs[j]? = some x := ⟨_,List.getElem?_eq_getElem hjl⟩
   repeat (refine gO ?_; intros)
   refine Must.mk (ltN_t hlt) (hld _ 0 _ _ (by show 0 + i * 1 = _; omega) rfl ?_)
   obtain ⟨bi,ci',cc,rfl,_,⟨xb,rfl,hent⟩,hldc⟩ := rows_at' hcl' ecl
   repeat (refine gO ?_; intros)
   refine Must.mk (ltN_t hjl) ?_
   refine hldc _ 0 _ _ (by show 0 + j * 3 + 0 = _; omega) rfl ?_
   refine hldc _ 1 _ _ (by show 0 + j * 3 + 1 = _; omega) rfl ?_
   refine hldc _ 2 _ _ (by show 0 + j * 3 + 2 = _; omega) rfl ?_
   have hd := Sat.dup' hs1 hent EntsR.ro
   obtain ⟨pb,cb,exb⟩ := RowsR.len hent
   have hcb : isCell xb = true := by rw [exb]; rfl
   refine nw hd fun p23 H24 h24 => ?_
   refine stN h24 (Nat.le_of_ble_eq_true rfl) (by rw [List.all_cons,List.all_cons,List.all_cons,hcb]; rfl) fun H25 h25 => ?_
   repeat (refine gO ?_; intros)
   rename_i H28 h28
   have h29 : Sat (EntsR xb cl.l::Own p23 [.bool cl.rd,u64 (ad5 cl.addr),xb]::Vec v tCl 3 (cd.map callRow)::SatL (cd.map fun c => EntS c.2 c.1.l.toArray)::R) H28 := h28.ent ee
   refine placedC_ok hc (hll cl (List.mem_of_getElem? ecl)) h29 rfl rfl rfl fun σ2 H2 x c0 c3 c4 c5 c6 c7 c8 h2 => ?_
   show Cd _ _ _
   refine Cd.t rfl ?_
   have c0' : σ2 0 = slc b 0 threads.length c := c0.trans a0
   have c3' : σ2 3 = σ 3 := c3.trans a3
   have c4' : σ2 4 = iN i := c4.trans a4
   have c5' : σ2 5 = v := c5.trans a5
   have c6' : σ2 6 = iN j := c6.trans a6
   have hx : isCell x = true := by obtain ⟨q,rfl⟩ := (h2.has Has.vec).shape; rfl
   simp only [c5',c6',c7,c8]
   refine AsPtr.mk (Sc.mk hx (st h2 (by show 2 < 3; omega) hx fun H34 h34 => ?_))
   repeat (refine gO ?_; intros)
   rename_i p40 H41 h41
   refine app_vec (new := [callRow (plc cl,x)]) h41 pp el_cl (by omega) sl_cl (Src.cell (ys := callRow (plc cl,x)) (n := 3) rfl) rfl (by simp [callRow]) (by rw [List.length_map]; have := congrArg List.length hcd; simp at this; omega) (by rw [List.flatten_cons,List.flatten_nil,List.append_nil]; show [Value.bool _,u64 _,x].all isCell = true; rw [List.all_cons,List.all_cons,List.all_cons,hx]; rfl) fun v' H43 h43 => ?_
   repeat (refine gO ?_; intros)
   try rw [addInt]
   refine inR_nat (by first | omega | (simp only; omega)) ?_
   repeat (refine gO ?_; intros)
   show ∃ y,_∧_
   refine ⟨j + 1,by omega,hjl,c0',c3',c4',rfl,v',cd++[(plc cl,x)],rfl,?_,?_⟩
   ·rw [List.take_add_one,ecl]; simp [hcd]
   ·have e1 : cd.map callRow++[callRow (plc cl,x)] = (cd++[(plc cl,x)]).map callRow := by simp
    rw [e1] at h43
    have h44 : Sat (Vec x tEntD 3 ((cl.l.map plcE).map encE)::SatL (cd.map fun c => EntS c.2 c.1.l.toArray)::Vec v' tCl 3 ((cd++[(plc cl,x)]).map callRow)::R) H43 := h43.ent ee
    have h45 : Sat (EntS x (plc cl).l.toArray::SatL (cd.map fun c => EntS c.2 c.1.l.toArray)::Vec v' tCl 3 ((cd++[(plc cl,x)]).map callRow)::R) H43 := h44.imp fun g a => Vec.entS a
    have h46 := h45.snoc
    have e2 : (cd.map fun c => EntS c.2 c.1.l.toArray)++[EntS x (plc cl).l.toArray] = (cd++[(plc cl,x)]).map fun c => EntS c.2 c.1.l.toArray := by simp
    rw [e2] at h46
    exact h46.ent ee
  ·obtain rfl : j = cs.length := by omega
   refine Cd.f (ltZ_f (Nat.le_refl _)) ?_
   show _ = _∧_
   rw [List.take_length] at hcd
   exact ⟨rfl,v,cd,a0,a3,a4,a5,hcd,Sat.close (L1 := [_,_]) hs1 fun g a => a⟩
 ·obtain ⟨v,cd,a0,a3,a4,a5,hcd,hs1⟩ := hP
  exact k σ1 H1 v cd a0 a3 a4 a5 hcd hs1
theorem placed_ok (hc : Con con lives) {L : List HP} {H : CH} {xv : Value} {threads : List (List CallS)} {K : KP} (htl : threads.length < 1000000000) (hcl : ∀ cs ∈ threads,cs.length < 1000000000∧∀ c ∈ cs,c.l.length < 1000000000) (hq : Has L (ThrR xv threads)) (hs : Sat L H)
  (k : ∀ v td H1,(td.map fun t => t.2.map Prod.fst) = threads.map (fun cs => cs.map plc)→isCell v = true→Sat (ThrW v td::L) H1→K v H1) : Call1 Try.prog con 7 [xv] H K := by
 refine call_of (hc _ _ _ rfl) ?_
 rw [l29placed_W]
 obtain ⟨px,cx,ex⟩ := RowsR.len (hs.has hq)
 refine LoopC.indP (n := 200) (id := 0) (fun σ1 H1 => ∃ (v : Value) (td : List (Value × List (CallS × Value))),σ1 3 = v∧(td.map fun t => t.2.map Prod.fst) = threads.map (fun cs => cs.map plc)∧Sat (ThrW v td::L) H1) (by kernel_rfl)
  (fun (i : Nat) σ1 H1 => i ≤ threads.length∧σ1 0 = xv∧σ1 4 = iN i∧∃ (v : Value) (td : List (Value × List (CallS × Value))),σ1 3 = v∧(td.map fun t => t.2.map Prod.fst) = (threads.take i).map (fun cs => cs.map plc)∧Sat (Vec v tCls 1 (td.map fun t => [t.1])::SatL (td.map fun t => CallsW t.1 t.2)::L) H1)
  (fun i => threads.length - i) (fun i σ1 H1 hI => ?_) (fun σ1 H1 hP => ?_) 0 _ _ ⟨Nat.zero_le _,rfl,rfl,snil,[],rfl,rfl,(Sat.none hs).nilV⟩
 ·obtain ⟨hi,a0,a4,v,td,a3,htd,hs1⟩ := hI
  rw [l29placedA_W]
  simp only [a0,a4]
  refine AsLen.eq ex ?_
  repeat (refine gO ?_; intros)
  by_cases hlt : i < threads.length
  ·refine Cd.t (ltZ_t hlt) ?_
   obtain ⟨cs,ec⟩ : ∃ x,threads[i]? = some x := ⟨_,List.getElem?_eq_getElem hlt⟩
   obtain ⟨g1,g2⟩ := hcl cs (List.mem_of_getElem? ec)
   refine placedB_ok hc hlt ec g1 g2 (Has.skip (Has.skip hq)) hs1 a0 a4 rfl rfl fun σ2 H2 v2 cd c0 c3 c4 c5 hcd h2 => ?_
   show Cd _ _ _
   refine Cd.t rfl ?_
   have c3' : σ2 3 = v := c3.trans a3
   have hv2 : isCell v2 = true := by
    obtain ⟨q,rfl⟩ := (h2.has (calls_vec (Has.here fun a t => CallsW.mono a t))).shape; rfl
   simp only [c3',c4,c5]
   refine Sc.mk hv2 (nw h2 fun p6 H7 h7 => ?_)
   have hlen : (td.map fun t => [t.1]).length = i := by
    have := congrArg List.length htd
    simp at this ⊢
    omega
   refine app_vec (new := [[v2]]) h7 pp el_cls (by omega) sl_cls (Src.cell (ys := [v2]) (n := 1) rfl) rfl (by simp) (by rw [hlen]; omega) (by simp [hv2]) fun v' H9 h9 => ?_
   repeat (refine gO ?_; intros)
   try rw [addInt]
   refine inR_nat (by first | omega | (simp only; omega)) ?_
   repeat (refine gO ?_; intros)
   show ∃ y,_∧_
   refine ⟨i + 1,by omega,hlt,c0,rfl,v',td++[(v2,cd)],rfl,?_,?_⟩
   ·rw [List.take_add_one,ec]; simp [htd,hcd]
   ·have e1 : (td.map fun t => [t.1])++[[v2]] = (td++[(v2,cd)]).map fun t => [t.1] := by simp
    rw [e1] at h9
    have h10 : Sat (CallsW v2 cd::SatL (td.map fun t => CallsW t.1 t.2)::Vec v' tCls 1 ((td++[(v2,cd)]).map fun t => [t.1])::L) H9 := h9.ent ee
    have h11 := h10.snoc
    have e2 : (td.map fun t => CallsW t.1 t.2)++[CallsW v2 cd] = (td++[(v2,cd)]).map fun t => CallsW t.1 t.2 := by simp
    rw [e2] at h11
    exact h11.ent ee
  ·obtain rfl : i = threads.length := by omega
   refine Cd.f (ltZ_f (Nat.le_refl _)) ?_
   show _ = _∧_
   rw [List.take_length] at htd
   exact ⟨rfl,v,td,a3,htd,Sat.close (L1 := [_,_]) hs1 fun g a => a⟩
 ·obtain ⟨v,td,a3,htd,hs1⟩ := hP
  show Cd _ _ _
  refine Cd.t rfl ?_
  rw [a3]
  refine k v td H1 htd ?_ hs1
  obtain ⟨q,rfl⟩ := (hs1.has (thr_vec Has.thrW)).shape; rfl
end Go.Proofs.Ytoogdnemkfbgdaa

set_option linter.unusedVariables false
set_option linter.unusedSimpArgs false
namespace Go.Proofs.Ytoogdnemkfbgdaa
open Go Go.CM
attribute [local irreducible] AsBool AsWant AsNat AsInt AsCnt AsPtr AsSlc AsLen AsStr AsAgg AsTup AsFn AsIfc Nth Sc NotNil IsNil Must Cd codeW funW Sat SatL wrapN subM mkRow ltZ leZ ltN leN
attribute [local irreducible] isFunT
variable {con : CallT}
abbrev tEntM : Nat := 70
theorem el_entM : elemOk Try.prog 71 tEntM 3 24 = true := by kernel_rfl
theorem sl_entM : ∃ e,Try.prog.underlying 71 = some (.slice e) := ⟨_,(elemOk.out el_entM).1⟩
theorem l29entries_ok (hc : Con con lives) {L : List HP} {H : CH} {v : Value} {d : Array E3} {K : KP} (hs : Sat L H) (hq : Has L (EntS v d)) (hd : d.size < 1000000000) (k : ∀ x H1,Sat (Vec x tEntM 3 (d.toList.map encE)::L) H1→K x H1) : Call1 Try.prog con 22 [v] H K := by
 refine call_of (hc _ _ _ rfl) ?_
 rw [l29entries_W]
 obtain ⟨pv,cv,hv⟩ := (hs.has hq).len
 refine LoopC.indP (n := 200) (id := 0) (fun σ1 H1 => ∃ x,σ1 3 = x∧Sat (Vec x tEntM 3 (d.toList.map encE)::L) H1) (by kernel_rfl)
  (fun (i : Nat) σ1 H1 => i ≤ d.size∧σ1 0 = v∧σ1 4 = iN i∧∃ x,σ1 3 = x∧Sat (Vec x tEntM 3 ((d.toList.take i).map encE)::L) H1)
  (fun i => d.size - i) (fun i σ1 H1 hI => ?_) (fun σ1 H1 hP => ?_) 0 _ _ ⟨Nat.zero_le _,rfl,rfl,snil,rfl,hs.nilV⟩
 ·obtain ⟨hi,a0,a4,x,a3,hs1⟩ := hI
  rw [l29entriesL_W]
  simp only [a0,a4,a3]
  refine AsLen.eq hv ?_
  repeat (refine gO ?_; intros)
  by_cases hlt : i < d.size
  ·refine Cd.t (ltZ_t hlt) ?_
   obtain ⟨b,c,hv2,hsrc⟩ := EntS.row hs1 (Has.skip hq) hlt
   subst hv2
   repeat (refine gO ?_; intros)
   refine Must.mk (ltN_t hlt) (ldEj hs1 hsrc hlt (by omega) rfl ?_)
   repeat (refine gO ?_; intros)
   refine Must.mk (ltN_t hlt) (ldEj hs1 hsrc hlt (by omega) rfl ?_)
   repeat (refine gO ?_; intros)
   refine Must.mk (ltN_t hlt) (ldEj hs1 hsrc hlt (by omega) rfl ?_)
   repeat (refine gO ?_; intros)
   rename_i p21 H22 h22
   refine app_vec (new := [encE d[i]!]) h22 pp el_entM (by omega) sl_entM (Src.cell (ys := encE d[i]!) (n := 3) rfl) rfl (by simp [encE]) (by rw [List.length_map,List.length_take,Array.length_toList]; omega) rfl fun v' H24 h24 => ?_
   repeat (refine gO ?_; intros)
   try rw [addInt]
   refine inR_nat (by first | omega | (simp only; omega)) ?_
   repeat (refine gO ?_; intros)
   show ∃ y,_∧_
   refine ⟨i + 1,by omega,hlt,a0,rfl,v',rfl,?_⟩
   have e1 : (d.toList.take (i + 1)).map encE = (d.toList.take i).map encE++[encE d[i]!] := by
    rw [List.take_add_one,List.getElem?_eq_getElem (by rw [Array.length_toList]; exact hlt),getA]; simp
   rw [e1]
   exact h24.ent ee
  ·obtain rfl : i = d.size := by omega
   refine Cd.f (ltZ_f (Nat.le_refl _)) ?_
   show _ = _∧_
   rw [List.take_of_length_le (by rw [Array.length_toList]; exact Nat.le_refl _)] at hs1
   exact ⟨rfl,x,a3,hs1⟩
 ·obtain ⟨x,a3,hs1⟩ := hP
  show Cd _ _ _
  refine Cd.t rfl ?_
  rw [a3]
  exact k x H1 hs1
theorem newMulti_ok (hc : Con con lives) {L : List HP} {H : CH} {v : Value} {l : List E3} {K : KP} (hs : Sat L H) (hq : Has L (Vec v tEntM 3 (l.map encE))) (hl : l.length < 1000000000) (k : ∀ p H1,Sat (MuAt p ⟨l,0,0,[],false,0⟩::L) H1→K (ptr p 0) H1) : Call1 Try.prog con 19 [v] H K := by
 refine call_of (hc _ _ _ rfl) ?_
 rw [newMulti_W]
 refine call_of (hc _ _ _ rfl) ?_
 rw [cloneEnt_W]
 have fin : ∀ v' H2,isCell v' = true→Sat (EntA v' l.toArray::L) H2→Sc v' (Nw H2 (mkRow 84 0 [v',(.int .i64 (Int.ofNat 0)),(.int .u64 (Int.ofNat 0)),(.pointer none),(.bool false),(.int .i64 (Int.ofNat 0))]) fun p3 H4 => K (ptr p3 0) H4) := fun v' H2 hv' h2 => by
  refine Sc.mk hv' (nw h2 fun p H3 h3 => k p H3 ?_)
  exact Sat.close (L1 := [Own p (muC v' 0 0 (.pointer none) false 0),EntA v' l.toArray]) (h3.ent ee) fun g a => .inl ⟨rfl,rfl,rfl,rfl,v',l.toArray,rfl,a⟩
 rcases (hs.has hq) with ⟨h8,⟨rfl,hnil⟩ | ⟨b,h1,rfl,h3⟩⟩
 ·refine IsNil.slc0 (Cd.t rfl ?_)
  refine fin snil H rfl (hs.triv fun g => .inl ⟨?_,none,rfl⟩)
  rw [List.size_toArray,List.map_eq_nil_iff.1 hnil]; rfl
 ·refine IsNil.slc (Cd.f rfl ?_)
  refine nwR hs fun p H1 hp1 => ?_
  have hlm : (l.map encE).length = l.length := List.length_map ..
  have hpos : 0 < l.length := by cases l with | nil => contradiction | cons _ _ => simp
  refine app_clone (new := l.map encE) hp1 el_entM (by omega) sl_entM (hq.vecSrc rfl) rfl h8 (by omega) (by omega) fun v' H2 h2 => ?_
  obtain ⟨q,hv'⟩ := (h2.has Has.vec).shape
  refine fin v' H2 (by rw [hv']; rfl) (h2.imp fun g a => ?_)
  rcases a.2 with ⟨_,a2⟩ | ⟨b',q1,q2,q3⟩
  ·exact absurd a2 h1
  ·refine .inr ⟨by rw [List.size_toArray]; exact hpos,b',tEntM,3,by rw [q2,hlm,List.size_toArray],?_⟩
   exact q3
theorem newRead_ok (hc : Con con lives) {L : List HP} {H : CH} {x : Nat} {K : KP} (hs : Sat L H) (k : ∀ p H1,Sat (RdAt p ⟨x,0,sett0 0,[],0⟩::L) H1→K (ptr p 0) H1) : Call1 Try.prog con 21 [u64 x] H K := by
 refine call_of (hc _ _ _ rfl) ?_
 rw [newRead_W]
 exact nw hs fun p H1 h1 => k p H1 (h1.imp fun g a => .inl ⟨rfl,a⟩)
abbrev nilP : Value := .pointer none
def pairV (v : Value) : List Value := match v with | .iface t x => if t = 41 then [x,nilP] else [nilP,x] | _ => []
theorem l29begin_ok (hc : Con con lives) (c : CallS) {L : List HP} {H : CH} {xl : Value} {K : KP} (hs : Sat L H) (hq : Has L (EntS xl c.l.toArray)) (hl : c.l.length < 1000000000)
  (k : ∀ v x y H1,pairV v = [x,y]→isCell x = true→isCell y = true→Sat (PrcAt v c.fresh::L) H1→K (.tuple ⟨[.agg ⟨[x,y]⟩,v]⟩) H1) : Call1 Try.prog con 8 [.agg ⟨[.bool c.rd,u64 c.addr,xl]⟩] H K := by
 refine call_of (hc _ _ _ rfl) ?_
 rw [l29begin_W]
 refine nw hs fun p1 H1 h1 => ?_
 refine nw h1 fun p3 H3 h3 => ?_
 repeat (refine gO ?_; intros)
 unfold CallS.fresh at k
 cases hr : c.rd with
 | true =>
  rw [hr] at k
  refine Cd.t rfl ?_
  repeat (refine gO ?_; intros)
  refine newRead_ok hc h3 fun p H9 h9 => ?_
  repeat (refine gO ?_; intros)
  refine stN h9 (Nat.le_of_ble_eq_true rfl) rfl fun H10 h10 => ?_
  repeat (refine gO ?_; intros)
  refine k (.iface 42 (ptr p 0)) nilP (ptr p 0) H10 rfl rfl rfl ?_
  have h11 : Sat (RdAt p ⟨c.addr,0,sett0 0,[],0⟩::L) H10 := h10.ent ee
  exact h11.imp fun g a => ⟨p,rfl,a⟩
 | false =>
  rw [hr] at k
  refine Cd.f rfl ?_
  refine ld h3 rfl ?_
  refine l29entries_ok hc h3 (Has.skip (Has.skip hq)) (by rw [List.size_toArray]; exact hl) fun x H15 h15 => ?_
  refine newMulti_ok (l := c.l) hc h15 Has.vec hl fun p H17 h17 => ?_
  repeat (refine gO ?_; intros)
  refine stN h17 (Nat.le_of_ble_eq_true rfl) rfl fun H18 h18 => ?_
  repeat (refine gO ?_; intros)
  refine k (.iface 41 (ptr p 0)) (ptr p 0) nilP H18 rfl rfl rfl ?_
  have h19 : Sat (MuAt p ⟨c.l,0,0,[],false,0⟩::L) H18 := h18.ent ee
  exact h19.imp fun g a => ⟨p,rfl,a⟩
end Go.Proofs.Ytoogdnemkfbgdaa

set_option linter.unusedVariables false
set_option linter.unusedSimpArgs false
namespace Go.Proofs.Ytoogdnemkfbgdaa
open Go Go.CM
theorem ltZ_yep {a b : Int} (h : a < b) : ltZ a b = true := decide_eq_true h
attribute [local irreducible] AsBool AsWant AsNat AsInt AsCnt AsPtr AsSlc AsLen AsStr AsAgg AsTup AsFn AsIfc Nth Sc NotNil IsNil Must Cd codeW funW Sat SatL wrapN subM mkRow ltZ leZ ltN leN
attribute [local irreducible] isFunT
variable {con : CallT}
def runP (s : PrS) (M : Mem) : Nat→PrS × Mem
 | 0 => (s,M)
 | i + 1 => (runP s M i).1.step (runP s M i).2 0
theorem runP_cons (s : PrS) (M : Mem) : ∀ i,runP s M (i + 1) = runP (s.step M 0).1 (s.step M 0).2 i
 | 0 => rfl
 | i + 1 => by
  show (runP s M (i + 1)).1.step (runP s M (i + 1)).2 0 = _
  rw [runP_cons s M i]; rfl
theorem runP_of {k : Nat} {a b : MuP × Mem} (h : MSt 0 k a b) : runP (.mu a.1) a.2 k = (.mu b.1,b.2)∧∀ i,i < k→(runP (.mu a.1) a.2 (i + 1)).1.over = false := by
 induction h with
 | refl s => exact ⟨rfl,fun i hi => absurd hi (Nat.not_lt_zero _)⟩
 | step h1 h2 _ ih =>
  rename_i k x x' M M' t ht
  have e : (PrS.mu x).step M 0 = (.mu x',M') := by
   show (PrS.mu (x.go M 0).1,(x.go M 0).2) = _
   rw [h1]
  refine ⟨by rw [runP_cons,e]; exact ih.1,fun i hi => ?_⟩
  cases i with
  | zero =>
   show ((PrS.mu x).step M 0).1.over = false
   rw [e]
   exact decide_eq_false h2
  | succ i =>
   rw [runP_cons,e]
   exact ih.2 i (by omega)
theorem runP_ok {s : PrS} {M : Mem} (h : s.Ok 1) (hf : Fin29 M) : ∀ i,(runP s M i).1.Ok (1 + i)∧Fin29 (runP s M i).2
 | 0 => ⟨h,hf⟩
 | i + 1 => by
  obtain ⟨h1,h2⟩ := runP_ok h hf i
  obtain ⟨g1,g2⟩ := step_ok h1 h2 (by omega) 0
  exact ⟨g2,g1⟩
theorem runP_tr (s : PrS) (M : Mem) : ∀ i,(runP s M i).2.tr.length ≤ M.tr.length + i
 | 0 => Nat.le_refl _
 | i + 1 => by
  have h1 := runP_tr s M i
  have h2 := ((step_nx (runP s M i).1 (runP s M i).2 0).tr).2
  show ((runP s M i).1.step (runP s M i).2 0).2.tr.length ≤ _
  omega
theorem alone29_ok (hc : Con con lives) {R : List HP} {H : CH} {q m n k : Nat} {v : Value} {s : PrS} {M : Mem} {K : KP} (hok : s.Ok 1) (hf : Fin29 M) (hk : k < 1000) (hrun : ∀ i,i < k→(runP s M (i + 1)).1.over = false) (hov : (runP s M (k + 1)).1.over = true)
  (hs : Sat (PrcAt v s::MemP m M::VwB q m 0 n::R) H) (hn : n < 900000000) (ht : M.tr.length < 900000000)
  (kk : ∀ H1,Sat (PrcAt v (runP s M (k + 1)).1::MemP m (runP s M (k + 1)).2::VwB q m 0 (n + (k + 1))::R) H1→K (.bool true) H1) :
  Call1 Try.prog con 9 [ptr q 0,v,i64 1000] H K := by
 refine call_of (hc _ _ _ rfl) ?_
 rw [stepAlone_W]
 have hv : IfcOk v := (hs.has (Has.here fun a t => prc_mono a t)).ifc
 refine LoopC.ind (n := 100) (by kernel_rfl)
  (fun (i : Nat) σ1 H1 => i ≤ k∧σ1 0 = ptr q 0∧σ1 1 = v∧σ1 7 = i64 1000∧σ1 8 = iN i∧Sat (PrcAt v (runP s M i).1::MemP m (runP s M i).2::VwB q m 0 (n + i)::R) H1)
  (fun i => k + 1 - i) (fun i σ1 H1 hI => ?_) 0 _ _ ⟨Nat.zero_le _,rfl,rfl,rfl,rfl,hs⟩
 obtain ⟨hi,a0,a1,a7,a8,hs1⟩ := hI
 rw [stepAloneL_W]
 simp only [a0,a1,a7,a8]
 repeat (refine gO ?_; intros)
 refine Cd.t (ltZ_yep (show (i : Int) < 1000 by omega)) ?_
 obtain ⟨o1,o2⟩ := runP_ok hok hf i
 have htr := runP_tr s M i
 obtain ⟨tt,pq,rfl,_⟩ := hv
 repeat (refine gO ?_; intros)
 refine prcStep_ok hc (runP s M i).1 (c := 1 + i) (R3 := R) hs1 pp pp pp (by omega) (by omega) o2.bd o1 (by omega) fun H2 h2 => ?_
 repeat (refine gO ?_; intros)
 have h3 : Sat (PrcAt (.iface tt (ptr pq 0)) (runP s M (i + 1)).1::MemP m (runP s M (i + 1)).2::VwB q m 0 (n + (i + 1))::R) H2 := h2
 by_cases hl : i < k
 ·have e : ((runP s M i).1.step (runP s M i).2 0).1.over = false := hrun i hl
  rw [e]
  refine Cd.f rfl ?_
  repeat (refine gO ?_; intros)
  try rw [addInt]
  refine inR_nat (by first | omega | (simp only; omega)) ?_
  repeat (refine gO ?_; intros)
  show ∃ y,_∧_
  exact ⟨i + 1,by omega,by omega,a0,a1,a7,rfl,h3⟩
 ·obtain rfl : i = k := by omega
  have e : ((runP s M i).1.step (runP s M i).2 0).1.over = true := hov
  rw [e]
  refine Cd.t rfl ?_
  exact kk _ h3
end Go.Proofs.Ytoogdnemkfbgdaa

set_option linter.unusedVariables false
set_option linter.unusedSimpArgs false
namespace Go.Proofs.Ytoogdnemkfbgdaa
open Go Go.CM
attribute [local irreducible] AsBool AsWant AsNat AsInt AsCnt AsPtr AsSlc AsLen AsStr AsAgg AsTup AsFn AsIfc Nth Sc NotNil IsNil Must Cd codeW funW Sat SatL wrapN subM mkRow ltZ leZ ltN leN
attribute [local irreducible] isFunT
variable {con : CallT}
def setG (g : List Nat) (l : List E3) : List Nat := l.foldl (fun g e => g.set (e.a - 1) e.n) g
def allG (g : List Nat) (l : List E3) : Bool := l.all fun e => decide (g.getD (e.a - 1) 0 = e.o)
theorem setG_len (l : List E3) : ∀ g : List Nat,(setG g l).length = g.length := by
 induction l with
 | nil => intro g; rfl
 | cons e r ih => intro g; show (setG (g.set (e.a - 1) e.n) r).length = _; rw [ih,List.length_set]
theorem setG_snoc (g : List Nat) (l : List E3) (e : E3) : setG g (l++[e]) = (setG g l).set (e.a - 1) e.n := by
 unfold setG; rw [List.foldl_append]; rfl
theorem subA {a : Nat} (h1 : 1 ≤ a) (h5 : a ≤ 5) : Go.CM.subM 18446744073709551616 a 1 = a - 1 := Go.CM.subM_small (by omega) (by omega)
theorem take_all {g : List Nat} {l : List E3} {i : Nat} {e : E3} (he : l[i]? = some e) : allG g (l.take (i + 1)) = (allG g (l.take i) && decide (g.getD (e.a - 1) 0 = e.o)) := by
 unfold allG; rw [List.take_add_one,he,List.all_append]; simp
theorem ent_row {v : Value} {l : List E3} {L : List HP} {H : CH} {i : Nat} {e : E3} (hs : Sat L H) (hq : Has L (EntS v l.toArray)) (he : l[i]? = some e) :
  ∃ b c,v = slc b 0 l.length c∧∀ (off j : Nat) (y : Value) (K : Value→Prop),off = i * 3 + j→(encE e)[j]? = some y→j < 3→K y→Ld H b off K := by
 have hi : i < l.length := (List.getElem?_eq_some_iff.1 he).1
 obtain ⟨b,c,hv,hsrc⟩ := EntS.row hs hq (i := i) (by rw [List.size_toArray]; exact hi)
 refine ⟨b,c,by rw [hv,List.size_toArray],fun off j y K ho hy hj k => ?_⟩
 have hd : l.toArray[i]! = e := by
  obtain ⟨h1,h2⟩ := List.getElem?_eq_some_iff.1 he
  simp [h1,h2]
 exact ldSrc hs hsrc (i := i * 3 + j) (by omega) (by rw [rowE_at (by rw [List.size_toArray]; exact hi) j hj,hd]; exact hy) k
theorem fitsA_ok (hc : Con con lives) {R : List HP} {H : CH} {p1 p3 : Nat} {g : List Nat} {xr dn : Bool} {xa dv : Nat} {z1 z2 : Int} {xl : Value} {l : List E3} {σ : TF} {Q : KX} (hg : g.length = 5) (hla : ∀ e ∈ l,1 ≤ e.a∧e.a ≤ 5) (hll : l.length < 1000000000)
  (hs : Sat (Own p1 (g.map u64)::Own p3 [.bool xr,u64 xa,xl,.bool dn,u64 dv,i64 z1,i64 z2]::R) H) (hq : Has R (EntS xl l.toArray))
  (e2 : σ 2 = ptr p1 0) (e3 : σ 3 = ptr p3 0) (e6 : σ 6 = .bool true) (e7 : σ 7 = iN 0)
  (k : ∀ σ1 H1,σ1 2 = ptr p1 0→σ1 3 = ptr p3 0→σ1 4 = σ 4→σ1 6 = .bool (allG g l)→Sat (Own p1 (g.map u64)::Own p3 [.bool xr,u64 xa,xl,.bool dn,u64 dv,i64 z1,i64 z2]::R) H1→Q (.exit 0) σ1 H1) :
  LoopC Try.prog con (lpAt Try.prog 13 0) σ H Q := by
 have hq2 : Has (Own p1 (g.map u64)::Own p3 [.bool xr,u64 xa,xl,.bool dn,u64 dv,i64 z1,i64 z2]::R) (EntS xl l.toArray) := Has.skip (Has.skip hq)
 obtain ⟨px,cx,exl⟩ := (hs.has hq2).len
 rw [List.size_toArray] at exl
 refine LoopC.indP (n := 100) (id := 0) (fun σ1 H1 => σ1 2 = ptr p1 0∧σ1 3 = ptr p3 0∧σ1 4 = σ 4∧σ1 6 = .bool (allG g l)∧Sat (Own p1 (g.map u64)::Own p3 [.bool xr,u64 xa,xl,.bool dn,u64 dv,i64 z1,i64 z2]::R) H1) (by kernel_rfl)
  (fun (i : Nat) σ1 H1 => i ≤ l.length∧σ1 2 = ptr p1 0∧σ1 3 = ptr p3 0∧σ1 4 = σ 4∧σ1 6 = .bool (allG g (l.take i))∧σ1 7 = iN i∧Sat (Own p1 (g.map u64)::Own p3 [.bool xr,u64 xa,xl,.bool dn,u64 dv,i64 z1,i64 z2]::R) H1)
  (fun i => l.length - i) (fun i σ1 H1 hI => ?_) (fun σ1 H1 hP => ?_) 0 _ _ ⟨Nat.zero_le _,e2,e3,rfl,e6,e7,hs⟩
 ·obtain ⟨hi,a2,a3,a4,a6,a7,hs1⟩ := hI
  rw [l29fitsA_W]
  simp only [a2,a3,a6,a7]
  repeat (refine gO ?_; intros)
  refine AsLen.eq exl ?_
  repeat (refine gO ?_; intros)
  by_cases hlt : i < l.length
  ·refine Cd.t (ltZ_t hlt) ?_
   obtain ⟨e,he⟩ : ∃ e,l[i]? = some e := ⟨_,List.getElem?_eq_getElem hlt⟩
   obtain ⟨h1,h5⟩ := hla e (List.mem_of_getElem? he)
   obtain ⟨b,c,hv,hld⟩ := ent_row hs1 hq2 he
   have hta := take_all (g := g) he
   repeat (refine gO ?_; intros)
   cases hb : allG g (l.take i) with
   | true =>
    rw [hb] at hta
    refine Cd.t rfl ?_
    repeat (refine gO ?_; intros)
    refine AsSlc.eq hv ?_
    repeat (refine gO ?_; intros)
    refine Must.mk (ltN_t hlt) ?_
    refine hld _ 0 _ _ (by show 0 + i * 3 + 0 = _; omega) rfl (by omega) ?_
    repeat (refine gO ?_; intros)
    rw [subA h1 h5]
    refine Must.mk (ltN_t (by omega)) ?_
    refine ldRow hs1 (off1 _) (map_get g (by omega)) ?_
    repeat (refine gO ?_; intros)
    refine AsSlc.eq hv ?_
    repeat (refine gO ?_; intros)
    refine Must.mk (ltN_t hlt) ?_
    refine hld _ 1 _ _ (by show 0 + i * 3 + 1 = _; omega) rfl (by omega) ?_
    repeat (refine gO ?_; intros)
    try rw [addInt]
    refine inR_nat (by first | omega | (simp only; omega)) ?_
    repeat (refine gO ?_; intros)
    show ∃ y,_∧_
    refine ⟨i + 1,by omega,hlt,a2,a3,a4,?_,rfl,hs1⟩
    rw [hta]
    show Value.bool (eqN _ _) = _
    rw [Bool.true_and]
    by_cases q : g.getD (e.a - 1) 0 = e.o
    ·rw [decide_eq_true q,eqN_t q]
    ·rw [decide_eq_false q,eqN_f q]
   | false =>
    rw [hb] at hta
    refine Cd.f rfl ?_
    repeat (refine gO ?_; intros)
    try rw [addInt]
    refine inR_nat (by first | omega | (simp only; omega)) ?_
    repeat (refine gO ?_; intros)
    show ∃ y,_∧_
    exact ⟨i + 1,by omega,hlt,a2,a3,a4,by rw [hta]; rfl,rfl,hs1⟩
  ·obtain rfl : i = l.length := by omega
   refine Cd.f (ltZ_f (Nat.le_refl _)) ?_
   show _ = _∧_
   rw [List.take_length] at a6
   exact ⟨rfl,a2,a3,a4,a6,hs1⟩
 ·obtain ⟨a2,a3,a4,a6,hs1⟩ := hP
  exact k σ1 H1 a2 a3 a4 a6 hs1
theorem fitsB_ok (hc : Con con lives) {R : List HP} {H : CH} {p1 p3 : Nat} {g : List Nat} {xr dn al : Bool} {xa dv : Nat} {z1 z2 : Int} {xl : Value} {l : List E3} {σ : TF} {Q : KX} (hg : g.length = 5) (hla : ∀ e ∈ l,1 ≤ e.a∧e.a ≤ 5) (hll : l.length < 1000000000)
  (hs : Sat (Own p1 (g.map u64)::Own p3 [.bool xr,u64 xa,xl,.bool dn,u64 dv,i64 z1,i64 z2]::R) H) (hq : Has R (EntS xl l.toArray))
  (e2 : σ 2 = ptr p1 0) (e3 : σ 3 = ptr p3 0) (e6 : σ 6 = .bool al) (e8 : σ 8 = iN 0)
  (k : ∀ σ1 H1,σ1 2 = ptr p1 0→σ1 3 = ptr p3 0→σ1 4 = σ 4→Sat (Own p1 ((if al = true then setG g l else g).map u64)::Own p3 [.bool xr,u64 xa,xl,.bool dn,u64 dv,i64 z1,i64 z2]::R) H1→Q (.exit 2) σ1 H1) :
  LoopC Try.prog con (lpAt Try.prog 13 1) σ H Q := by
 refine LoopC.indP (n := 100) (id := 2) (fun σ1 H1 => σ1 2 = ptr p1 0∧σ1 3 = ptr p3 0∧σ1 4 = σ 4∧Sat (Own p1 ((if al = true then setG g l else g).map u64)::Own p3 [.bool xr,u64 xa,xl,.bool dn,u64 dv,i64 z1,i64 z2]::R) H1) (by kernel_rfl)
  (fun (i : Nat) σ1 H1 => i ≤ l.length∧σ1 2 = ptr p1 0∧σ1 3 = ptr p3 0∧σ1 4 = σ 4∧σ1 6 = .bool al∧σ1 8 = iN i∧Sat (Own p1 ((if al = true then setG g (l.take i) else g).map u64)::Own p3 [.bool xr,u64 xa,xl,.bool dn,u64 dv,i64 z1,i64 z2]::R) H1)
  (fun i => l.length - i) (fun i σ1 H1 hI => ?_) (fun σ1 H1 hP => ?_) 0 _ _ ⟨Nat.zero_le _,e2,e3,rfl,e6,e8,by cases al <;> exact hs⟩
 ·obtain ⟨hi,a2,a3,a4,a6,a8,hs1⟩ := hI
  rw [l29fitsB_W]
  simp only [a2,a3,a6,a8]
  cases al with
  | false =>
   repeat (refine gO ?_; intros)
   try rw [ceP_x]
   show _ = _∧_
   exact ⟨rfl,a2,a3,a4,hs1⟩
  | true =>
   simp only [if_true] at hs1 ⊢
   have hq2 : Has (Own p1 ((setG g (l.take i)).map u64)::Own p3 [.bool xr,u64 xa,xl,.bool dn,u64 dv,i64 z1,i64 z2]::R) (EntS xl l.toArray) := Has.skip (Has.skip hq)
   obtain ⟨px,cx,exl⟩ := (hs1.has hq2).len
   rw [List.size_toArray] at exl
   repeat (refine gO ?_; intros)
   refine AsLen.eq exl ?_
   repeat (refine gO ?_; intros)
   by_cases hlt : i < l.length
   ·refine Cd.t (ltZ_t hlt) ?_
    obtain ⟨e,he⟩ : ∃ e,l[i]? = some e := ⟨_,List.getElem?_eq_getElem hlt⟩
    obtain ⟨h1,h5⟩ := hla e (List.mem_of_getElem? he)
    obtain ⟨b,c,hv,hld⟩ := ent_row hs1 hq2 he
    repeat (refine gO ?_; intros)
    refine AsSlc.eq hv ?_
    repeat (refine gO ?_; intros)
    refine Must.mk (ltN_t hlt) ?_
    refine hld _ 0 _ _ (by show 0 + i * 3 + 0 = _; omega) rfl (by omega) ?_
    repeat (refine gO ?_; intros)
    refine AsSlc.eq hv ?_
    repeat (refine gO ?_; intros)
    refine Must.mk (ltN_t hlt) ?_
    refine hld _ 2 _ _ (by show 0 + i * 3 + 2 = _; omega) rfl (by omega) ?_
    repeat (refine gO ?_; intros)
    rw [subA h1 h5]
    refine Must.mk (ltN_t (by omega)) ?_
    repeat (refine gO ?_; intros)
    refine st hs1 (by rw [off1,List.length_map,setG_len,hg]; omega) rfl fun H3 h3 => ?_
    rw [off1,← List.map_set] at h3
    repeat (refine gO ?_; intros)
    try rw [addInt]
    refine inR_nat (by first | omega | (simp only; omega)) ?_
    repeat (refine gO ?_; intros)
    show ∃ y,_∧_
    refine ⟨i + 1,by omega,hlt,a2,a3,a4,a6,rfl,?_⟩
    rw [List.take_add_one,he]
    show Sat (Own p1 ((setG g (l.take i++[e])).map u64)::_) _
    rw [setG_snoc]
    exact h3
   ·obtain rfl : i = l.length := by omega
    refine Cd.f (ltZ_f (Nat.le_refl _)) ?_
    show _ = _∧_
    rw [List.take_length] at hs1
    exact ⟨rfl,a2,a3,a4,hs1⟩
 ·obtain ⟨a2,a3,a4,hs1⟩ := hP
  exact k σ1 H1 a2 a3 a4 hs1
def fitG (c : CallS) (dn : Bool) (g : List Nat) : List Nat := if c.rd = true then g else if dn = true then setG g c.l else g
theorem list5 {g : List Nat} (h : g.length = 5) : ∃ a b c d e,g = [a,b,c,d,e] := by
 match g,h with
 | [a,b,c,d,e],_ => exact ⟨a,b,c,d,e,rfl⟩
set_option maxRecDepth 100000 in
theorem l29fits_ok (hc : Con con lives) {L : List HP} {H : CH} {g0 g1 g2 g3 g4 dv : Nat} {c : CallS} {xl : Value} {dn : Bool} {K : KP} (hs : Sat L H) (hq : Has L (EntS xl c.l.toArray)) (hla : ∀ e ∈ c.l,1 ≤ e.a∧e.a ≤ 5) (hll : c.l.length < 1000000000) (ha : 1 ≤ c.addr∧c.addr ≤ 5)
  (hr : c.rd = true→[g0,g1,g2,g3,g4].getD (c.addr - 1) 0 = dv) (hm : c.rd = false→allG [g0,g1,g2,g3,g4] c.l = dn)
  (k : ∀ H1 h0 h1 h2 h3 h4,fitG c dn [g0,g1,g2,g3,g4] = [h0,h1,h2,h3,h4]→Sat L H1→K (.tuple ⟨[.agg ⟨[u64 h0,u64 h1,u64 h2,u64 h3,u64 h4]⟩,.bool true]⟩) H1) :
  Call1 Try.prog con 13 [.agg ⟨[u64 g0,u64 g1,u64 g2,u64 g3,u64 g4]⟩,.agg ⟨[.bool c.rd,u64 c.addr,xl,.bool dn,u64 dv,i64 (Int.ofNat 0),i64 (Int.ofNat 0)]⟩] H K := by
 refine call_of (hc _ _ _ rfl) ?_
 rw [l29fits_W]
 have hxc : isCell xl = true := (hs.has hq).cell
 refine nw hs fun p1 H2 h2 => ?_
 refine nw h2 fun p3 H4 h4 => ?_
 refine nw h4 fun p5 H6 h6 => ?_
 have e5 : Sat (Own p1 ([g0,g1,g2,g3,g4].map u64)::Own p3 [.bool c.rd,u64 c.addr,xl,.bool dn,u64 dv,i64 (Int.ofNat 0),i64 (Int.ofNat 0)]::Own p5 [u64 0,u64 0,u64 0,u64 0,u64 0]::L) H6 := h6.ent ee
 repeat (refine gO ?_; intros)
 cases hrd : c.rd with
 | true =>
  have hr := hr hrd
  refine Cd.t rfl ?_
  repeat (refine gO ?_; intros)
  rw [subA ha.1 ha.2]
  refine Must.mk (ltN_t (by omega)) ?_
  refine ldRow e5 (off1 _) (map_get [g0,g1,g2,g3,g4] (by show c.addr - 1 < 5; omega)) ?_
  rw [hr]
  repeat (refine gO ?_; intros)
  refine stN h6 (Nat.le_of_ble_eq_true rfl) rfl fun H20 h20 => ?_
  have e20 : Sat (Own p1 ([g0,g1,g2,g3,g4].map u64)::Own p3 [.bool true,u64 c.addr,xl,.bool dn,u64 dv,i64 (Int.ofNat 0),i64 (Int.ofNat 0)]::Own p5 [u64 g0,u64 g1,u64 g2,u64 g3,u64 g4]::L) H20 := by rw [← hrd]; exact h20.ent ee
  have hg : ([g0,g1,g2,g3,g4].map u64)[c.addr - 1]? = some (u64 dv) := by rw [← hr]; exact map_get [g0,g1,g2,g3,g4] (by show c.addr - 1 < 5; omega)
  repeat (refine gO ?_; intros)
  refine ldRow e5 (off1 _) hg ?_
  repeat (refine gO ?_; intros)
  refine ldRow e20 (off1 _) hg ?_
  repeat (refine gO ?_; intros)
  rw [eqN_self]
  refine k _ g0 g1 g2 g3 g4 ?_ (e20.ent ee)
  unfold fitG
  rw [if_pos hrd]
 | false =>
  have hm := hm hrd
  refine Cd.f rfl ?_
  refine fitsA_ok hc (g := [g0,g1,g2,g3,g4]) (l := c.l) rfl hla hll e5 (Has.skip hq) rfl rfl rfl rfl fun σ1 H7 a2 a3 a4 a6 h7 => ?_
  rw [hm] at a6
  show Cd _ _ _
  refine Cd.t (eqN_self 0) ?_
  simp only [a3,a6]
  repeat (refine gO ?_; intros)
  refine Cd.f (by cases dn <;> rfl) ?_
  refine fitsB_ok hc (g := [g0,g1,g2,g3,g4]) (l := c.l) (al := dn) rfl hla hll h7 (Has.skip hq) a2 a3 a6 rfl fun σ2 H8 b2 b3 b4 h8 => ?_
  show Cd _ _ _
  refine Cd.t (eqN_self 2) ?_
  have b4' : σ2 4 = ptr p5 0 := b4.trans a4
  simp only [b2,b4']
  obtain ⟨h0,h1,h2',h3,h4',hg⟩ := list5 (g := if dn = true then setG [g0,g1,g2,g3,g4] c.l else [g0,g1,g2,g3,g4]) (by split <;> first | (rw [setG_len]; rfl) | rfl)
  rw [hg] at h8
  have h9 : Sat (Own p1 [u64 h0,u64 h1,u64 h2',u64 h3,u64 h4']::Own p3 [.bool c.rd,u64 c.addr,xl,.bool dn,u64 dv,i64 (Int.ofNat 0),i64 (Int.ofNat 0)]::Own p5 [u64 0,u64 0,u64 0,u64 0,u64 0]::L) H8 := h8
  repeat (refine gO ?_; intros)
  refine stN h9 (Nat.le_of_ble_eq_true rfl) rfl fun H10 h10 => ?_
  repeat (refine gO ?_; intros)
  refine k _ h0 h1 h2' h3 h4' ?_ (h10.ent ee)
  unfold fitG
  rw [hrd]
  exact hg
end Go.Proofs.Ytoogdnemkfbgdaa

set_option linter.unusedVariables false
set_option linter.unusedSimpArgs false
namespace Go.Proofs.Ytoogdnemkfbgdaa
open Go Go.CM
def vOf (g : List Nat) (c : Nat) : Nat := g.getD (c - 1) 0
theorem vOf_set {g : List Nat} {a x c : Nat} (hg : g.length = 5) (h1 : 1 ≤ a) (h5 : a ≤ 5) (c1 : 1 ≤ c) : vOf (g.set (a - 1) x) c = if c = a then x else vOf g c := by
 unfold vOf
 rw [List.getD_eq_getElem?_getD,List.getElem?_set]
 by_cases q : c = a
 ·subst q
  rw [if_pos rfl,if_pos rfl,if_pos (by omega)]; rfl
 ·rw [if_neg (by omega),if_neg q,List.getD_eq_getElem?_getD]
theorem newV_set : ∀ (l : List E3) {g : List Nat} (v : Nat→Nat),g.length = 5→(∀ e ∈ l,1 ≤ e.a∧e.a ≤ 5)→(∀ c,1 ≤ c→v c = vOf g c)→∀ c,1 ≤ c→newV l v c = vOf (setG g l) c
 | [],g,v,hg,_,hv,c,c1 => hv c c1
 | e::r,g,v,hg,hl,hv,c,c1 => by
  show newV r (fun c => if c = e.a then e.n else v c) c = vOf (setG (g.set (e.a - 1) e.n) r) c
  obtain ⟨h1,h5⟩ := hl e (List.mem_cons_self ..)
  refine newV_set r _ (by rw [List.length_set]; exact hg) (fun x hx => hl x (List.mem_cons_of_mem _ hx)) (fun d d1 => ?_) c c1
  rw [vOf_set hg h1 h5 d1]
  show (if d = e.a then e.n else v d) = _
  rw [hv d d1]
def Sm5 (g : List Nat) : Prop := g.length = 5∧∀ x ∈ g,x < 4611686018427387904
theorem Sm5.v {g : List Nat} (h : Sm5 g) (c : Nat) : vOf g c < 4611686018427387904 := by
 unfold vOf
 rw [List.getD_eq_getElem?_getD]
 cases e : g[c - 1]? with
 | none => show 0 < _; omega
 | some x => exact h.2 x (List.mem_of_getElem? e)
def outG (c : CallS) (s : PrS) (g : List Nat) : List Nat := match s with | .rd _ => g | .mu x => if x.err = 0 then fitG c x.done g else g
theorem call_alone {c : CallS} {g : List Nat} {M : Mem} (hg : Sm5 g) (hM : CalmA M (vOf g)) (hf : Fin29 M) (ha : 1 ≤ c.addr∧c.addr ≤ 5) (hl : ∀ e ∈ c.l,1 ≤ e.a∧e.a ≤ 5) :
  ∃ k,k ≤ 300∧(∀ i,i < k→(runP c.fresh M (i + 1)).1.over = false)∧(runP c.fresh M (k + 1)).1.over = true∧Fin29 (runP c.fresh M (k + 1)).2∧CalmA (runP c.fresh M (k + 1)).2 (vOf (outG c (runP c.fresh M (k + 1)).1 g))∧Sm5 (outG c (runP c.fresh M (k + 1)).1 g) ∧
   (match (runP c.fresh M (k + 1)).1 with | .rd x => c.rd = true∧vOf g c.addr = x.val | .mu x => c.rd = false∧(x.err = 0→allG g c.l = x.done)) := by
 have hok := c.freshOk (fun e he => by have := (hl e he).2; omega) 1
 cases hr : c.rd with
 | true =>
  have ef : c.fresh = .rd ⟨c.addr,0,sett0 0,[],0⟩ := by unfold CallS.fresh; rw [if_pos hr]
  rw [ef] at hok ⊢
  obtain ⟨h1,h2⟩ := rd_alone 0 hM ha.1 ha.2
  have e1 : runP (.rd ⟨c.addr,0,sett0 0,[],0⟩) M (0 + 1) = (.rd ⟨c.addr,3,sett0 0,[],vOf g c.addr⟩,M.load 0 c.addr) := by
   show (PrS.rd (RdP.go _ M 0).1,(RdP.go _ M 0).2) = _
   rw [h1]
  refine ⟨0,by omega,fun i hi => absurd hi (Nat.not_lt_zero _),?_,(runP_ok hok hf 1).2,?_,?_,?_⟩
  ·rw [e1]; rfl
  ·rw [e1]; exact h2
  ·rw [e1]; exact hg
  ·rw [e1]; exact ⟨rfl,rfl⟩
 | false =>
  have ef : c.fresh = .mu ⟨c.l,0,0,[],false,0⟩ := by unfold CallS.fresh; rw [if_neg (by rw [hr]; simp)]
  rw [ef] at hok ⊢
  obtain ⟨k,x',M',hk,hS,h3,_,hcase⟩ := mu_alone 0 (l := c.l) hM hl
  obtain ⟨r1,r2⟩ := runP_of hS
  simp only at r1 r2
  have e1 : runP (.mu ⟨c.l,0,0,[],false,0⟩) M (k + 1) = (.mu (x'.go M' 0).1,(x'.go M' 0).2) := by
   show (runP _ M k).1.step (runP _ M k).2 0 = _
   rw [r1]; rfl
  have hfin := (runP_ok hok hf (k + 1)).2
  rw [e1] at hfin
  refine ⟨k,hk,r2,by rw [e1]; exact decide_eq_true h3,by rw [e1]; exact hfin,?_,?_,?_⟩
  ·rw [e1]
   rcases hcase with ⟨c1,c2,c3⟩ | ⟨c1,c3⟩
   ·show CalmA _ (vOf (if (x'.go M' 0).1.err = 0 then fitG c (x'.go M' 0).1.done g else g))
    rw [if_pos c1,c2]
    unfold fitG
    rw [if_neg (by rw [hr]; simp)]
    cases hao : allOld c.l (vOf g) with
    | true =>
     rw [hao] at c3
     simp only [if_true] at c3 ⊢
     exact ⟨c3.lim,fun d d1 d5 => by rw [c3.c d d1 d5,newV_set c.l (vOf g) hg.1 hl (fun _ _ => rfl) d d1],fun d => by
      rcases Nat.eq_zero_or_pos d with q | q
      ·subst q
       show vOf (setG g c.l) 1 < _
       rw [← newV_set c.l (vOf g) hg.1 hl (fun _ _ => rfl) 1 (by omega)]
       exact c3.b 1
      ·rw [← newV_set c.l (vOf g) hg.1 hl (fun _ _ => rfl) d q]
       exact c3.b d⟩
    | false =>
     rw [hao] at c3
     simp only [Bool.false_eq_true,if_false] at c3 ⊢
     exact c3
   ·show CalmA _ (vOf (if (x'.go M' 0).1.err = 0 then fitG c (x'.go M' 0).1.done g else g))
    rw [if_neg c1]
    exact c3
  ·rw [e1]
   show Sm5 (if (x'.go M' 0).1.err = 0 then fitG c (x'.go M' 0).1.done g else g)
   rcases hcase with ⟨c1,c2,c3⟩ | ⟨c1,c3⟩
   ·rw [if_pos c1,c2]
    unfold fitG
    rw [if_neg (by rw [hr]; simp)]
    cases hao : allOld c.l (vOf g) with
    | false => simp only [Bool.false_eq_true,if_false]; exact hg
    | true =>
     rw [hao] at c3
     simp only [if_true] at c3 ⊢
     refine ⟨by rw [setG_len]; exact hg.1,fun x hx => ?_⟩
     obtain ⟨i,hi⟩ := List.mem_iff_getElem?.1 hx
     have := c3.b (i + 1)
     rw [newV_set c.l (vOf g) hg.1 hl (fun _ _ => rfl) (i + 1) (by omega)] at this
     unfold vOf at this
     rw [Nat.add_sub_cancel,List.getD_eq_getElem?_getD,hi] at this
     exact this
   ·rw [if_neg c1]; exact hg
  ·rw [e1]
   refine ⟨rfl,fun h0 => ?_⟩
   rcases hcase with ⟨c1,c2,_⟩ | ⟨c1,_⟩
   ·exact c2.symm
   ·exact absurd h0 c1
end Go.Proofs.Ytoogdnemkfbgdaa

set_option linter.unusedVariables false
set_option linter.unusedSimpArgs false
namespace Go.Proofs.Ytoogdnemkfbgdaa
open Go Go.CM
attribute [local irreducible] AsBool AsWant AsNat AsInt AsCnt AsPtr AsSlc AsLen AsStr AsAgg AsTup AsFn AsIfc Nth Sc NotNil IsNil Must Cd codeW funW Sat SatL wrapN subM mkRow ltZ leZ ltN leN
attribute [local irreducible] isFunT
variable {con : CallT}
theorem mac_lp : lpAt Try.prog 3 2 = blkC (lpAt Try.prog 3 2) := by kernel_rfl
theorem mac_sl : sliceC 2 1 (blkC (lpAt Try.prog 3 2)) = seqL [(flatC (blkC (lpAt Try.prog 3 2))).getD 2 .skip] := by kernel_rfl
theorem mac_bk : (flatC (blkC (lpAt Try.prog 3 2))).getD 2 .skip = .block 5 (blkC ((flatC (blkC (lpAt Try.prog 3 2))).getD 2 .skip)) := by kernel_rfl
theorem fill62 {F : List Nat} {i x : Nat} (h : F[i]? = some x) : (F.take i++List.replicate (F.length - i) 0).set i x = F.take (i + 1)++List.replicate (F.length - (i + 1)) 0 := by
 have hi := (List.getElem?_eq_some_iff.1 h).1
 have hl : (F.take i).length = i := by simp; omega
 rw [show F.length - i = (F.length - (i + 1)) + 1 from by omega,List.replicate_succ,List.set_append_right _ _ (by omega),hl,Nat.sub_self,List.set_cons_zero,List.take_add_one,h]
 simp
theorem maA_ok (hc : Con con lives) {R : List HP} {H : CH} {p1 ph : Nat} {f : List Nat} {xv xw : Value} {σ : TF} {Q : KX} (hf : f.length = 5)
  (hs : Sat (Own ph ((List.replicate 5 0).map u64)::Own p1 (f.map u64++[xv,xw])::R) H) (e3 : σ 3 = ptr p1 0) (e9 : σ 9 = ptr ph 0) (e10 : σ 10 = iN 0)
  (k : ∀ σ1 H1,σ1 3 = ptr p1 0→σ1 5 = σ 5→σ1 8 = σ 8→σ1 9 = ptr ph 0→Sat (Own ph ((f.map cut62).map u64)::Own p1 (f.map u64++[xv,xw])::R) H1→Q (.exit 0) σ1 H1) :
  LoopC Try.prog con (lpAt Try.prog 3 0) σ H Q := by
 have hF : (f.map cut62).length = 5 := by rw [List.length_map]; exact hf
 refine LoopC.indP (n := 100) (id := 0) (fun σ1 H1 => σ1 3 = ptr p1 0∧σ1 5 = σ 5∧σ1 8 = σ 8∧σ1 9 = ptr ph 0∧Sat (Own ph ((f.map cut62).map u64)::Own p1 (f.map u64++[xv,xw])::R) H1) (by kernel_rfl)
  (fun (i : Nat) σ1 H1 => i ≤ 5∧σ1 3 = ptr p1 0∧σ1 5 = σ 5∧σ1 8 = σ 8∧σ1 9 = ptr ph 0∧σ1 10 = iN i∧Sat (Own ph (((f.map cut62).take i++List.replicate ((f.map cut62).length - i) 0).map u64)::Own p1 (f.map u64++[xv,xw])::R) H1)
  (fun i => 5 - i) (fun i σ1 H1 hI => ?_) (fun σ1 H1 hP => ?_) 0 _ _ ⟨Nat.zero_le _,e3,rfl,rfl,e9,e10,by rw [hF]; exact hs⟩
 ·obtain ⟨hi,a3,a5,a8,a9,a10,hs1⟩ := hI
  rw [multiAloneA_W]
  simp only [a3,a9,a10]
  repeat (refine gO ?_; intros)
  by_cases hlt : i < 5
  ·refine Cd.t (ltZ_t hlt) ?_
   repeat (refine gO ?_; intros)
   refine Must.mk (ltN_t hlt) ?_
   have hs2 : Sat (Own p1 (f.map u64++[xv,xw])::Own ph (((f.map cut62).take i++List.replicate ((f.map cut62).length - i) 0).map u64)::R) H1 := hs1.ent ee
   refine ldRow hs2 (i := i) (by show 0 + 0 + i * 1 = _; omega) (by rw [List.getElem?_append_left (by rw [List.length_map]; omega)]; exact map_get f (by omega)) ?_
   repeat (refine gO ?_; intros)
   refine Must.mk (ltN_t hlt) ?_
   refine st hs1 (by rw [off1]; simp; omega) rfl fun H3 h3 => ?_
   have hg : (f.map cut62)[i]? = some (cut62 (f.getD i 0)) := by
    rw [List.getElem?_map,List.getElem?_eq_getElem (by omega),List.getD_eq_getElem?_getD,List.getElem?_eq_getElem (by omega)]; rfl
   have h4 : Sat (Own ph (((f.map cut62).take (i + 1)++List.replicate ((f.map cut62).length - (i + 1)) 0).map u64)::Own p1 (f.map u64++[xv,xw])::R) H3 := by
    rw [← fill62 hg,List.map_set]
    rw [off1] at h3
    exact h3
   repeat (refine gO ?_; intros)
   try rw [addInt]
   refine inR_nat (by first | omega | (simp only; omega)) ?_
   repeat (refine gO ?_; intros)
   show ∃ y,_∧_
   exact ⟨i + 1,by omega,hlt,a3,a5,a8,a9,rfl,h4⟩
  ·obtain rfl : i = 5 := by omega
   refine Cd.f (ltZ_f (Nat.le_refl _)) ?_
   show _ = _∧_
   rw [hF,List.take_of_length_le (by omega)] at hs1
   exact ⟨rfl,a3,a5,a8,a9,by simpa using hs1⟩
 ·obtain ⟨a3,a5,a8,a9,hs1⟩ := hP
  exact k σ1 H1 a3 a5 a8 a9 hs1
def KC (σ τ : TF) : Prop := τ 5 = σ 5∧τ 8 = σ 8∧τ 9 = σ 9∧τ 11 = σ 11∧τ 12 = σ 12∧τ 13 = σ 13
theorem KC.trans {a b c : TF} (h : KC a b) (g : KC b c) : KC a c := by
 obtain ⟨a1,a2,a7,a8,a9,a10⟩ := h
 obtain ⟨b1,b2,b7,b8,b9,b10⟩ := g
 exact ⟨b1.trans a1,b2.trans a2,b7.trans a7,b8.trans a8,b9.trans a9,b10.trans a10⟩
theorem maD_ok (hc : Con con lives) {R : List HP} {H : CH} {ph : Nat} {w : Value} {g : List Nat} {σ : TF} {Q : KX} (hg : g.length = 5)
  (hs : Sat (Own ph (g.map u64)::R) H) (hw : Has R (Vec w tU 1 (rowsU g))) (e9 : σ 9 = ptr ph 0) (e18 : σ 18 = w) (e19 : σ 19 = .bool true) (e20 : σ 20 = iN 0)
  (k : ∀ σ1 H1,KC σ σ1→σ1 19 = .bool true→Sat (Own ph (g.map u64)::R) H1→Q (.exit 7) σ1 H1) :
  LoopC Try.prog con (lpAt Try.prog 3 3) σ H Q := by
 refine LoopC.indP (n := 300) (id := 7) (fun σ1 H1 => KC σ σ1∧σ1 19 = .bool true∧Sat (Own ph (g.map u64)::R) H1) (by kernel_rfl)
  (fun (i : Nat) σ1 H1 => i ≤ 5∧KC σ σ1∧σ1 18 = w∧σ1 19 = .bool true∧σ1 20 = iN i∧Sat (Own ph (g.map u64)::R) H1)
  (fun i => 5 - i) (fun i σ1 H1 hI => ?_) (fun σ1 H1 hP => ?_) 0 _ _ ⟨Nat.zero_le _,⟨rfl,rfl,rfl,rfl,rfl,rfl⟩,e18,e19,e20,hs⟩
 ·obtain ⟨hi,hK,a18,a19,a20,hs1⟩ := hI
  have a9 : σ1 9 = ptr ph 0 := hK.2.2.1.trans e9
  rw [multiAloneD_W]
  simp only [a9,a18,a19,a20]
  repeat (refine gO ?_; intros)
  by_cases hlt : i < 5
  ·refine Cd.t (ltZ_t hlt) ?_
   have hr : (rowsU g)[i]? = some [u64 (g.getD i 0)] := by
    rw [List.getElem?_map,List.getElem?_eq_getElem (by omega),List.getD_eq_getElem?_getD,List.getElem?_eq_getElem (by omega)]; rfl
   obtain ⟨b,hb,_⟩ := (hs1.has (Has.skip hw)).slot hr
   rw [List.length_map,hg] at hb
   refine AsSlc.eq hb ?_
   repeat (refine gO ?_; intros)
   refine Must.mk (ltN_t hlt) ?_
   refine ldVec hs1 (Has.skip hw) (by rw [hb]) hr (j := 0) (by show 0 + i * 1 = _; omega) (by omega) rfl ?_
   repeat (refine gO ?_; intros)
   refine Must.mk (ltN_t hlt) ?_
   refine ldRow hs1 (off1 i) (map_get g (by omega)) ?_
   repeat (refine gO ?_; intros)
   try rw [addInt]
   refine inR_nat (by first | omega | (simp only; omega)) ?_
   repeat (refine gO ?_; intros)
   show ∃ y,_∧_
   refine ⟨i + 1,by omega,hlt,hK,a18,?_,rfl,hs1⟩
   show Value.bool (eqN _ _) = _
   rw [eqN_self]
  ·obtain rfl : i = 5 := by omega
   refine Cd.f (ltZ_f (Nat.le_refl _)) ?_
   show _ = _∧_
   exact ⟨rfl,hK,a19,hs1⟩
 ·obtain ⟨hK,a19,hs1⟩ := hP
  exact k σ1 H1 hK a19 hs1
end Go.Proofs.Ytoogdnemkfbgdaa

set_option linter.unusedVariables false
set_option linter.unusedSimpArgs false
namespace Go.Proofs.Ytoogdnemkfbgdaa
open Go Go.CM
attribute [local irreducible] AsBool AsWant AsNat AsInt AsCnt AsPtr AsSlc AsLen AsStr AsAgg AsTup AsFn AsIfc Nth Sc NotNil IsNil Must Cd codeW funW Sat SatL wrapN subM mkRow ltZ leZ ltN leN
attribute [local irreducible] isFunT
variable {con : CallT}
noncomputable abbrev maBk : Code := blkC ((flatC (blkC (lpAt Try.prog 3 2))).getD 2 .skip)
theorem cell5 {M : Mem} {g : List Nat} (hM : CalmA M (vOf g)) {i : Nat} (hi : i < 5) : cellW M 1 i = 4 * g.getD i 0 := by
 unfold cellW
 have e : Nat.mod (Nat.add 1 i) 18446744073709551616 = 1 + i := Nat.mod_eq_of_lt (by show 1 + i < _; omega)
 rw [e,hM.c (1 + i) (by omega) (by omega)]
 unfold vOf
 rw [Nat.add_sub_cancel_left]
theorem vals5 {M : Mem} {g : List Nat} (hg : Sm5 g) (hM : CalmA M (vOf g)) : GoodV M 1 5∧valsW M 1 5 = g := by
 have hlt : ∀ i,i < 5→g.getD i 0 < 4611686018427387904 := fun i hi => by
  have := hg.v (i + 1)
  unfold vOf at this
  rw [Nat.add_sub_cancel] at this
  exact this
 refine ⟨fun i hi => ⟨?_,?_⟩,?_⟩
 ·rw [cell5 hM hi]; show 4 * _ % 4 ≠ 1; omega
 ·rw [cell5 hM hi]; show 4 * _ % 4 ≠ 2; omega
 ·apply List.ext_getElem?
  intro i
  unfold valsW
  rw [List.getElem?_map]
  by_cases hi : i < 5
  ·rw [List.getElem?_range hi]
   show some (valW M 1 i) = _
   have hgl : i < g.length := by rw [hg.1]; exact hi
   unfold valW
   rw [cell5 hM hi,List.getElem?_eq_getElem (by rw [hg.1]; exact hi)]
   have := hlt i hi
   rw [List.getD_eq_getElem?_getD,List.getElem?_eq_getElem (by rw [hg.1]; exact hi)] at this ⊢
   simp only [Option.getD_some] at this ⊢
   congr 1
   show 4 * g[i] / 4 % 18446744073709551616 = g[i]
   omega
  ·rw [List.getElem?_eq_none (by simp; omega),List.getElem?_eq_none (by rw [hg.1]; omega)]; rfl
set_option maxRecDepth 100000 in
theorem maTail (hc : Con con lives) {R : List HP} {H : CH} {m ph : Nat} {M : Mem} {g : List Nat} {σ : TF} {Q : KX} (hg : Sm5 g) (hM : CalmA M (vOf g))
  (hs : Sat (MemP m M::Own ph (g.map u64)::R) H) (e5 : σ 5 = ptr m 0) (e9 : σ 9 = ptr ph 0)
  (kk : ∀ τ H1,KC σ τ→Sat (MemP m M::Own ph (g.map u64)::R) H1→Q .normal τ H1) : codeW (dropC 8 maBk) Try.prog con σ H Q := by
 obtain ⟨hgood,hvals⟩ := vals5 hg hM
 rw [codeW_cut2 8 2,maC6_W,e5]
 refine mValues_ok (n := 5) hc hs pp rfl (by omega) (by omega) (fun gv => absurd hgood gv) fun _ w H1 h1 => ?_
 rw [hvals] at h1
 repeat (refine gO ?_; intros)
 rw [ceP_n,codeW_cut2 10 1,maC7_W]
 have h2 : Sat (Own ph (g.map u64)::Vec w tU 1 (rowsU g)::MemP m M::R) H1 := h1.ent ee
 refine maD_ok hc hg.1 h2 Has.vec e9 rfl rfl rfl fun σ1 H2 hK a19 h3 => ?_
 show Cd _ _ _
 refine Cd.t (eqN_self 7) ?_
 rw [ceP_n,maC8_W,a19]
 repeat (refine gO ?_; intros)
 obtain ⟨k5,k8,k9,k11,k12,k13⟩ := hK
 exact kk _ _ ⟨k5,k8,k9,k11,k12,k13⟩ (h3.ent ee)
set_option maxRecDepth 100000 in
theorem maFits (hc : Con con lives) {R : List HP} {H : CH} {m ph pd : Nat} {M : Mem} {g g' : List Nat} {c : CallS} {xl : Value} {dn b : Bool} {dv : Nat} {σ : TF} {Q : KX} (hg : g.length = 5) (hg' : Sm5 g') (hM : CalmA M (vOf g'))
  (hla : ∀ e ∈ c.l,1 ≤ e.a∧e.a ≤ 5) (hll : c.l.length < 1000000000) (ha : 1 ≤ c.addr∧c.addr ≤ 5) (hq : Has R (EntS xl c.l.toArray))
  (hb : b = true→(c.rd = true→vOf g c.addr = dv)∧(c.rd = false→allG g c.l = dn)∧g' = fitG c dn g) (hb0 : b = false→g' = g)
  (hs : Sat (Own ph (g.map u64)::Own pd [.bool c.rd,u64 c.addr,xl,.bool dn,u64 dv,i64 (Int.ofNat 0),i64 (Int.ofNat 0)]::MemP m M::R) H) (e5 : σ 5 = ptr m 0) (e9 : σ 9 = ptr ph 0) (e17 : σ 17 = ptr pd 0) (e111 : σ 111 = .bool b)
  (kk : ∀ τ H1,KC σ τ→Sat (MemP m M::Own ph (g'.map u64)::R) H1→Q .normal τ H1) : codeW (dropC 7 maBk) Try.prog con σ H Q := by
 rw [codeW_cut2 7 1,maC5_W,e9,e17,e111]
 refine AsBool.mk ?_
 cases b with
 | false =>
  obtain rfl := hb0 rfl
  refine Cd.f rfl ?_
  rw [ceP_n]
  exact maTail hc hg' hM (hs.ent ee) e5 e9 kk
 | true =>
  obtain ⟨hr,hm,rfl⟩ := hb rfl
  obtain ⟨g0,g1,g2,g3,g4,rfl⟩ := list5 hg
  refine Cd.t rfl ?_
  have hs1 : Sat (Own ph [u64 g0,u64 g1,u64 g2,u64 g3,u64 g4]::Own pd [.bool c.rd,u64 c.addr,xl,.bool dn,u64 dv,i64 (Int.ofNat 0),i64 (Int.ofNat 0)]::MemP m M::R) H := hs
  repeat (refine gO ?_; intros)
  refine l29fits_ok hc hs1 (Has.skip (Has.skip (Has.skip hq))) hla hll ha hr hm fun H1 h0 h1 h2 h3 h4 hf h5 => ?_
  rw [hf] at hg' hM kk
  repeat (refine gO ?_; intros)
  refine stN h5 (Nat.le_of_ble_eq_true rfl) rfl fun H6 h6 => ?_
  repeat (refine gO ?_; intros)
  rw [ceP_n]
  have h7 : Sat (MemP m M::Own ph ([h0,h1,h2,h3,h4].map u64)::R) H6 := h6.ent ee
  refine maTail hc hg' hM h7 e5 e9 fun τ H1 hK h8 => ?_
  obtain ⟨k5,k8,k9,k11,k12,k13⟩ := hK
  exact kk _ _ ⟨k5,k8,k9,k11,k12,k13⟩ h8
end Go.Proofs.Ytoogdnemkfbgdaa

set_option linter.unusedVariables false
set_option linter.unusedSimpArgs false
namespace Go.Proofs.Ytoogdnemkfbgdaa
open Go Go.CM
attribute [local irreducible] AsBool AsWant AsNat AsInt AsCnt AsPtr AsSlc AsLen AsStr AsAgg AsTup AsFn AsIfc Nth Sc NotNil IsNil Must Cd codeW funW Sat SatL wrapN subM mkRow ltZ leZ ltN leN
attribute [local irreducible] isFunT
variable {con : CallT}
theorem hideC {c : Code} {H : CH} {Q : KX} {σ τ : TF} {v14 v15 v16 : Value} (h : KC σ τ) (h14 : τ 14 = v14) (h15 : τ 15 = v15) (h16 : τ 16 = v16) (k : ∀ τ,KC σ τ→τ 14 = v14→τ 15 = v15→τ 16 = v16→codeW c Try.prog con τ H Q) : codeW c Try.prog con τ H Q := k τ h h14 h15 h16
theorem hideC17 {c : Code} {H : CH} {Q : KX} {σ τ : TF} {v14 v15 v17 : Value} (h : KC σ τ) (h14 : τ 14 = v14) (h15 : τ 15 = v15) (h17 : τ 17 = v17) (k : ∀ τ,KC σ τ→τ 14 = v14→τ 15 = v15→τ 17 = v17→codeW c Try.prog con τ H Q) : codeW c Try.prog con τ H Q := k τ h h14 h15 h17
theorem hideC111 {c : Code} {H : CH} {Q : KX} {σ τ : TF} {v17 v : Value} (h : KC σ τ) (h17 : τ 17 = v17) (h1 : τ 111 = v) (k : ∀ τ,KC σ τ→τ 17 = v17→τ 111 = v→codeW c Try.prog con τ H Q) : codeW c Try.prog con τ H Q := k τ h h17 h1
set_option maxRecDepth 100000 in
theorem maDid (hc : Con con lives) {R : List HP} {H : CH} {m ph pc pp' : Nat} {M : Mem} {g : List Nat} {c : CallS} {xl v x y : Value} {s : PrS} {σ : TF} {Q : KX} (hg : g.length = 5) (hg' : Sm5 (outG c s g)) (hM : CalmA M (vOf (outG c s g)))
  (hla : ∀ e ∈ c.l,1 ≤ e.a∧e.a ≤ 5) (hll : c.l.length < 1000000000) (ha : 1 ≤ c.addr∧c.addr ≤ 5) (hq : Has R (EntS xl c.l.toArray)) (hxy : pairV v = [x,y])
  (hres : match s with | .rd z => c.rd = true∧vOf g c.addr = z.val | .mu z => c.rd = false∧(z.err = 0→allG g c.l = z.done))
  (hs : Sat (Own pp' [x,y]::Own pc [.bool c.rd,u64 c.addr,xl]::PrcAt v s::MemP m M::Own ph (g.map u64)::R) H) (e5 : σ 5 = ptr m 0) (e9 : σ 9 = ptr ph 0) (e14 : σ 14 = ptr pc 0) (e15 : σ 15 = ptr pp' 0)
  (kk : ∀ τ H1,KC σ τ→Sat (MemP m M::Own ph ((outG c s g).map u64)::R) H1→Q .normal τ H1) : codeW (dropC 4 maBk) Try.prog con σ H Q := by
 have hxc : isCell xl = true := (hs.has (Has.skip (Has.skip (Has.skip (Has.skip (Has.skip hq)))))).cell
 rw [codeW_cut2 4 2,maC3_W,e14,e15]
 repeat (refine gO ?_; intros)
 rename_i p6 H7 h7
 refine stN h7 (Nat.le_of_ble_eq_true rfl) (by rw [List.all_cons,List.all_cons,List.all_cons,hxc]; rfl) fun H8 h8 => ?_
 have h9 : Sat (Own p6 [.bool c.rd,u64 c.addr,xl,.bool false,u64 0,iN 0,iN 0]::Own pp' [x,y]::Own pc [.bool c.rd,u64 c.addr,xl]::PrcAt v s::MemP m M::Own ph (g.map u64)::R) H8 := h8
 clear h7 h8
 cases s with
 | rd z =>
  obtain ⟨hrd,hval⟩ := hres
  obtain ⟨p,rfl,_⟩ := h9.has (Has.skip (Has.skip (Has.skip (Has.here fun a t => prc_mono a t))))
  have hrz : Has (PrcAt (.iface 42 (ptr p 0)) (.rd z)::MemP m M::Own ph (g.map u64)::R) (RdAt p z) := fun h a => by
   obtain ⟨p',e,a⟩ := (Has.here (A := PrcAt (.iface 42 (ptr p 0)) (.rd z)) fun a t => prc_mono a t) h a
   cases e
   exact a
  have q1 : y = ptr p 0 := by simp [pairV] at hxy; exact hxy.2.symm
  subst q1
  rw [hrd] at h9
  repeat (refine gO ?_; intros)
  refine rdValue_ok hc h9 (Has.skip (Has.skip (Has.skip hrz))) ?_
  repeat (refine gO ?_; intros)
  rename_i H18 h18
  rw [ceP_n]
  refine hideC17 (σ := σ) (v14 := ptr pc 0) (v15 := ptr pp' 0) (v17 := ptr p6 0) ⟨rfl,rfl,rfl,rfl,rfl,rfl⟩ e14 e15 rfl fun τ hK d14 d15 d17 => ?_
  rw [codeW_cut2 6 1,maC4_W,d14,d15]
  have h19 : Sat (Own pc [.bool true,u64 c.addr,xl]::Own p6 [.bool true,u64 c.addr,xl,.bool false,u64 z.val,iN 0,iN 0]::MemP m M::Own ph (g.map u64)::R) H18 := h18.ent ee
  repeat (refine gO ?_; intros)
  rw [ceP_n]
  refine hideC111 (σ := τ) (v17 := ptr p6 0) (v := .bool true) ⟨rfl,rfl,rfl,rfl,rfl,rfl⟩ d17 rfl fun ρ hK2 r17 r111 => ?_
  have hK3 := hK.trans hK2
  refine maFits hc (g' := outG c (.rd z) g) (c := c) (dn := false) (dv := z.val) (b := true) (pd := p6) (xl := xl) hg hg' hM hla hll ha hq (fun _ => ⟨fun _ => hval,fun q => by rw [hrd] at q; exact absurd q (by simp),by unfold fitG; rw [if_pos hrd]; rfl⟩) (fun q => absurd q (by simp)) (by rw [hrd]; exact h19.ent ee) (hK3.1.trans e5) (hK3.2.2.1.trans e9) r17 r111 fun τ1 H1 hK4 h1 => kk τ1 H1 (hK3.trans hK4) h1
 | mu z =>
  obtain ⟨hrd,hal⟩ := hres
  obtain ⟨p,rfl,_⟩ := h9.has (Has.skip (Has.skip (Has.skip (Has.here fun a t => prc_mono a t))))
  have hmz : ∀ (L : List HP),Has (PrcAt (.iface 41 (ptr p 0)) (.mu z)::L) (MuAt p z) := fun L h a => by
   obtain ⟨p',e,a⟩ := (Has.here (A := PrcAt (.iface 41 (ptr p 0)) (.mu z)) fun a t => prc_mono a t) h a
   cases e
   exact a
  have q1 : x = ptr p 0 := by simp [pairV] at hxy; exact hxy.1.symm
  subst q1
  rw [hrd] at h9
  repeat (refine gO ?_; intros)
  refine muErrno_ok hc h9 (Has.skip (Has.skip (Has.skip (hmz _)))) ?_
  repeat (refine gO ?_; intros)
  have fin : ∀ (H2 : CH) (dn : Bool) (τ : TF),KC σ τ→τ 14 = ptr pc 0→τ 15 = ptr pp' 0→τ 17 = ptr p6 0→(z.err = 0→dn = z.done) →
    Sat (Own p6 [.bool false,u64 c.addr,xl,.bool dn,u64 0,iN 0,iN 0]::Own pp' [ptr p 0,y]::Own pc [.bool false,u64 c.addr,xl]::PrcAt (.iface 41 (ptr p 0)) (.mu z)::MemP m M::Own ph (g.map u64)::R) H2→codeW (dropC 6 maBk) Try.prog con τ H2 Q := fun H2 dn τ hK d14 d15 d17 hdn h2 => by
   rw [codeW_cut2 6 1,maC4_W,d14,d15]
   repeat (refine gO ?_; intros)
   refine muErrno_ok hc h2 (Has.skip (Has.skip (Has.skip (hmz _)))) ?_
   repeat (refine gO ?_; intros)
   rw [ceP_n]
   refine hideC111 (σ := τ) (v17 := ptr p6 0) (v := .bool (eqZ (Int.ofNat z.err) (Int.ofNat 0))) ⟨rfl,rfl,rfl,rfl,rfl,rfl⟩ d17 rfl fun ρ hK2 r17 r111 => ?_
   have hK3 := hK.trans hK2
   refine maFits hc (g' := outG c (.mu z) g) (c := c) (dn := dn) (dv := 0) (b := eqZ (Int.ofNat z.err) (Int.ofNat 0)) (pd := p6) (xl := xl) hg hg' hM hla hll ha hq (fun q => ?_) (fun q => ?_) (by rw [hrd]; exact h2.ent ee) (hK3.1.trans e5) (hK3.2.2.1.trans e9) r17 r111 fun τ1 H1 hK4 h1 => kk τ1 H1 (hK3.trans hK4) h1
   ·have h0 : z.err = 0 := Int.ofNat.inj (of_decide_eq_true q)
    have hd := hdn h0
    subst hd
    refine ⟨fun q => by rw [hrd] at q; exact absurd q (by simp),fun _ => hal h0,?_⟩
    show (if z.err = 0 then fitG c z.done g else g) = _
    rw [if_pos h0]
   ·have h0 : z.err ≠ 0 := fun h => by rw [h,eqZ_self] at q; cases q
    show (if z.err = 0 then fitG c z.done g else g) = g
    rw [if_neg h0]
  by_cases h0 : z.err = 0
  ·refine Cd.t (eqZ_t h0) ?_
   repeat (refine gO ?_; intros)
   refine muDone_ok hc h9 (Has.skip (Has.skip (Has.skip (hmz _)))) ?_
   repeat (refine gO ?_; intros)
   rename_i H30 h30
   rw [ceP_n]
   exact fin _ z.done _ ⟨rfl,rfl,rfl,rfl,rfl,rfl⟩ e14 e15 rfl (fun _ => rfl) h30
  ·refine Cd.f (eqZ_f h0) ?_
   rw [ceP_n]
   exact fin _ false _ ⟨rfl,rfl,rfl,rfl,rfl,rfl⟩ e14 e15 rfl (fun q => absurd q h0) h9
end Go.Proofs.Ytoogdnemkfbgdaa

set_option linter.unusedVariables false
set_option linter.unusedSimpArgs false
namespace Go.Proofs.Ytoogdnemkfbgdaa
open Go Go.CM
attribute [local irreducible] AsBool AsWant AsNat AsInt AsCnt AsPtr AsSlc AsLen AsStr AsAgg AsTup AsFn AsIfc Nth Sc NotNil IsNil Must Cd codeW funW Sat SatL wrapN subM mkRow ltZ leZ ltN leN
attribute [local irreducible] isFunT
variable {con : CallT}
theorem asInt_eq {v : Value} {z : Int} {K : Int→Prop} (h : v = i64 z) (k : K z) : AsInt .i64 v K := by rw [h]; exact AsInt.mk k
theorem VwB.up {q m n n' : Nat} {th : Int} {h : PH} (a : VwB q m th n h) (hn : n ≤ n') : VwB q m th n' h := by
 obtain ⟨k,h1,a⟩ := a
 exact ⟨k,by omega,a⟩
set_option maxRecDepth 100000 in
theorem maBody (hc : Con con lives) {R : List HP} {H : CH} {i j m q ph n : Nat} {tv : Value} {td : List (Value × List (CallS × Value))} {t : Value × List (CallS × Value)} {c : CallS × Value} {g : List Nat} {M : Mem} {σ : TF} {Q : KX}
  (et : td[i]? = some t) (ec : t.2[j]? = some c) (htl : td.length < 1000000000) (hcl : t.2.length < 1000000000) (hll : c.1.l.length < 1000000000) (hla : ∀ e ∈ c.1.l,1 ≤ e.a∧e.a ≤ 5) (ha : 1 ≤ c.1.addr∧c.1.addr ≤ 5) (hT : Has R (ThrW tv td)) (hg : Sm5 g) (hM : CalmA M (vOf g)) (hf : Fin29 M) (hn : n < 800000000) (htr : M.tr.length < 800000000)
  (hs : Sat (MemP m M::VwB q m 0 n::Own ph (g.map u64)::R) H) (e5 : σ 5 = ptr m 0) (e8 : σ 8 = ptr q 0) (e9 : σ 9 = ptr ph 0) (e11 : σ 11 = tv) (e12 : σ 12 = iN i) (e13 : σ 13 = iN j)
  (kk : ∀ τ H1 g' M',KC σ τ→Sm5 g'→CalmA M' (vOf g')→Fin29 M'→M'.tr.length ≤ M.tr.length + 301→Sat (MemP m M'::VwB q m 0 (n + 301)::Own ph (g'.map u64)::R) H1→Q .normal τ H1) : codeW maBk Try.prog con σ H Q := by
 have hit : i < td.length := (List.getElem?_eq_some_iff.1 et).1
 have hjt : j < t.2.length := (List.getElem?_eq_some_iff.1 ec).1
 have hT1 : Has (MemP m M::VwB q m 0 n::Own ph (g.map u64)::R) (ThrW tv td) := Has.skip (Has.skip (Has.skip hT))
 have hr : (td.map fun t => [t.1])[i]? = some [t.1] := by rw [List.getElem?_map,et]; rfl
 obtain ⟨b,hb,_⟩ := (hs.has (thr_vec hT1)).slot hr
 rw [List.length_map] at hb
 have hC := thr_at hT1 et
 have hrc : (t.2.map callRow)[j]? = some (callRow c) := by rw [List.getElem?_map,ec]; rfl
 obtain ⟨bc,hbc,_⟩ := (hs.has (calls_vec hC)).slot hrc
 rw [List.length_map] at hbc
 have hxc : isCell c.2 = true := (hs.has (calls_at hC ec)).cell
 have hqR : Has R (EntS c.2 c.1.l.toArray) := calls_at (thr_at hT et) ec
 rw [codeW_cut 2,maC1_W,e11,e12,e13]
 refine AsSlc.eq hb ?_
 repeat (refine gO ?_; intros)
 refine Must.mk (ltN_t hit) ?_
 refine ldVec hs (thr_vec hT1) hb hr (j := 0) (by show 0 + i * 1 = _; omega) (by omega) rfl ?_
 refine AsSlc.eq hbc ?_
 repeat (refine gO ?_; intros)
 refine Must.mk (ltN_t hjt) ?_
 refine ldVec hs (calls_vec hC) hbc hrc (j := 0) (by show 0 + j * 3 + 0 = _; omega) (by omega) rfl ?_
 refine ldVec hs (calls_vec hC) hbc hrc (j := 1) (by show 0 + j * 3 + 1 = _; omega) (by omega) rfl ?_
 refine ldVec hs (calls_vec hC) hbc hrc (j := 2) (by show 0 + j * 3 + 2 = _; omega) (by omega) rfl ?_
 refine nw hs fun pc H16 h16 => ?_
 refine stN h16 (Nat.le_of_ble_eq_true rfl) (by rw [List.all_cons,List.all_cons,List.all_cons,hxc]; rfl) fun H17 h17 => ?_
 have h18 : Sat (Own pc [.bool c.1.rd,u64 c.1.addr,c.2]::MemP m M::VwB q m 0 n::Own ph (g.map u64)::R) H17 := h17
 repeat (refine gO ?_; intros)
 refine l29begin_ok hc c.1 h18 (Has.skip (Has.skip (Has.skip (Has.skip hqR)))) hll fun v x y H24 hxy hx hy h24 => ?_
 repeat (refine gO ?_; intros)
 rename_i p27 H28 h28
 refine stN h28 (Nat.le_of_ble_eq_true rfl) (by rw [List.all_cons,List.all_cons,hx,hy]; rfl) fun H32 h32 => ?_
 rw [ceP_n]
 refine hideC (σ := σ) (v14 := ptr pc 0) (v15 := ptr p27 0) (v16 := v) ⟨rfl,rfl,rfl,rfl,rfl,rfl⟩ rfl rfl rfl fun τ hK d14 d15 d16 => ?_
 obtain ⟨k5,k8,k9,k11,k12,k13⟩ := id hK
 have h33 : Sat (PrcAt v c.1.fresh::MemP m M::VwB q m 0 n::Own p27 [x,y]::Own pc [.bool c.1.rd,u64 c.1.addr,c.2]::Own ph (g.map u64)::R) H32 := Sat.ent (show Sat (Own p27 [x,y]::PrcAt v c.1.fresh::Own pc [.bool c.1.rd,u64 c.1.addr,c.2]::MemP m M::VwB q m 0 n::Own ph (g.map u64)::R) H32 from h32) ee
 rw [codeW_cut2 2 2,maC2_W,k8,e8,d16]
 obtain ⟨k,hk,hrun,hov,hfin,hcalm,hsm,hres⟩ := call_alone (c := c.1) hg hM hf ha hla
 have htr2 := runP_tr c.1.fresh M (k + 1)
 refine alone29_ok hc (c.1.freshOk (fun e he => by have := (hla e he).2; omega) 1) hf (by omega) hrun hov h33 (by omega) (by omega) fun H34 h34 => ?_
 repeat (refine gO ?_; intros)
 rw [ceP_n]
 generalize runP c.1.fresh M (k + 1) = r at *
 obtain ⟨s',M'⟩ := r
 simp only at hfin hcalm hsm hres h34 htr2
 have h35 : Sat (Own p27 [x,y]::Own pc [.bool c.1.rd,u64 c.1.addr,c.2]::PrcAt v s'::MemP m M'::Own ph (g.map u64)::VwB q m 0 (n + (k + 1))::R) H34 := h34.ent ee
 refine maDid hc hg.1 hsm hcalm hla hll ha (Has.skip hqR) hxy (by cases s' <;> exact hres) h35 (k5.trans e5) (k9.trans e9) d14 d15 fun τ1 H1 hK1 h1 => ?_
 refine kk τ1 H1 _ M' (hK.trans hK1) hsm hcalm hfin (by omega) ?_
 have h2 : Sat (VwB q m 0 (n + (k + 1))::MemP m M'::Own ph ((outG c.1 s' g).map u64)::R) H1 := h1.ent ee
 have h3 : Sat (VwB q m 0 (n + 301)::MemP m M'::Own ph ((outG c.1 s' g).map u64)::R) H1 := h2.imp fun _ a => a.up (by omega)
 exact h3.ent ee
set_option maxRecDepth 100000 in
theorem maC_ok (hc : Con con lives) {R : List HP} {H : CH} {i m q ph n : Nat} {tv : Value} {td : List (Value × List (CallS × Value))} {t : Value × List (CallS × Value)} {g : List Nat} {M : Mem} {σ : TF} {Q : KX}
  (et : td[i]? = some t) (htl : td.length < 1000000000) (hcl : t.2.length < 1000000000) (hcs : ∀ c ∈ t.2,c.1.l.length < 1000000000∧(∀ e ∈ c.1.l,1 ≤ e.a∧e.a ≤ 5)∧1 ≤ c.1.addr∧c.1.addr ≤ 5) (hT : Has R (ThrW tv td)) (hg : Sm5 g) (hM : CalmA M (vOf g)) (hf : Fin29 M) (hn : n + 301 * t.2.length < 700000000) (htr : M.tr.length + 301 * t.2.length < 700000000)
  (hs : Sat (MemP m M::VwB q m 0 n::Own ph (g.map u64)::R) H) (e5 : σ 5 = ptr m 0) (e8 : σ 8 = ptr q 0) (e9 : σ 9 = ptr ph 0) (e11 : σ 11 = tv) (e12 : σ 12 = iN i) (e13 : σ 13 = iN 0)
  (kk : ∀ τ H1 g' M',τ 5 = ptr m 0→τ 8 = ptr q 0→τ 9 = ptr ph 0→τ 11 = tv→τ 12 = iN i→Sm5 g'→CalmA M' (vOf g')→Fin29 M'→M'.tr.length ≤ M.tr.length + 301 * t.2.length→Sat (MemP m M'::VwB q m 0 (n + 301 * t.2.length)::Own ph (g'.map u64)::R) H1→Q (.exit 4) τ H1) :
  LoopC Try.prog con (lpAt Try.prog 3 2) σ H Q := by
 have hit : i < td.length := (List.getElem?_eq_some_iff.1 et).1
 refine LoopC.indP (n := 600) (id := 4) (fun σ1 H1 => ∃ g' M',σ1 5 = ptr m 0∧σ1 8 = ptr q 0∧σ1 9 = ptr ph 0∧σ1 11 = tv∧σ1 12 = iN i∧Sm5 g'∧CalmA M' (vOf g')∧Fin29 M'∧M'.tr.length ≤ M.tr.length + 301 * t.2.length∧Sat (MemP m M'::VwB q m 0 (n + 301 * t.2.length)::Own ph (g'.map u64)::R) H1) (by kernel_rfl)
  (fun (j : Nat) σ1 H1 => j ≤ t.2.length∧∃ g' M',σ1 5 = ptr m 0∧σ1 8 = ptr q 0∧σ1 9 = ptr ph 0∧σ1 11 = tv∧σ1 12 = iN i∧σ1 13 = iN j∧Sm5 g'∧CalmA M' (vOf g')∧Fin29 M'∧M'.tr.length ≤ M.tr.length + 301 * j∧Sat (MemP m M'::VwB q m 0 (n + 301 * j)::Own ph (g'.map u64)::R) H1)
  (fun j => t.2.length - j) (fun j σ1 H1 hI => ?_) (fun σ1 H1 hP => ?_) 0 _ _ ⟨Nat.zero_le _,g,M,e5,e8,e9,e11,e12,e13,hg,hM,hf,Nat.le_refl _,hs⟩
 ·obtain ⟨hj,g',M',a5,a8,a9,a11,a12,a13,hg',hM',hf',htr',hs1⟩ := hI
  have hT1 : Has (MemP m M'::VwB q m 0 (n + 301 * j)::Own ph (g'.map u64)::R) (ThrW tv td) := Has.skip (Has.skip (Has.skip hT))
  have hr : (td.map fun t => [t.1])[i]? = some [t.1] := by rw [List.getElem?_map,et]; rfl
  obtain ⟨b,hb,_⟩ := (hs1.has (thr_vec hT1)).slot hr
  rw [List.length_map] at hb
  have hC := thr_at hT1 et
  obtain ⟨pl,hpl⟩ := (hs1.has (calls_vec hC)).shape
  rw [List.length_map] at hpl
  rw [mac_lp,codeW_cut 2,maC0_W,a11,a12,a13]
  refine AsSlc.eq hb ?_
  repeat (refine gO ?_; intros)
  refine Must.mk (ltN_t hit) ?_
  refine ldVec hs1 (thr_vec hT1) hb hr (j := 0) (by show 0 + i * 1 = _; omega) (by omega) rfl ?_
  refine AsLen.eq hpl ?_
  repeat (refine gO ?_; intros)
  by_cases hlt : j < t.2.length
  ·refine Cd.t (ltZ_t hlt) ?_
   obtain ⟨c,ec⟩ : ∃ c,t.2[j]? = some c := ⟨_,List.getElem?_eq_getElem hlt⟩
   obtain ⟨q1,q2,q3⟩ := hcs c (List.mem_of_getElem? ec)
   have hle : 301 * j + 301 ≤ 301 * t.2.length := by omega
   rw [ceP_n,codeW_cut2 2 1,mac_sl,codeW_one,codeW_blk (id := 5) mac_bk]
   refine maBody hc (c := c) et ec htl hcl q1 q2 q3 hT hg' hM' hf' (by omega) (by omega) hs1 a5 a8 a9 a11 a12 a13 fun τ H2 g2 M2 hK hg2 hM2 hf2 ht2 h2 => ?_
   obtain ⟨k5,k8,k9,k11,k12,k13⟩ := hK
   show ceP CE.normal _ _ _ τ H2
   rw [ceP_n,ceP_n,maCZ_W,k13]
   refine asInt_eq (z := Int.ofNat j) a13 ?_
   repeat (refine gO ?_; intros)
   try rw [addInt]
   refine inR_nat (by first | omega | (simp only; omega)) ?_
   repeat (refine gO ?_; intros)
   show ∃ y,_∧_
   refine ⟨j + 1,by omega,hlt,g2,M2,k5.trans a5,k8.trans a8,k9.trans a9,k11.trans a11,k12.trans a12,rfl,hg2,hM2,hf2,by omega,?_⟩
   rw [show n + 301 * (j + 1) = n + 301 * j + 301 by omega]
   exact h2
  ·obtain rfl : j = t.2.length := by omega
   refine Cd.f (ltZ_f (Nat.le_refl _)) ?_
   rw [ceP_x]
   show _ = _∧_
   exact ⟨rfl,g',M',a5,a8,a9,a11,a12,hg',hM',hf',htr',hs1⟩
 ·obtain ⟨g',M',a5,a8,a9,a11,a12,hg',hM',hf',htr',hs1⟩ := hP
  exact kk σ1 H1 g' M' a5 a8 a9 a11 a12 hg' hM' hf' htr' hs1
end Go.Proofs.Ytoogdnemkfbgdaa

set_option linter.unusedVariables false
set_option linter.unusedSimpArgs false
namespace Go.Proofs.Ytoogdnemkfbgdaa
open Go Go.CM
attribute [local irreducible] AsBool AsWant AsNat AsInt AsCnt AsPtr AsSlc AsLen AsStr AsAgg AsTup AsFn AsIfc Nth Sc NotNil IsNil Must Cd codeW funW Sat SatL wrapN subM mkRow ltZ leZ ltN leN
attribute [local irreducible] isFunT
variable {con : CallT}
theorem ad5_in (a : Nat) : 1 ≤ ad5 a∧ad5 a ≤ 5 := by
 have e : ad5 a = (a % 5 + 1) % 18446744073709551616 := rfl
 rw [e]
 omega
def sumT (td : List (Value × List (CallS × Value))) (i : Nat) : Nat := ((td.take i).map fun t => t.2.length).sum
theorem sumT_succ {td : List (Value × List (CallS × Value))} {i : Nat} {t : Value × List (CallS × Value)} (h : td[i]? = some t) : sumT td (i + 1) = sumT td i + t.2.length := by
 unfold sumT; rw [List.take_add_one,h]; simp
theorem sumT_le (td : List (Value × List (CallS × Value))) (i : Nat) : sumT td i ≤ (td.map fun t => t.2.length).sum := by
 unfold sumT
 conv => rhs; rw [← List.take_append_drop i td]
 rw [List.map_append,List.sum_append]
 omega
theorem calm0 {n : Nat} (h1 : 128 ≤ n) (h2 : n ≤ 4194304) {f : List Nat} (hf : f.length = 5) : CalmA (mem5 n f) (vOf (f.map cut62))∧Sm5 (f.map cut62) := by
 have hsm : Sm5 (f.map cut62) := ⟨by rw [List.length_map]; exact hf,fun x hx => by obtain ⟨y,_,rfl⟩ := List.mem_map.1 hx; exact cut62_lt y⟩
 have hlen : ((f.map cut62).map wordF).length = 5 := by simp [hf]
 have hcl : (mem0 n).cells.length = n := List.length_replicate ..
 have hfr : (mem0 n).free = 1 := rfl
 have hfin := fin5 h1 h2 hf
 have hfree : (mem5 n f).free = 6 := by
  unfold mem5
  rw [alloc_t (by omega) (by omega)]
  show (mem0 n).free + _ = 6
  rw [hlen,hfr]
 refine ⟨⟨⟨by omega,hfin.free,hfin.len⟩,fun c c1 c5 => ?_,hsm.v⟩,hsm⟩
 unfold mem5
 rw [peek_alloc (by omega) (by omega),hfr,hlen,if_pos ⟨c1,by omega⟩]
 unfold vOf
 rw [List.getD_eq_getElem?_getD,List.getD_eq_getElem?_getD,List.getElem?_map,List.getElem?_eq_getElem (by rw [hsm.1]; omega)]
 show wordF _ = 4 * _
 have := hsm.2 _ (List.getElem_mem (l := f.map cut62) (n := c - 1) (by rw [hsm.1]; omega))
 exact Nat.mod_eq_of_lt (by show 4 * _ < _; omega)
set_option maxRecDepth 100000 in
theorem maB_ok (hc : Con con lives) {R : List HP} {H : CH} {m q ph : Nat} {tv : Value} {td : List (Value × List (CallS × Value))} {g : List Nat} {M : Mem} {σ : TF} {Q : KX}
  (htl : td.length < 1000000000) (hcl : ∀ t ∈ td,t.2.length < 1000000000) (hcs : ∀ t ∈ td,∀ c ∈ t.2,c.1.l.length < 1000000000∧(∀ e ∈ c.1.l,1 ≤ e.a∧e.a ≤ 5)∧1 ≤ c.1.addr∧c.1.addr ≤ 5) (hsum : (td.map fun t => t.2.length).sum ≤ 1100000) (hT : Has R (ThrW tv td)) (hg : Sm5 g) (hM : CalmA M (vOf g)) (hf : Fin29 M) (htr : M.tr.length ≤ 10)
  (hs : Sat (MemP m M::VwB q m 0 0::Own ph (g.map u64)::R) H) (e5 : σ 5 = ptr m 0) (e8 : σ 8 = ptr q 0) (e9 : σ 9 = ptr ph 0) (e11 : σ 11 = tv) (e12 : σ 12 = iN 0)
  (kk : ∀ τ H1,Q (.exit 2) τ H1) :
  LoopC Try.prog con (lpAt Try.prog 3 1) σ H Q := by
 refine LoopC.indP (n := 900) (id := 2) (fun _ _ => True) (by kernel_rfl)
  (fun (i : Nat) σ1 H1 => i ≤ td.length∧∃ g' M',σ1 5 = ptr m 0∧σ1 8 = ptr q 0∧σ1 9 = ptr ph 0∧σ1 11 = tv∧σ1 12 = iN i∧Sm5 g'∧CalmA M' (vOf g')∧Fin29 M'∧M'.tr.length ≤ 10 + 301 * sumT td i∧Sat (MemP m M'::VwB q m 0 (301 * sumT td i)::Own ph (g'.map u64)::R) H1)
  (fun i => td.length - i) (fun i σ1 H1 hI => ?_) (fun σ1 H1 hP => ?_) 0 _ _ ⟨Nat.zero_le _,g,M,e5,e8,e9,e11,e12,hg,hM,hf,by simp [sumT]; exact htr,hs⟩
 ·obtain ⟨hi,g',M',a5,a8,a9,a11,a12,hg',hM',hf',htr',hs1⟩ := hI
  have hT1 : Has (MemP m M'::VwB q m 0 (301 * sumT td i)::Own ph (g'.map u64)::R) (ThrW tv td) := Has.skip (Has.skip (Has.skip hT))
  obtain ⟨px,hpx⟩ := (hs1.has (thr_vec hT1)).shape
  rw [List.length_map] at hpx
  rw [multiAloneB_W]
  simp only [a11,a12]
  refine AsLen.eq hpx ?_
  repeat (refine gO ?_; intros)
  by_cases hlt : i < td.length
  ·refine Cd.t (ltZ_t hlt) ?_
   obtain ⟨t,et⟩ : ∃ x,td[i]? = some x := ⟨_,List.getElem?_eq_getElem hlt⟩
   have h1 := sumT_succ et
   have h2 := sumT_le td (i + 1)
   refine maC_ok hc et htl (hcl t (List.mem_of_getElem? et)) (hcs t (List.mem_of_getElem? et)) hT hg' hM' hf' (by omega) (by omega) hs1 a5 a8 a9 a11 a12 rfl fun τ H2 g2 M2 b5 b8 b9 b11 b12 hg2 hM2 hf2 ht2 h3 => ?_
   show Cd _ _ _
   refine Cd.t rfl ?_
   simp only [b12]
   repeat (refine gO ?_; intros)
   try rw [addInt]
   refine inR_nat (by first | omega | (simp only; omega)) ?_
   repeat (refine gO ?_; intros)
   show ∃ y,_∧_
   refine ⟨i + 1,by omega,hlt,g2,M2,b5,b8,b9,b11,rfl,hg2,hM2,hf2,by omega,?_⟩
   rw [show 301 * sumT td (i + 1) = 301 * sumT td i + 301 * t.2.length by omega]
   exact h3
  ·refine Cd.f (ltZ_f (by omega)) ?_
   show _ = _∧_
   exact ⟨rfl,trivial⟩
 ·exact kk σ1 H1
set_option maxRecDepth 100000 in
theorem multiAlone_ok (hc : Con con lives) (hlive : ∀ H,con 5 ⟨[]⟩ H = some (.bool true,H)) {R : List HP} {H : CH} {c : Int} {f0 f1 f2 f3 f4 : Nat} {xv xw : Value} {threads : List (List CallS)}
  (hcv : cvOk .i64 c = true) (hcxw : isCell xw = true) (hs : Sat (ThrR xv threads::R) H) (hl1 : threads.length ≤ 10000000) (hl2 : ∀ cs ∈ threads,cs.length ≤ 10000000∧∀ c ∈ cs,c.l.length ≤ 10000000) (hsum : (threads.map List.length).sum ≤ 1100000) :
  Call1 Try.prog con 3 [i64 c,.agg ⟨[u64 f0,u64 f1,u64 f2,u64 f3,u64 f4,xv,xw]⟩] H (fun v _ => v = .bool true) := by
 refine call_of (hc _ _ _ rfl) ?_
 rw [multiAlone_W]
 obtain ⟨pxv,cxv,exv⟩ := RowsR.len (hs.has (Has.here fun a t => ThrR.mono a t))
 have hcxv : isCell xv = true := by rw [exv]; rfl
 refine nw hs fun p1 H2 g2 => ?_
 refine Must.mk hcv ?_
 have hlt : Nat.mod (wrapN .u64 c) 2000 < 2000 := Nat.mod_lt _ (by omega)
 generalize Nat.mod (wrapN .u64 c) 2000 = z at *
 rw [wrapI_small (by omega),addInt]
 refine inR_nat (by omega) ?_
 refine ld g2 rfl ?_
 refine ld g2 rfl ?_
 refine ld g2 rfl ?_
 refine ld g2 rfl ?_
 refine ld g2 rfl ?_
 refine l29memory_ok hc g2 (n := 128 + z) (by omega) (by omega) fun m r H9 g9 => ?_
 refine AsTup.mk (Nth.mk rfl (AsTup.mk (Nth.mk rfl (AsTup.mk (Nth.mk rfl ?_)))))
 refine call_yes (hlive _) ?_
 refine AsBool.mk (Cd.f rfl (AsBool.mk (Cd.f rfl ?_)))
 have hf5 : [f0,f1,f2,f3,f4].length = 5 := rfl
 have htr5 := tr5 (n := 128 + z) hf5
 have hfin5 := fin5 (n := 128 + z) (by omega) (by omega) hf5
 obtain ⟨hcalm,hsm⟩ := calm0 (n := 128 + z) (by omega) (by omega) hf5
 generalize mem5 (128 + z) [f0,f1,f2,f3,f4] = M5 at *
 refine memView_ok hc g9 fun q H21 g21 => ?_
 refine nw g21 fun ph H23 g23 => ?_
 have g24 : Sat (Own ph ((List.replicate 5 0).map u64)::Own p1 ([f0,f1,f2,f3,f4].map u64++[xv,xw])::ViewAt q m 0 0::MemP m M5::ThrR xv threads::R) H23 := g23.ent ee
 refine maA_ok hc (f := [f0,f1,f2,f3,f4]) rfl g24 rfl rfl rfl fun σ1 H25 a3 a5 a8 a9 g25 => ?_
 show Cd _ _ _
 refine Cd.t rfl ?_
 simp only [a3]
 have g26 : Sat (Own p1 [u64 f0,u64 f1,u64 f2,u64 f3,u64 f4,xv,xw]::Own ph (([f0,f1,f2,f3,f4].map cut62).map u64)::ViewAt q m 0 0::MemP m M5::ThrR xv threads::R) H25 := g25.ent ee
 repeat (refine gO ?_; intros)
 have hl2' : ∀ cs ∈ threads,cs.length < 1000000000∧∀ c ∈ cs,c.l.length < 1000000000 := fun cs h => ⟨by have := (hl2 cs h).1; omega,fun c hcc => by have := (hl2 cs h).2 c hcc; omega⟩
 refine placed_ok hc (by omega) hl2' (Has.skip (Has.skip (Has.skip (Has.skip (Has.here fun a t => ThrR.mono a t))))) g26 fun tv td H31 htd hctv g31 => ?_
 have etl : td.length = threads.length := by have := congrArg List.length htd; simpa using this
 have hcm : ∀ t ∈ td,∃ cs0 ∈ threads,t.2.map Prod.fst = cs0.map plc := fun t h => by
  have : t.2.map Prod.fst ∈ threads.map (fun cs => cs.map plc) := by rw [← htd]; exact List.mem_map_of_mem (f := fun t : Value × List (CallS × Value) => t.2.map Prod.fst) h
  obtain ⟨a,ha,e⟩ := List.mem_map.1 this
  exact ⟨a,ha,e.symm⟩
 have hlen : ∀ t ∈ td,t.2.length < 1000000000 := fun t ht => by
  obtain ⟨cs0,h0,e0⟩ := hcm t ht
  have h1 := congrArg List.length e0
  have h2 := (hl2 cs0 h0).1
  simp only [List.length_map] at h1
  omega
 have hcs : ∀ t ∈ td,∀ c ∈ t.2,c.1.l.length < 1000000000∧(∀ e ∈ c.1.l,1 ≤ e.a∧e.a ≤ 5)∧1 ≤ c.1.addr∧c.1.addr ≤ 5 := fun t ht c hcc => by
  obtain ⟨cs0,h0,e0⟩ := hcm t ht
  have hm : c.1 ∈ cs0.map plc := by rw [← e0]; exact List.mem_map_of_mem (f := Prod.fst) hcc
  obtain ⟨c0,hc0,e1⟩ := List.mem_map.1 hm
  rw [← e1]
  refine ⟨?_,fun e he => ?_,ad5_in _⟩
  ·show (c0.l.map plcE).length < _
   rw [List.length_map]
   have := (hl2 cs0 h0).2 c0 hc0
   omega
  ·obtain ⟨e2,_,rfl⟩ := List.mem_map.1 (show e ∈ c0.l.map plcE from he)
   exact ad5_in _
 have hsumT : (td.map fun t => t.2.length).sum ≤ 1100000 := by
  have e1 : td.map (fun t => t.2.length) = threads.map List.length := by
   have := congrArg (List.map List.length) htd
   simp only [List.map_map] at this
   have e2 : (List.length ∘ fun t : Value × List (CallS × Value) => t.2.map Prod.fst) = fun t => t.2.length := by funext t; simp
   have e3 : (List.length ∘ fun cs : List CallS => cs.map plc) = List.length := by funext t; simp
   rw [e2,e3] at this
   exact this
  rw [e1]; exact hsum
 have g32 : Sat (ViewAt q m 0 0::MemP m M5::Own ph (([f0,f1,f2,f3,f4].map cut62).map u64)::ThrW tv td::R) H31 := g31.ent ee
 have g33 : Sat (VwB q m 0 0::MemP m M5::Own ph (([f0,f1,f2,f3,f4].map cut62).map u64)::ThrW tv td::R) H31 := g32.imp fun _ a => ⟨0,Nat.le_refl _,a⟩
 have g34 : Sat (MemP m M5::VwB q m 0 0::Own ph (([f0,f1,f2,f3,f4].map cut62).map u64)::ThrW tv td::R) H31 := g33.ent ee
 refine maB_ok hc (tv := tv) (g := [f0,f1,f2,f3,f4].map cut62) (by omega) hlen hcs hsumT Has.thrW hsm hcalm hfin5 htr5 g34 a5 a8 a9 rfl rfl fun τ H33 => ?_
 show Cd _ _ _
 refine Cd.t rfl ?_
 exact trivial
end Go.Proofs.Ytoogdnemkfbgdaa

