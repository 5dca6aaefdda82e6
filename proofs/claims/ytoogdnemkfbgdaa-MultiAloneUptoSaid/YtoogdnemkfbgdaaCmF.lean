/- Heaps in disjoint parts: what a step of code does to them, slices, memories and their traces. No conditions beyond the ones each theorem states. -/
import Derived.Test.YtoogdnemkfbgdaaCmE
import Derived.OpenShut
set_option linter.unusedVariables false
set_option linter.unusedSimpArgs false

namespace Go.CM
open Go
variable {P : Program} {con : CallT}
abbrev PH := Nat→Option Blk
abbrev HP := PH→Prop
def dom (H : CH) : PH := fun b => if b < H.next then H.blks.get b else none
def Subh (h g : PH) : Prop := ∀ b k,h b = some k→g b = some k
def Dj (h g : PH) : Prop := ∀ b k1 k2,h b = some k1→g b = some k2→k1 = k2∧k1.wr = false
def join (h g : PH) : PH := fun b => match h b with | some k => some k | none => g b
theorem Subh.refl (h : PH) : Subh h h := fun _ _ e => e
theorem Subh.trans {a b c : PH} (h : Subh a b) (g : Subh b c) : Subh a c := fun x k e => g x k (h x k e)
theorem Dj.symm {h g : PH} (d : Dj h g) : Dj g h := fun b k1 k2 e1 e2 => by
 obtain ⟨rfl,w⟩ := d b k2 k1 e2 e1
 exact ⟨rfl,w⟩
theorem Dj.sub {h g h' g' : PH} (d : Dj h g) (s : Subh h' h) (t : Subh g' g) : Dj h' g' := fun b k1 k2 e1 e2 => d b k1 k2 (s b k1 e1) (t b k2 e2)
theorem join_l (h g : PH) : Subh h (join h g) := fun b k e => by unfold join; rw [e]
theorem join_r {h g : PH} (d : Dj h g) : Subh g (join h g) := fun b k e => by
 unfold join
 cases e2 : h b with
 | none => exact e
 | some k2 => obtain ⟨rfl,_⟩ := d b k2 k e2 e; rfl
theorem join_sub {h g f : PH} (s : Subh h f) (t : Subh g f) : Subh (join h g) f := fun b k e => by
 unfold join at e
 cases e2 : h b with
 | none => rw [e2] at e; exact t b k e
 | some k2 => rw [e2] at e; cases e; exact s b _ e2
theorem Dj.join {h g f : PH} (d : Dj h g) (d2 : Dj h f) : Dj h (join g f) := fun b k1 k2 e1 e2 => by
 unfold Go.CM.join at e2
 cases e3 : g b with
 | none => rw [e3] at e2; exact d2 b k1 k2 e1 e2
 | some k3 => rw [e3] at e2; cases e2; exact d b k1 _ e1 e3
def SatL : List HP→PH→Prop
 | [],_ => True
 | A::L,h => ∃ h1 h2,Subh h1 h∧Subh h2 h∧Dj h1 h2∧A h1∧SatL L h2
def Sat (L : List HP) (H : CH) : Prop := SatL L (dom H)
theorem SatL.mono {L : List HP} {h g : PH} (s : Subh h g) (a : SatL L h) : SatL L g := by
 cases L with
 | nil => trivial
 | cons A L =>
  obtain ⟨h1,h2,s1,s2,d,x,y⟩ := a
  exact ⟨h1,h2,s1.trans s,s2.trans s,d,x,y⟩
theorem SatL.drop {A : HP} {L : List HP} {h : PH} (a : SatL (A::L) h) : SatL L h := by
 obtain ⟨h1,h2,s1,s2,d,x,y⟩ := a
 exact y.mono s2
theorem SatL.swap {A B : HP} {L : List HP} {h : PH} (a : SatL (A::B::L) h) : SatL (B::A::L) h := by
 obtain ⟨h1,h2,s1,s2,d,x,g1,g2,t1,t2,d2,y,z⟩ := a
 refine ⟨g1,join h1 g2,t1.trans s2,join_sub s1 (t2.trans s2),(d.symm.sub t1 (Subh.refl _)).join d2,y,h1,g2,join_l _ _,join_r (d.sub (Subh.refl _) t2),d.sub (Subh.refl _) t2,x,z⟩
theorem SatL.under {A : HP} {L L' : List HP} {h : PH} (f : ∀ g,SatL L g→SatL L' g) (a : SatL (A::L) h) : SatL (A::L') h := by
 obtain ⟨h1,h2,s1,s2,d,x,y⟩ := a
 exact ⟨h1,h2,s1,s2,d,x,f h2 y⟩
theorem SatL.imp {A B : HP} {L : List HP} {h : PH} (f : ∀ g,A g→B g) (a : SatL (A::L) h) : SatL (B::L) h := by
 obtain ⟨h1,h2,s1,s2,d,x,y⟩ := a
 exact ⟨h1,h2,s1,s2,d,f h1 x,y⟩
theorem SatL.merge {L1 L2 : List HP} {h h1 h2 : PH} (s1 : Subh h1 h) (s2 : Subh h2 h) (d : Dj h1 h2) (a : SatL L1 h1) (b : SatL L2 h2) : SatL (L1++L2) h := by
 induction L1 generalizing h h1 with
 | nil => exact b.mono s2
 | cons A L1 ih =>
  obtain ⟨g1,g2,t1,t2,d2,x,y⟩ := a
  refine ⟨g1,join g2 h2,t1.trans s1,join_sub (t2.trans s1) s2,d2.join (d.sub t1 (Subh.refl _)),x,?_⟩
  exact ih (join_l _ _) (join_r (d.sub t2 (Subh.refl _))) (d.sub t2 (Subh.refl _)) y
theorem SatL.split {L1 L2 : List HP} {h : PH} (a : SatL (L1++L2) h) : ∃ h1 h2,Subh h1 h∧Subh h2 h∧Dj h1 h2∧SatL L1 h1∧SatL L2 h2 := by
 induction L1 generalizing h with
 | nil => exact ⟨fun _ => none,h,(fun _ _ e => nomatch e),Subh.refl _,(fun _ _ _ e => nomatch e),trivial,a⟩
 | cons A L1 ih =>
  obtain ⟨g1,g2,t1,t2,d,x,y⟩ := a
  obtain ⟨h1,h2,s1,s2,d2,z,w⟩ := ih y
  have dj : Dj g1 h1 := d.sub (Subh.refl _) s1
  refine ⟨join g1 h1,h2,join_sub t1 (s1.trans t2),s2.trans t2,?_,⟨g1,h1,join_l _ _,join_r dj,dj,x,z⟩,w⟩
  exact ((d.sub (Subh.refl _) s2).symm.join d2.symm).symm
theorem SatL.close {A : HP} {L1 L2 : List HP} {h : PH} (a : SatL (L1++L2) h) (f : ∀ g,SatL L1 g→A g) : SatL (A::L2) h := by
 obtain ⟨h1,h2,s1,s2,d,x,y⟩ := a.split
 exact ⟨h1,h2,s1,s2,d,f h1 x,y⟩
def Pull (L : List HP) (A : HP) (R : List HP) : Prop := ∀ h,SatL L h→SatL (A::R) h
theorem Pull.here {A : HP} {L : List HP} : Pull (A::L) A L := fun _ a => a
theorem Pull.there {A B : HP} {L R : List HP} (p : Pull L A R) : Pull (B::L) A (B::R) := fun _ a => (a.under p).swap
def Takes (L As R : List HP) : Prop := ∀ h,SatL L h→SatL (As++R) h
theorem Takes.nil {L : List HP} : Takes L [] L := fun _ a => a
theorem Takes.cons {L R1 R As : List HP} {A : HP} (p : Pull L A R1) (q : Takes R1 As R) : Takes L (A::As) R := fun h a => (p h a).under q
def Ent (L R : List HP) : Prop := ∀ h,SatL L h→SatL R h
theorem Ent.refl (L : List HP) : Ent L L := fun _ a => a
theorem Ent.cons {L R R' : List HP} {A : HP} (p : Pull L A R) (q : Ent R R') : Ent L (A::R') := fun h a => (p h a).under q
theorem Ent.drop {L R' : List HP} {A : HP} (q : Ent L R') : Ent (A::L) R' := fun h a => q h a.drop
theorem Ent.none {L : List HP} : Ent L [] := fun _ _ => trivial
theorem Sat.ent {L R : List HP} {H : CH} (hs : Sat L H) (q : Ent L R) : Sat R H := q _ hs
theorem Sat.out {L : List HP} {H : CH} (hs : Sat L H) : SatL L (dom H) := hs
theorem Sat.mk {L : List HP} {H : CH} (hs : SatL L (dom H)) : Sat L H := hs
theorem Sat.drop {L : List HP} {H : CH} {A : HP} (hs : Sat (A::L) H) : Sat L H := SatL.drop hs
theorem Sat.imp {L : List HP} {H : CH} {A B : HP} (hs : Sat (A::L) H) (f : ∀ g,A g→B g) : Sat (B::L) H := SatL.imp f hs
theorem pH {A : HP} {L : List HP} : Pull (A::L) A L := Pull.here
theorem pT {A B : HP} {L R : List HP} (p : Pull L A R) : Pull (B::L) A (B::R) := p.there
theorem eN (L : List HP) : Ent L L := Ent.refl L
theorem eZ {L : List HP} : Ent L [] := Ent.none
theorem eC {L R R' : List HP} {A : HP} (p : Pull L A R) (q : Ent R R') : Ent L (A::R') := Ent.cons p q
theorem eD {L R' : List HP} {A : HP} (q : Ent L R') : Ent (A::L) R' := q.drop
theorem pp {L : List HP} {A : HP} {R : List HP} (h : Pull L A R := by repeat (first | exact pH | apply pT)) : Pull L A R := h
theorem ee {L R : List HP} (h : Ent L R := by repeat (first | exact eN _ | exact eZ | apply eC (by repeat (first | exact pH | apply pT)) | refine eD ?_)) : Ent L R := h
def Row (b elem es : Nat) (wr : Bool) (cs : List Value) : HP := fun h => ∃ k,h b = some k∧k.elem = elem∧k.es = es∧k.wr = wr∧k.dead = false∧k.cells.fm = false∧k.size = cs.length∧∀ j,k.get j = cs[j]?
def Own (b : Nat) (cs : List Value) : HP := fun h => ∃ e s,Row b e s true cs h
theorem Row.obj {b e s : Nat} {cs : List Value} (h : PH) (a : Row b e s true cs h) : Own b cs h := ⟨e,s,a⟩
class HasCell (L : List HP) (b : Nat) (cs : outParam (List Value)) : Prop where
 get : ∀ h,SatL L h→∃ k,h b = some k∧k.dead = false∧k.size = cs.length∧∀ j,k.get j = cs[j]?
instance (priority := 1100) HasCell.row {b e s : Nat} {w : Bool} {cs : List Value} {L : List HP} : HasCell (Row b e s w cs::L) b cs := ⟨fun h a => by
 obtain ⟨h1,h2,s1,s2,d,⟨k,k1,k2,k3,k4,k5,kf,k6,k7⟩,y⟩ := a
 exact ⟨k,s1 b k k1,k5,k6,k7⟩⟩
instance (priority := 1100) HasCell.obj {b : Nat} {cs : List Value} {L : List HP} : HasCell (Own b cs::L) b cs := ⟨fun h a => by
 obtain ⟨h1,h2,s1,s2,d,⟨e,s,k,k1,k2,k3,k4,k5,_,k6,k7⟩,y⟩ := a
 exact ⟨k,s1 b k k1,k5,k6,k7⟩⟩
instance (priority := 900) HasCell.skip {A : HP} {b : Nat} {cs : List Value} {L : List HP} [i : HasCell L b cs] : HasCell (A::L) b cs := ⟨fun h a => by
 exact i.get h a.drop⟩
theorem dom_some {H : CH} {b : Nat} {k : Blk} (h : dom H b = some k) : b < H.next∧H.blks.get b = some k := by
 unfold dom at h
 split at h
 ·exact ⟨by assumption,h⟩
 ·cases h
theorem Sat.blk {L : List HP} {H : CH} {b : Nat} {cs : List Value} (hs : Sat L H) [i : HasCell L b cs] : ∃ k,H.live b = some k∧k.size = cs.length∧∀ j,k.get j = cs[j]? := by
 obtain ⟨k,h1,h2,h3,h4⟩ := i.get _ hs
 obtain ⟨_,h5⟩ := dom_some h1
 refine ⟨k,?_,h3,h4⟩
 unfold CH.live
 rw [h5]
 simp only [h2,cond_false]
theorem ld {L : List HP} {H : CH} {b off : Nat} {cs : List Value} {v : Value} {K : Value→Prop} (hs : Sat L H) [HasCell L b cs] (hv : cs[off]? = some v) (k : K v) : Ld H b off K := by
 obtain ⟨x,h1,h2,h3⟩ := hs.blk (b := b)
 refine ⟨?_⟩
 unfold CH.cell
 rw [h1]
 simp only [h3,hv]
 exact k
class HasObj (L : List HP) (b : Nat) (cs : outParam (List Value)) (F : outParam (List Value→List HP)) : Prop where
 get : ∀ h,SatL L h→∃ k,h b = some k∧k.wr = true∧k.dead = false∧k.cells.fm = false∧k.size = cs.length∧(∀ j,k.get j = cs[j]?) ∧
  ∀ cs' k' h',k'.elem = k.elem→k'.es = k.es→k'.wr = true→k'.dead = false→k'.cells.fm = false→k'.size = cs'.length→(∀ j,k'.get j = cs'[j]?)→h' b = some k'→(∀ x,x ≠ b→h' x = h x)→SatL (F cs') h'
theorem sub_put {h h' : PH} {b : Nat} {k : Blk} {g : PH} (s : Subh g h) (hb : h b = some k) (hw : k.wr = true) {g1 : PH} (d : Dj g1 g) (hg : g1 b = some k) (hx : ∀ x,x ≠ b→h' x = h x) : Subh g h' := fun x q e => by
 by_cases hxb : x = b
 ·subst hxb
  obtain ⟨_,w⟩ := d x k q hg e
  rw [hw] at w; cases w
 ·rw [hx x hxb]; exact s x q e
instance (priority := 1100) HasObj.row {b e s : Nat} {cs : List Value} {L : List HP} : HasObj (Row b e s true cs::L) b cs (fun cs' => Row b e s true cs'::L) := ⟨fun h a => by
 obtain ⟨h1,h2,s1,s2,d,⟨k,k1,k2,k3,k4,k5,kf,k6,k7⟩,y⟩ := a
 refine ⟨k,s1 b k k1,k4,k5,kf,k6,k7,fun cs' k' h' e1 e2 e3 e4 ef e5 e6 e7 e8 => ?_⟩
 refine ⟨fun x => if x = b then some k' else none,h2,fun x q hq => ?_,sub_put s2 (s1 b k k1) k4 d k1 e8,fun x q1 q2 hq1 hq2 => ?_,⟨k',by simp,e1.trans k2,e2.trans k3,e3,e4,ef,e5,e6⟩,y⟩
 ·simp only at hq
  split at hq
  ·rename_i hx; subst hx; cases hq; exact e7
  ·cases hq
 ·simp only at hq1
  split at hq1
  ·rename_i hx; subst hx
   obtain ⟨_,w⟩ := d x k q2 k1 hq2
   rw [k4] at w; cases w
  ·cases hq1⟩
instance (priority := 1100) HasObj.obj {b : Nat} {cs : List Value} {L : List HP} : HasObj (Own b cs::L) b cs (fun cs' => Own b cs'::L) := ⟨fun h a => by
 obtain ⟨h1,h2,s1,s2,d,⟨e,s,r⟩,y⟩ := a
 obtain ⟨k,g1,g2,g3,gf,g4,g5,g6⟩ := (HasObj.row (b := b) (e := e) (s := s) (cs := cs) (L := L)).get h ⟨h1,h2,s1,s2,d,r,y⟩
 refine ⟨k,g1,g2,g3,gf,g4,g5,fun cs' k' h' e1 e2 e3 e4 ef e5 e6 e7 e8 => ?_⟩
 exact (g6 cs' k' h' e1 e2 e3 e4 ef e5 e6 e7 e8).imp fun g r => r.obj⟩
instance (priority := 900) HasObj.skip {A : HP} {b : Nat} {cs : List Value} {L : List HP} {F : List Value→List HP} [i : HasObj L b cs F] : HasObj (A::L) b cs (fun cs' => A::F cs') := ⟨fun h a => by
 obtain ⟨h1,h2,s1,s2,d,x,y⟩ := a
 obtain ⟨k,g1,g2,g3,gf,g4,g5,g6⟩ := i.get h2 y
 refine ⟨k,s2 b k g1,g2,g3,gf,g4,g5,fun cs' k' h' e1 e2 e3 e4 ef e5 e6 e7 e8 => ?_⟩
 have y' := g6 cs' k' (fun z => if z = b then some k' else h2 z) e1 e2 e3 e4 ef e5 e6 (by simp) (fun z hz => by simp [hz])
 refine ⟨h1,_,fun z q hq => ?_,fun z q hq => ?_,fun z q1 q2 hq1 hq2 => ?_,x,y'⟩
 ·by_cases hz : z = b
  ·subst hz
   obtain ⟨rfl,w⟩ := d z q k hq g1
   rw [g2] at w; cases w
  ·rw [e8 z hz]; exact s1 z q hq
 ·by_cases hz : z = b
  ·subst hz; simp only [if_true] at hq; cases hq; exact e7
  ·simp only [hz,if_false] at hq; rw [e8 z hz]; exact s2 z q hq
 ·by_cases hz : z = b
  ·subst hz
   obtain ⟨rfl,w⟩ := d z q1 k hq1 g1
   rw [g2] at w; cases w
  ·simp only [hz,if_false] at hq2; exact d z q1 q2 hq1 hq2⟩
theorem setL_row : ∀ (vs : List Value) (k : Blk) (off : Nat) (cs : List Value),k.size = cs.length→(∀ j,k.get j = cs[j]?)→off + vs.length ≤ cs.length→vs.all isCell = true →
  ∃ k',k.setL off vs = some k'∧k'.elem = k.elem∧k'.es = k.es∧k'.wr = k.wr∧k'.dead = k.dead∧k'.cells.fm = k.cells.fm∧k'.size = (ovw vs cs off).length∧∀ j,k'.get j = (ovw vs cs off)[j]?
 | [],k,off,cs,h1,h2,h3,h4 => ⟨k,rfl,rfl,rfl,rfl,rfl,rfl,h1,h2⟩
 | v::r,k,off,cs,h1,h2,h3,h4 => by
  simp only [List.length_cons] at h3
  simp only [List.all_cons,Bool.and_eq_true] at h4
  have hlt : off < k.size := by omega
  have e : ovw (v::r) cs off = ovw r (setN cs v off) (off + 1) := rfl
  rw [setN_eq] at e
  simp only [Blk.setL,blt_iff.2 hlt,h4.1,Bool.and_self,cond_true]
  rw [e]
  have hfm : (k.cells.set off v).fm = k.cells.fm := by
   unfold M.set M.setB
   cases hf : k.cells.fm with
   | true => rfl
   | false => cases Nat.blt off 1099511627775 <;> simp
  have hget : ∀ j,Blk.get { k with cells := k.cells.set off v } j = (cs.set off v)[j]? := fun j => by
   have hj := h2 j
   unfold Blk.get at hj ⊢
   simp only
   rw [M.get_set,List.getElem?_set]
   by_cases hjo : off = j
   ·subst hjo
    rw [blt_iff.2 hlt]
    simp only [cond_true,if_true]
    rw [if_pos (by omega)]
   ·simp only [hjo,if_false]
    exact hj
  obtain ⟨k',e0,e1,e2,e3,e4,ef,e5,e6⟩ := setL_row r { k with cells := k.cells.set off v } (off + 1) (cs.set off v) (by simpa using h1) hget (by simp; omega) h4.2
  exact ⟨k',e0,e1,e2,e3,e4,ef.trans hfm,e5,e6⟩
theorem stN {L : List HP} {H : CH} {b off : Nat} {cs vs : List Value} {F : List Value→List HP} {K : CH→Prop} (hs : Sat L H) [i : HasObj L b cs F] (hv : off + vs.length ≤ cs.length) (hc : vs.all isCell = true)
  (k : ∀ H1,Sat (F (ovw vs cs off)) H1→K H1) : St H b off vs K := by
 obtain ⟨x,g1,g2,g3,gf,g4,g5,g6⟩ := i.get _ hs
 obtain ⟨hb,g1'⟩ := dom_some g1
 obtain ⟨k',e0,e1,e2,e3,e4,ef,e5,e6⟩ := setL_row vs x off cs g4 g5 hv hc
 refine ⟨?_⟩
 unfold CH.storeL CH.live
 simp only [g1',g3,cond_false,g2,cond_true,e0]
 refine k _ (g6 _ k' _ e1 e2 (e3.trans g2) (e4.trans g3) (ef.trans gf) e5 e6 ?_ (fun z hz => ?_))
 ·unfold dom
  simp only
  rw [if_pos hb,M.get_set,if_pos rfl]
 ·unfold dom
  simp only
  rw [M.get_set,if_neg (fun h : b = z => hz h.symm)]
theorem st {L : List HP} {H : CH} {b off : Nat} {cs : List Value} {v : Value} {F : List Value→List HP} {K : CH→Prop} (hs : Sat L H) [HasObj L b cs F] (hv : off < cs.length) (hc : isCell v = true)
  (k : ∀ H1,Sat (F (cs.set off v)) H1→K H1) : St H b off [v] K :=
 stN hs (by show off + 1 ≤ cs.length; omega) (by simp [hc]) (fun H1 h => k H1 (by
  have e : ovw [v] cs off = setN cs v off := rfl
  rw [e,setN_eq] at h; exact h))
theorem stB {L : List HP} {H : CH} {b off : Nat} {cs : List Value} {v : Value} {F : List Value→List HP} {K : CH→Prop} (hs : Sat L H) [HasObj L b cs F] (hv : Nat.blt off cs.length = true) (hc : isCell v = true)
  (k : ∀ H1,Sat (F (cs.set off v)) H1→K H1) : St H b off [v] K := st hs (blt_iff.1 hv) hc k
theorem sat_new {L : List HP} {H : CH} {k : Blk} {A : HP} (hs : Sat L H) (ha : A (fun x => if x = H.next then some k else none)) : Sat (A::L) (H.new k) := by
 refine ⟨_,dom H,fun x q hq => ?_,fun x q hq => ?_,fun x q1 q2 hq1 hq2 => ?_,ha,hs⟩
 ·split at hq
  ·rename_i hx; subst hx; cases hq
   unfold dom
   rw [if_pos (show H.next < (H.new k).next from Nat.lt_succ_self _),CH.new_get,if_pos rfl]
  ·cases hq
 ·obtain ⟨h1,h2⟩ := dom_some hq
  unfold dom
  rw [if_pos (show x < (H.new k).next from Nat.lt_succ_of_lt h1),CH.new_get,if_neg (by omega)]
  exact h2
 ·split at hq1
  ·rename_i hx; subst hx
   obtain ⟨h1,_⟩ := dom_some hq2
   omega
  ·cases hq1
theorem mkRow_get (e s : Nat) (cs : List Value) (j : Nat) : (mkRow e s cs).get j = cs[j]? := by
 unfold Blk.get mkRow
 simp only
 by_cases h : j < cs.length
 ·rw [blt_iff.2 h]
  simp only [cond_true,M.get,T.get]
  exact nthF_eq cs j
 ·rw [show Nat.blt j cs.length = false from by cases hb : Nat.blt j cs.length with | false => rfl | true => exact absurd (blt_iff.1 hb) h]
  simp only [cond_false]
  rw [List.getElem?_eq_none (by omega)]
theorem nwR {L : List HP} {H : CH} {e s : Nat} {cs : List Value} {K : Nat→CH→Prop} (hs : Sat L H) (k : ∀ b H1,Sat (Row b e s true cs::L) H1→K b H1) : Nw H (mkRow e s cs) K :=
 ⟨k _ _ (sat_new hs ⟨mkRow e s cs,by simp,rfl,rfl,rfl,rfl,rfl,rfl,mkRow_get e s cs⟩)⟩
theorem nw {L : List HP} {H : CH} {e s : Nat} {cs : List Value} {K : Nat→CH→Prop} (hs : Sat L H) (k : ∀ b H1,Sat (Own b cs::L) H1→K b H1) : Nw H (mkRow e s cs) K :=
 nwR hs fun b H1 h => k b H1 (h.imp fun _ r => r.obj)
theorem AsBool.mk {b : Bool} {K : Bool→Prop} (k : K b) : AsBool (.bool b) K := k
theorem AsNat.mk {k : IntKind} {n : Nat} {K : Nat→Prop} (h : K n) : AsNat k (.int k (Int.ofNat n)) K := by
 show Bool.rec (motive := fun _ => Prop) False (K n) (kindEq k k)
 rw [kindEq_eq,decide_eq_true rfl]; exact h
theorem AsInt.mk {k : IntKind} {z : Int} {K : Int→Prop} (h : K z) : AsInt k (.int k z) K := by
 show Bool.rec (motive := fun _ => Prop) False (K z) (kindEq k k)
 rw [kindEq_eq,decide_eq_true rfl]; exact h
theorem AsCnt.mk {k : IntKind} {n : Nat} {K : Nat→Prop} (h : K n) : AsCnt (.int k (Int.ofNat n)) K := h
theorem AsPtr.mk {b o : Nat} {K : Nat→Nat→Prop} (h : K b o) : AsPtr (ptr b o) K := h
theorem AsSlc.mk {b o l c : Nat} {K : Nat→Nat→Nat→Nat→Prop} (h : K b o l c) : AsSlc (.slice (some ⟨b,o,none⟩) l c) K := h
theorem AsLen.mk {p : Option Addr} {l c : Nat} {K : Nat→Prop} (h : K l) : AsLen (.slice p l c) K := h
theorem AsAgg.mk {cs : List Value} {K : List Value→Prop} (h : K cs) : AsAgg (.agg ⟨cs⟩) K := h
theorem AsTup.mk {cs : List Value} {K : List Value→Prop} (h : K cs) : AsTup (.tuple ⟨cs⟩) K := h
theorem AsFn.mk {g : Nat} {a b : List Value} {K : Nat→List Value→List Value→Prop} (h : K g a b) : AsFn (.func (.func g) ⟨a⟩ ⟨b⟩) K := h
theorem Nth.mk {l : List Value} {i : Nat} {v : Value} {K : Value→Prop} (hv : l[i]? = some v) (h : K v) : Nth l i K := by
 unfold Nth; rw [nthF_eq,hv]; exact h
theorem Must.mk {p : Bool} {K : Prop} (hp : p = true) (h : K) : Must p K := by rw [hp]; exact h
theorem Sc.mk {v : Value} {K : Prop} (hv : isCell v = true) (h : K) : Sc v K := by
 have e : isCellF v = isCell v := by cases v <;> rfl
 unfold Sc; rw [e,hv]; exact h
theorem NotNil.ptr {b o : Nat} {K : Prop} (h : K) : NotNil P (ptr b o) K := h
theorem NotNil.ifc {t : Nat} {v : Value} {K : Prop} (h : K) : NotNil P (.iface t v) K := h
theorem NotNil.fnc {g : Nat} {a b : Array Value} {K : Prop} (h : K) : NotNil P (.func (.func g) a b) K := h
theorem IsNil.ptr {b o : Nat} {K : Bool→Prop} (h : K false) : IsNil .ptr (ptr b o) K := h
theorem IsNil.ptr0 {K : Bool→Prop} (h : K true) : IsNil .ptr (.pointer none) K := h
theorem IsNil.slc {a : Addr} {l c : Nat} {K : Bool→Prop} (h : K false) : IsNil .slc (.slice (some a) l c) K := h
theorem IsNil.slc0 {l c : Nat} {K : Bool→Prop} (h : K true) : IsNil .slc (.slice none l c) K := h
theorem IsNil.ifc {t : Nat} {v : Value} {K : Bool→Prop} (h : K false) : IsNil .ifc (.iface t v) K := h
theorem IsNil.ifc0 {K : Bool→Prop} (h : K true) : IsNil .ifc .nilIface K := h
theorem Cd.t {b : Bool} {p q : Prop} (hb : b = true) (h : p) : Cd b p q := by subst hb; exact h
theorem Cd.f {b : Bool} {p q : Prop} (hb : b = false) (h : q) : Cd b p q := by subst hb; exact h
theorem Cd.of {b : Bool} {p q : Prop} (h1 : b = true→p) (h2 : b = false→q) : Cd b p q := by cases b; exact h2 rfl; exact h1 rfl
theorem AsWant.mk {b : Bool} {K0 : Prop} {K : Bool→Prop} (h : K b) : AsWant (.bool b) K0 K := h
theorem AsStr.mk {s : ByteArray} {K : ByteArray→Prop} (h : K s) : AsStr (.string s) K := h
theorem Mth.of {t : Nat} {x : Value} {name : String} {f : FuncId} {rc : Value} {args : List Value} {H : CH} {K : KP} (h : cmethod P t x name = some (f,rc)) (hf : isFunT P f = true) (k : Call1 P con f (rc::args) H K) : Mth P con (.iface t x) name args H K := by
 refine ⟨?_⟩
 show (match cmethod P t x name with | some r => Must (isFunT P r.1) (Ev P con r.1 (r.2::args) H K) | none => False)
 rw [h]
 exact Must.mk hf k.get
theorem call_of {f : FuncId} {args : List Value} {H : CH} {K : KP} (hc : con f ⟨args⟩ H = none) (h : funW P con f args H K) : Call1 P con f args H K := ⟨funW_ok hc h⟩
end Go.CM

namespace Go.CM
open Go
variable {P : Program} {con : CallT}
theorem flat_len {s : Nat} : ∀ {l : List (List Value)},(∀ r ∈ l,r.length = s)→l.flatten.length = l.length * s
 | [],_ => by simp
 | r::l,h => by
  rw [List.flatten_cons,List.length_append,flat_len (fun x hx => h x (List.mem_cons_of_mem _ hx)),h r (List.mem_cons_self ..),List.length_cons,Nat.succ_mul,Nat.add_comm]
theorem flat_get {s : Nat} : ∀ {l : List (List Value)},(∀ r ∈ l,r.length = s)→∀ (i j : Nat) (r : List Value),l[i]? = some r→j < s→l.flatten[i * s + j]? = r[j]?
 | [],_,i,j,r,hi,_ => by cases hi
 | r'::l,h,0,j,r,hi,hj => by
  simp only [List.getElem?_cons_zero,Option.some.injEq] at hi
  subst hi
  rw [List.flatten_cons,Nat.zero_mul,Nat.zero_add,List.getElem?_append_left (by rw [h r' (List.mem_cons_self ..)]; exact hj)]
 | r'::l,h,i + 1,j,r,hi,hj => by
  have hr := h r' (List.mem_cons_self ..)
  rw [List.flatten_cons,Nat.succ_mul,List.getElem?_append_right (by omega),hr,show i * s + s + j - s = i * s + j by omega]
  exact flat_get (fun x hx => h x (List.mem_cons_of_mem _ hx)) i j r hi hj
theorem flat_set {s : Nat} : ∀ {l : List (List Value)},(∀ r ∈ l,r.length = s)→∀ (i j : Nat) (r : List Value) (v : Value),l[i]? = some r→j < s→l.flatten.set (i * s + j) v = (l.set i (r.set j v)).flatten
 | [],_,i,j,r,v,hi,_ => by cases hi
 | r'::l,h,0,j,r,v,hi,hj => by
  simp only [List.getElem?_cons_zero,Option.some.injEq] at hi
  subst hi
  rw [List.set_cons_zero,List.flatten_cons,List.flatten_cons,Nat.zero_mul,Nat.zero_add,List.set_append_left _ _ (by rw [h r' (List.mem_cons_self ..)]; exact hj)]
 | r'::l,h,i + 1,j,r,v,hi,hj => by
  have hr := h r' (List.mem_cons_self ..)
  rw [List.set_cons_succ,List.flatten_cons,List.flatten_cons,Nat.succ_mul,List.set_append_right _ _ (by omega),hr,show i * s + s + j - s = i * s + j by omega]
  rw [flat_set (fun x hx => h x (List.mem_cons_of_mem _ hx)) i j r v hi hj]
def Vec (x : Value) (e s : Nat) (l : List (List Value)) : HP := fun h => (∀ r ∈ l,r.length = s)∧((x = .slice none 0 0∧l = []) ∨ ∃ b,l ≠ []∧x = .slice (some ⟨b,0,none⟩) l.length l.length∧Row b e s true l.flatten h)
theorem Vec.nil {e s : Nat} (h : PH) : Vec (.slice none 0 0) e s [] h := ⟨(fun _ h => nomatch h),.inl ⟨rfl,rfl⟩⟩
def elemOk (P : Program) (t e s by_ : Nat) : Bool :=
 match P.underlying t with
 | some (.slice e') => Nat.beq e' e && (match P.info? e,zeroOf P e with | some i,some z => Nat.beq i.size s && (Nat.beq i.bytes by_ && (Nat.beq z.cells.size s && Nat.blt 0 s)) | _,_ => false)
 | _ => false
theorem elemOk.out {t e s by_ : Nat} (h : elemOk P t e s by_ = true) : P.underlying t = some (.slice e)∧(∃ i z,P.info? e = some i∧zeroOf P e = some z∧i.size = s∧i.bytes = by_∧z.cells.size = s)∧0 < s := by
 unfold elemOk at h
 split at h
 ·rename_i e' hu
  simp only [Bool.and_eq_true] at h
  obtain ⟨h1,h2⟩ := h
  obtain rfl := Nat.eq_of_beq_eq_true h1
  split at h2
  ·rename_i i z hi hz
   simp only [Bool.and_eq_true] at h2
   obtain ⟨g1,g2,g3,g4⟩ := h2
   exact ⟨hu,⟨i,z,hi,hz,Nat.eq_of_beq_eq_true g1,Nat.eq_of_beq_eq_true g2,Nat.eq_of_beq_eq_true g3⟩,blt_iff.1 g4⟩
  ·cases h2
 ·cases h
def Src (L : List HP) (p o : Nat) (new : List Value) : Prop := ∀ h,SatL L h→∃ k,h p = some k∧k.dead = false∧∀ j,j < new.length→k.get (o + j) = new[j]?
theorem Src.cell {L : List HP} {p o n : Nat} {ys new : List Value} [i : HasCell L p ys] (h : (ys.drop o).take n = new) : Src L p o new := fun h' a => by
 obtain ⟨k,h1,h2,h3,h4⟩ := i.get h' a
 refine ⟨k,h1,h2,fun j hj => ?_⟩
 rw [h4 (o + j),← h,List.getElem?_take]
 have : j < n := by rw [← h,List.length_take] at hj; omega
 rw [if_pos this,List.getElem?_drop]
theorem Src.skip {L : List HP} {A : HP} {p o : Nat} {new : List Value} (h : Src L p o new) : Src (A::L) p o new := fun g a => h g a.drop
theorem blkSrc {k : Blk} : ∀ (new : List Value) (o : Nat),(∀ j,j < new.length→k.get (o + j) = new[j]?)→k.list o new.length = some new
 | [],o,_ => rfl
 | v::r,o,h => by
  have h0 := h 0 (by simp)
  rw [Nat.add_zero,List.getElem?_cons_zero] at h0
  rw [List.length_cons,Blk.list,h0,blkSrc r (o + 1) (fun j hj => by
   have := h (j + 1) (by simp; omega)
   rw [List.getElem?_cons_succ] at this
   rw [show o + 1 + j = o + (j + 1) by omega]; exact this)]
theorem src_cells {L : List HP} {H : CH} {p o s n xl xc : Nat} {new : List Value} (hs : Sat L H) (hn : Src L p o new) (hl : new.length = n * s) : srcCells H s n (.slice (some ⟨p,o,none⟩) xl xc) = some new := by
 obtain ⟨k,h1,h2,h3⟩ := hn _ hs
 obtain ⟨_,h5⟩ := dom_some h1
 have hlive : H.live p = some k := by unfold CH.live; rw [h5]; simp only [h2,cond_false]
 unfold srcCells CH.list
 simp only [hlive]
 rw [← hl]
 exact blkSrc new o h3
theorem ldSrc {L : List HP} {H : CH} {p o off i : Nat} {new : List Value} {v : Value} {K : Value→Prop} (hs : Sat L H) (hn : Src L p o new) (ho : off = o + i) (hv : new[i]? = some v) (k : K v) : Ld H p off K := by
 obtain ⟨q,h1,h2,h3⟩ := hn _ hs
 obtain ⟨_,h5⟩ := dom_some h1
 refine ⟨?_⟩
 have hi : i < new.length := (List.getElem?_eq_some_iff.1 hv).1
 have e : H.cell p off = some v := by
  unfold CH.cell CH.live
  rw [h5]
  simp only [h2,cond_false]
  rw [ho,h3 i hi,hv]
 rw [e]
 exact k
theorem App.of {st xt : TypeId} {H H1 : CH} {x y v : Value} {K : KP} (h : cappend P H #[st,xt] #[x,y] = some (v,H1)) (k : K v H1) : App P st xt H x y K := by
 refine ⟨?_⟩; rw [h]; exact k
theorem capacity {by_ n : Nat} (hb : by_ ≤ 1000) (hn : n ≤ 1000000000) : Nat.ble ((2 * n + 1000) * by_) 281474976710656 = true := Nat.ble_eq_true_of_le (by
 have h1 : 2 * n + 1000 ≤ 2000001000 := by omega
 exact Nat.le_trans (Nat.mul_le_mul h1 hb) (by omega))
theorem grown_get {e s : Nat} {k : Blk} {off len xl : Nat} {new cs : List Value} (hk : ∀ j,k.get j = cs[j]?) (hl : len * s + off ≤ cs.length) (hn : new.length = xl * s) (j : Nat) :
  (grownRow e s k off len xl new).get j = ((cs.drop off).take (len * s)++new)[j]? := by
 have hlen : ((cs.drop off).take (len * s)).length = len * s := by rw [List.length_take,List.length_drop]; omega
 unfold Blk.get grownRow
 simp only [M.get,T.get]
 by_cases h : j < (len + xl) * s
 ·rw [blt_iff.2 h]
  simp only [cond_true]
  by_cases h2 : j < len * s
  ·rw [blt_iff.2 h2,cond_true,List.getElem?_append_left (by omega),List.getElem?_take,if_pos h2,List.getElem?_drop]
   have := hk (off + j)
   unfold Blk.get at this
   exact this
  ·rw [show Nat.blt j (len * s) = false from by cases hb : Nat.blt j (len * s) with | false => rfl | true => exact absurd (blt_iff.1 hb) h2]
   rw [cond_false,List.getElem?_append_right (by omega),hlen]
 ·rw [show Nat.blt j ((len + xl) * s) = false from by cases hb : Nat.blt j ((len + xl) * s) with | false => rfl | true => exact absurd (blt_iff.1 hb) h]
  simp only [cond_false]
  rw [List.getElem?_eq_none]
  rw [List.length_append,hlen,hn,← Nat.add_mul]
  omega
theorem fresh_get {e s xl : Nat} {new : List Value} (hn : new.length = xl * s) (j : Nat) : (freshRow e s xl new).get j = new[j]? := by
 unfold Blk.get freshRow
 simp only [M.get,T.get]
 by_cases h : j < xl * s
 ·rw [blt_iff.2 h]; rfl
 ·rw [show Nat.blt j (xl * s) = false from by cases hb : Nat.blt j (xl * s) with | false => rfl | true => exact absurd (blt_iff.1 hb) h,cond_false,List.getElem?_eq_none (by omega)]
theorem sat_dead {L : List HP} {H : CH} {b e s : Nat} {cs : List Value} (hs : Sat (Row b e s true cs::L) H) (k' : Blk) : Sat L { H with blks := H.blks.set b k' } := by
 obtain ⟨h1,h2,s1,s2,d,⟨k,k1,k2,k3,k4,k5,kf,k6,k7⟩,y⟩ := hs
 refine y.mono fun x q hq => ?_
 have hx : x ≠ b := by
  rintro rfl
  obtain ⟨_,w⟩ := d x k q k1 hq
  rw [k4] at w; cases w
 have := s2 x q hq
 unfold dom at this ⊢
 simp only
 rw [M.get_set,if_neg (fun h : b = x => hx h.symm)]
 exact this
theorem app_vec {L R : List HP} {H : CH} {st xt e s by_ p o xl xc : Nat} {x : Value} {l new : List (List Value)} {K : KP} (hs : Sat L H) (hp : Pull L (Vec x e s l) R) (ht : elemOk P st e s by_ = true) (hb : by_ ≤ 1000) (hxt : ∃ e',P.underlying xt = some (.slice e'))
  (hn : Src L p o new.flatten) (hxl : new.length = xl) (hnl : ∀ r ∈ new,r.length = s) (hlen : l.length + xl ≤ 1000000000) (hcell : new.flatten.all isCell = true)
  (k : ∀ v H1,Sat (Vec v e s (l++new)::R) H1→K v H1) : App P st xt H x (.slice (some ⟨p,o,none⟩) xl xc) K := by
 obtain ⟨hu,⟨i,z,hi,hz,h1,h2,h3⟩,hs0⟩ := elemOk.out ht
 obtain ⟨e',hu'⟩ := hxt
 obtain ⟨s,rfl⟩ : ∃ m,s = m + 1 := ⟨s - 1,by omega⟩
 have hfl : new.flatten.length = xl * (s + 1) := by rw [flat_len hnl,hxl]
 have hsrc : srcCells H (s + 1) xl (.slice (some ⟨p,o,none⟩) xl xc) = some new.flatten := src_cells hs hn hfl
 have hbeq : Nat.beq new.flatten.length (xl * (s + 1)) = true := by rw [hfl]; exact Nat.beq_refl _
 have hall : ∀ r ∈ l++new,r.length = s + 1→r.length = s + 1 := fun _ _ h => h
 have hzz : Nat.beq z.cells.size (s + 1) = true := by rw [h3]; exact Nat.beq_refl _
 obtain ⟨g1,g2,t1,t2,dj,⟨hl,hv⟩,hR⟩ := hp _ hs
 have hall : ∀ r ∈ l++new,r.length = s + 1 := fun r hr => by
  rcases List.mem_append.1 hr with h | h
  ·exact hl r h
  ·exact hnl r h
 rcases hv with ⟨rfl,rfl⟩ | ⟨b,hne,rfl,hrow⟩
 ·
  have hR' : Sat R H := hR.mono t2
  rcases Nat.eq_zero_or_pos xl with h0 | hpos
  ·subst h0
   have hnil : new = [] := List.eq_nil_of_length_eq_zero hxl
   subst hnil
   refine App.of (v := .slice none 0 0) (H1 := H) ?_ (k _ _ ⟨fun _ => none,dom H,(fun _ _ e => nomatch e),Subh.refl _,(fun _ _ _ e => nomatch e),Vec.nil _,hR'⟩)
   simp only [cappend,hu,hu',hi,hz,h1,hsrc,hbeq,cond_true,List.getElem?_toArray,List.getElem?_cons_zero,List.getElem?_cons_succ]
   rfl
  ·have hc1 : Nat.ble (0 + xl) 0 = false := by
    cases hb : Nat.ble (0 + xl) 0 with
    | false => rfl
    | true => have := Nat.le_of_ble_eq_true hb; omega
   have hcap : (Nat.ble ((2 * (0 + xl) + 1000) * i.bytes) 281474976710656 && Nat.beq z.cells.size (s + 1) && Nat.ble (0 + xl) 1152921504606846976) = true := by
    rw [h2,capacity hb (by omega),hzz,Nat.ble_eq_true_of_le (show 0 + xl ≤ 1152921504606846976 by omega)]; rfl
   refine App.of (v := .slice (some ⟨H.next,0,none⟩) xl xl) (H1 := H.new (freshRow e (s + 1) xl new.flatten)) ?_ (k _ _ ?_)
   ·simp only [cappend,hu,hu',hi,hz,h1,hsrc,hbeq,cond_true,List.getElem?_toArray,List.getElem?_cons_zero,List.getElem?_cons_succ,hc1,cond_false,hcap]
    rfl
   ·refine sat_new hR' ⟨by simpa using hall,.inr ⟨H.next,?_,by rw [List.nil_append,hxl],freshRow e (s + 1) xl new.flatten,by simp,rfl,rfl,rfl,rfl,rfl,?_,fun j => ?_⟩⟩
    ·intro h; rw [List.nil_append] at h; rw [h] at hxl; simp at hxl; omega
    ·show xl * (s + 1) = ([]++new).flatten.length
     rw [List.nil_append,hfl]
    ·rw [List.nil_append]; exact fresh_get hfl j
 ·have hpos : 0 < l.length := by cases l with | nil => exact absurd rfl hne | cons _ _ => simp
  have hflat : l.flatten.length = l.length * (s + 1) := flat_len hl
  rcases Nat.eq_zero_or_pos xl with h0 | hxpos
  ·subst h0
   have hnil : new = [] := List.eq_nil_of_length_eq_zero hxl
   subst hnil
   refine App.of (v := .slice (some ⟨b,0,none⟩) l.length l.length) (H1 := H) ?_ (k _ _ ?_)
   ·have hc1 : Nat.ble (l.length + 0) l.length = true := Nat.ble_eq_true_of_le (by omega)
    simp only [cappend,hu,hu',hi,hz,h1,hsrc,hbeq,cond_true,List.getElem?_toArray,List.getElem?_cons_zero,List.getElem?_cons_succ,hc1]
   ·rw [List.append_nil]
    exact ⟨g1,g2,t1,t2,dj,⟨hl,.inr ⟨b,hne,rfl,hrow⟩⟩,hR⟩
  ·have hc1 : Nat.ble (l.length + xl) l.length = false := by
    cases hb : Nat.ble (l.length + xl) l.length with
    | false => rfl
    | true => have := Nat.le_of_ble_eq_true hb; omega
   have hcap : (Nat.ble ((2 * (l.length + xl) + 1000) * i.bytes) 281474976710656 && Nat.beq z.cells.size (s + 1) && Nat.ble (l.length + xl) 1152921504606846976) = true := by
    rw [h2,capacity hb (by omega),hzz,Nat.ble_eq_true_of_le (show l.length + xl ≤ 1152921504606846976 by omega)]; rfl
   have hs' : Sat (Row b e (s + 1) true l.flatten::R) H := ⟨g1,g2,t1,t2,dj,hrow,hR⟩
   obtain ⟨k0,k1,k2,k3,k4,k5,kf,k6,k7⟩ := hrow
   obtain ⟨kn,kb⟩ := dom_some (t1 b k0 k1)
   have hlive : H.live b = some k0 := by unfold CH.live; rw [kb]; simp only [k5,cond_false]
   have hfm : fmBad k0 0 l.length = false := by
    unfold fmBad
    rw [k3,blt_iff.2 (by omega : 0 < s + 1),k6,hflat,Nat.zero_add,Nat.beq_refl]
    simp
   have hopen : (Nat.blt 0 k0.es && Nat.beq (0 + l.length * k0.es) k0.size) = true := by
    rw [k3,blt_iff.2 (by omega : 0 < s + 1),k6,hflat,Nat.zero_add,Nat.beq_refl]; rfl
   have hin : (Nat.beq k0.es (s + 1) && k0.wr && new.flatten.all isCell && Nat.beq k0.elem e) = true := by
    rw [k3,k4,hcell,k2,Nat.beq_refl,Nat.beq_refl]; rfl
   have hle : Nat.ble (0 + l.length * (s + 1)) k0.size = true := by rw [k6,hflat]; exact Nat.ble_eq_true_of_le (by omega)
   refine App.of (v := .slice (some ⟨H.next,0,none⟩) (l.length + xl) (l.length + xl)) (H1 := ({ H with blks := H.blks.set b { k0 with dead := true } } : CH).new (grownRow e (s + 1) k0 0 l.length xl new.flatten)) ?_ (k _ _ ?_)
   ·simp only [cappend,hu,hu',hi,hz,h1,hsrc,hbeq,cond_true,List.getElem?_toArray,List.getElem?_cons_zero,List.getElem?_cons_succ,hc1,cond_false,hcap,hlive,hfm,hle,hopen,hin]
   ·refine sat_new (sat_dead hs' { k0 with dead := true }) ⟨hall,.inr ⟨H.next,by simp [hne],by rw [List.length_append,hxl],grownRow e (s + 1) k0 0 l.length xl new.flatten,by simp,rfl,rfl,rfl,rfl,rfl,?_,fun j => ?_⟩⟩
    ·show (l.length + xl) * (s + 1) = (l++new).flatten.length
     rw [flat_len hall,List.length_append,hxl]
    ·rw [grown_get k7 (by rw [hflat]; omega) hfl j,List.drop_zero,List.flatten_append,List.take_of_length_le (by rw [hflat]; exact Nat.le_refl _)]
theorem app_clone {L : List HP} {H : CH} {st xt e s by_ b p o xl xc : Nat} {new : List (List Value)} {K : KP} (hs : Sat (Row b e 0 true []::L) H) (ht : elemOk P st e s by_ = true) (hb : by_ ≤ 1000) (hxt : ∃ e',P.underlying xt = some (.slice e'))
  (hn : Src L p o new.flatten) (hxl : new.length = xl) (hnl : ∀ r ∈ new,r.length = s) (hlen : xl ≤ 1000000000) (hpos : 0 < xl)
  (k : ∀ v H1,Sat (Vec v e s new::L) H1→K v H1) : App P st xt H (.slice (some ⟨b,0,none⟩) 0 0) (.slice (some ⟨p,o,none⟩) xl xc) K := by
 obtain ⟨hu,⟨i,z,hi,hz,h1,h2,h3⟩,hs0⟩ := elemOk.out ht
 obtain ⟨e',hu'⟩ := hxt
 obtain ⟨s,rfl⟩ : ∃ m,s = m + 1 := ⟨s - 1,by omega⟩
 have hfl : new.flatten.length = xl * (s + 1) := by rw [flat_len hnl,hxl]
 have hL : Sat L H := hs.drop
 have hsrc : srcCells H (s + 1) xl (.slice (some ⟨p,o,none⟩) xl xc) = some new.flatten := src_cells hL hn hfl
 have hbeq : Nat.beq new.flatten.length (xl * (s + 1)) = true := by rw [hfl]; exact Nat.beq_refl _
 have hzz : Nat.beq z.cells.size (s + 1) = true := by rw [h3]; exact Nat.beq_refl _
 have hc1 : Nat.ble (0 + xl) 0 = false := by
  cases hb : Nat.ble (0 + xl) 0 with
  | false => rfl
  | true => have := Nat.le_of_ble_eq_true hb; omega
 have hcap : (Nat.ble ((2 * (0 + xl) + 1000) * i.bytes) 281474976710656 && Nat.beq z.cells.size (s + 1) && Nat.ble (0 + xl) 1152921504606846976) = true := by
  rw [h2,capacity hb (by omega),hzz,Nat.ble_eq_true_of_le (show 0 + xl ≤ 1152921504606846976 by omega)]; rfl
 obtain ⟨g1,g2,t1,t2,dj,⟨k0,k1,k2,k3,k4,k5,kf,k6,k7⟩,hR⟩ := hs
 obtain ⟨kn,kb⟩ := dom_some (t1 b k0 k1)
 have hlive : H.live b = some k0 := by unfold CH.live; rw [kb]; simp only [k5,cond_false]
 have hfm : fmBad k0 0 0 = false := by unfold fmBad; rw [kf]; rfl
 have hopen : (Nat.blt 0 k0.es && Nat.beq (0 + 0 * k0.es) k0.size) = false := by rw [k3]; rfl
 have hle : Nat.ble (0 + 0 * (s + 1)) k0.size = true := by rw [Nat.zero_mul]; exact Nat.ble_eq_true_of_le (Nat.zero_le _)
 refine App.of (v := .slice (some ⟨H.next,0,none⟩) (0 + xl) (0 + xl)) (H1 := H.new (grownRow e (s + 1) k0 0 0 xl new.flatten)) ?_ (k _ _ ?_)
 ·simp only [cappend,hu,hu',hi,hz,h1,hsrc,hbeq,cond_true,List.getElem?_toArray,List.getElem?_cons_zero,List.getElem?_cons_succ,hc1,cond_false,hcap,hlive,hfm,hle,hopen]
 ·refine sat_new hL ⟨hnl,.inr ⟨H.next,?_,by rw [hxl,Nat.zero_add],grownRow e (s + 1) k0 0 0 xl new.flatten,by simp,rfl,rfl,rfl,rfl,rfl,?_,fun j => ?_⟩⟩
  ·intro h; rw [h] at hxl; simp at hxl; omega
  ·show (0 + xl) * (s + 1) = new.flatten.length
   rw [hfl,Nat.zero_add]
  ·rw [grown_get k7 (by simp) hfl j,Nat.zero_mul,List.take_zero,List.nil_append]
theorem app_none {L : List HP} {H : CH} {st xt e s by_ b p o xc : Nat} {K : KP} (hs : Sat L H) (ht : elemOk P st e s by_ = true) (hxt : ∃ e',P.underlying xt = some (.slice e'))
  (hn : Src L p o []) (k : K (.slice (some ⟨b,0,none⟩) 0 0) H) : App P st xt H (.slice (some ⟨b,0,none⟩) 0 0) (.slice (some ⟨p,o,none⟩) 0 xc) K := by
 obtain ⟨hu,⟨i,z,hi,hz,h1,h2,h3⟩,hs0⟩ := elemOk.out ht
 obtain ⟨e',hu'⟩ := hxt
 obtain ⟨s,rfl⟩ : ∃ m,s = m + 1 := ⟨s - 1,by omega⟩
 have hsrc : srcCells H (s + 1) 0 (.slice (some ⟨p,o,none⟩) 0 xc) = some [] := src_cells hs hn (by rw [Nat.zero_mul]; rfl)
 have hbeq : Nat.beq ([] : List Value).length (0 * (s + 1)) = true := by rw [Nat.zero_mul]; rfl
 refine App.of ?_ k
 simp only [cappend,hu,hu',hi,hz,h1,hsrc,hbeq,cond_true,List.getElem?_toArray,List.getElem?_cons_zero,List.getElem?_cons_succ]
 rfl
theorem slcR {L : List HP} {H : CH} {t e s by_ b n m lo : Nat} {w : Bool} {cs : List Value} {k' : IntKind} {K : Value→Prop} (hs : Sat (Row b e 0 w cs::L) H) (ht : elemOk P t e s by_ = true) (h1 : lo ≤ n) (h2 : n ≤ m)
  (k : ∀ o,(lo < m→o = lo * s)→K (.slice (some ⟨b,o,none⟩) (n - lo) (m - lo))) : Slc P H t (.slice (some ⟨b,0,none⟩) n m) (some (.int k' (Int.ofNat lo))) none none K := by
 obtain ⟨hu,⟨i,z,hi,hz,g1,g2,g3⟩,hs0⟩ := elemOk.out ht
 obtain ⟨s,rfl⟩ : ∃ x,s = x + 1 := ⟨s - 1,by omega⟩
 obtain ⟨q1,q2,t1,t2,dj,⟨k0,k1,k2,k3,k4,k5,kf,k6,k7⟩,hR⟩ := hs
 obtain ⟨kn,kb⟩ := dom_some (t1 b k0 k1)
 have hsz : szOf P e = some (s + 1) := by unfold szOf; rw [hi]; simp [g1]
 have hop : open? H b 0 m (s + 1) = some false := by
  unfold open? CH.blk
  rw [kb]
  simp only [k3]
  rfl
 have hbd : cbounds n m (some (.int k' (Int.ofNat lo))) none none = some (lo,n,m) := by
  unfold cbounds cbound
  simp only
  rw [if_pos ⟨Int.natCast_nonneg lo,by show (lo : Int) ≤ (n : Int); omega⟩]
  rfl
 refine ⟨?_⟩
 unfold cslice
 simp only [hu,hbd,hsz,Nat.ble_eq_true_of_le h2,cond_true,hop,Bool.not_false,Bool.and_true]
 cases hm : Nat.beq m lo with
 | true =>
  obtain rfl := Nat.eq_of_beq_eq_true hm
  exact k 0 (fun h => absurd h (Nat.lt_irrefl _))
 | false =>
  have := k (0 + lo * (s + 1)) (fun _ => Nat.zero_add _)
  exact this
theorem cpy {L : List HP} {H : CH} {t e s by_ b o dl dc p o' xl xc n : Nat} {cs new : List Value} {F : List Value→List HP} {K : KP} (hs : Sat L H) (ht : elemOk P t e s by_ = true) [HasObj L b cs F] (hn : Nat.min xl dl = n)
  (hsrc : Src L p o' new) (hlen : new.length = n * s) (ho : o + n * s ≤ cs.length) (hc : new.all isCell = true)
  (k : ∀ H1,Sat (F (ovw new cs o)) H1→K (.int .i64 (Int.ofNat n)) H1) : Cpy P t H (.slice (some ⟨b,o,none⟩) dl dc) (.slice (some ⟨p,o',none⟩) xl xc) K := by
 obtain ⟨hu,⟨i,z,hi,hz,g1,g2,g3⟩,hs0⟩ := elemOk.out ht
 have hsz : szOf P e = some s := by unfold szOf; rw [hi]; simp [g1]
 have h1 := src_cells (p := p) (xl := xl) (xc := xc) hs hsrc hlen
 have h2 : St H b o new (fun H1 => K (.int .i64 (Int.ofNat n)) H1) := stN hs (by rw [hlen]; exact ho) hc k
 obtain ⟨H1,h3,h4⟩ := h2.out
 refine ⟨?_⟩
 have e1 : ccopy P H #[t] #[.slice (some ⟨b,o,none⟩) dl dc,.slice (some ⟨p,o',none⟩) xl xc] = some (.int .i64 (Int.ofNat n),H1) := by
  simp only [ccopy,hu,hsz,List.getElem?_toArray,List.getElem?_cons_zero,List.getElem?_cons_succ,Option.getD_some,hn,h1,h3]
  rfl
 rw [e1]
 exact h4
theorem mkS {L : List HP} {H : CH} {t e s by_ n m : Nat} {z : List Value} {K : KP} (hs : Sat L H) (ht : elemOk P t e s by_ = true) (hz : (zeroOf P e).map cellsF = some z) (hnm : n ≤ m) (hm : by_ * m ≤ 281474976710656) (hm2 : m ≤ 281474976710656)
  (k : ∀ b H1,Sat (Row b e 0 true (List.replicate m z).flatten::L) H1→K (.slice (some ⟨b,0,none⟩) n m) H1) : MkS P H t (.int .i64 (Int.ofNat n)) (.int .i64 (Int.ofNat m)) K := by
 obtain ⟨hu,⟨i,zv,hi,hz',h1,h2,h3⟩,hs0⟩ := elemOk.out ht
 rw [hz'] at hz
 simp only [Option.map_some,cellsF_eq,Option.some.injEq] at hz
 have hzl : z.length = s := by rw [← hz,Array.length_toList,h3]
 have e1 : cmakeSlice P H t (.int .i64 (Int.ofNat n)) (.int .i64 (Int.ofNat m)) = some (.slice (some ⟨H.next,0,none⟩) n m,H.new (zerosBlk e zv.cells m)) := by
  unfold cmakeSlice
  simp only [hu,hi,hz']
  have hbm : (by_ : Int) * (m : Int) ≤ limit := by
   have h0 : ((by_ * m : Nat) : Int) ≤ ((281474976710656 : Nat) : Int) := Int.ofNat_le.2 hm
   rw [Int.natCast_mul] at h0
   exact h0
  rw [if_pos ⟨Int.natCast_nonneg n,by show (n : Int) ≤ (m : Int); omega,by show (m : Int) ≤ _; omega,by rw [h2]; exact hbm,by rw [h1,h3],by omega⟩]
  rfl
 refine ⟨?_⟩
 rw [e1]
 refine k _ _ (sat_new hs ⟨zerosBlk e zv.cells m,by simp,rfl,rfl,rfl,rfl,rfl,?_,fun j => ?_⟩)
 ·show m * zv.cells.size = _
  rw [flat_len (s := s) (fun r hr => by rw [List.eq_of_mem_replicate hr,hzl]),List.length_replicate,h3]
 ·unfold Blk.get zerosBlk
  simp only [M.get,T.get]
  have hrl : ∀ r ∈ List.replicate m z,r.length = s := fun r hr => by rw [List.eq_of_mem_replicate hr,hzl]
  by_cases hj : j < m * zv.cells.size
  ·rw [blt_iff.2 hj,cond_true]
   rw [h3] at hj
   have hd : j / s < m := (Nat.div_lt_iff_lt_mul hs0).2 hj
   have := flat_get hrl (j / s) (j % s) z (by rw [List.getElem?_replicate,if_pos hd]) (Nat.mod_lt _ hs0)
   rw [Nat.mul_comm,Nat.div_add_mod] at this
   rw [this,h3,← hz,Array.getElem?_toList]
  ·rw [show Nat.blt j (m * zv.cells.size) = false from by cases hb : Nat.blt j (m * zv.cells.size) with | false => rfl | true => exact absurd (blt_iff.1 hb) hj,cond_false]
   rw [List.getElem?_eq_none]
   rw [flat_len hrl,List.length_replicate,← h3]; omega
end Go.CM

namespace Go.CM
open Go
variable {P : Program} {con : CallT}
def Con (con : CallT) (lv : List Nat) : Prop := ∀ f args H,memF f lv = false→con f args H = none
theorem Sat.opens {L R : List HP} {H : CH} {A : HP} (hs : Sat L H) (hp : Pull L A R) : ∃ h1 h2,Subh h1 (dom H)∧Subh h2 (dom H)∧Dj h1 h2∧A h1∧SatL R h2 := hp _ hs
theorem Sat.merge {L1 L2 : List HP} {H : CH} {h1 h2 : PH} (s1 : Subh h1 (dom H)) (s2 : Subh h2 (dom H)) (d : Dj h1 h2) (a : SatL L1 h1) (b : SatL L2 h2) : Sat (L1++L2) H := SatL.merge s1 s2 d a b
theorem Sat.close {A : HP} {L1 L2 : List HP} {H : CH} (a : Sat (L1++L2) H) (f : ∀ g,SatL L1 g→A g) : Sat (A::L2) H := SatL.close a f
theorem Sat.pull {L R : List HP} {H : CH} {A : HP} (hs : Sat L H) (hp : Pull L A R) : Sat (A::R) H := hp _ hs
theorem Sat.takes {L R As : List HP} {H : CH} (hs : Sat L H) (hp : Takes L As R) : Sat (As++R) H := hp _ hs
structure Acs where
 th : Int
 kind : Nat
 a : Nat
 x : Nat
 y : Nat
 vals : List Nat
 got : Nat
 ok : Bool
def encA (c : Acs) (v : Value) : List Value := [i64 c.th,u8 c.kind,u64 c.a,u64 c.x,u64 c.y,v,u64 c.got,.bool c.ok]
def Nums (v : Value) (l : List Nat) : HP := fun h => (v = snil∧l = []) ∨ ∃ b o c e s w cs,v = slc b o l.length c∧l.length ≤ c∧o + l.length ≤ cs.length∧(cs.drop o).take l.length = l.map u64∧Row b e s w cs h
theorem Row.mono {b e s : Nat} {w : Bool} {cs : List Value} {h g : PH} (a : Row b e s w cs h) (t : Subh h g) : Row b e s w cs g := by
 obtain ⟨k,k1,r⟩ := a
 exact ⟨k,t b k k1,r⟩
theorem Nums.mono {v : Value} {l : List Nat} {h g : PH} (a : Nums v l h) (t : Subh h g) : Nums v l g := by
 rcases a with a | ⟨b,o,c,e,s,w,cs,h1,h2,h3,h4,h5⟩
 ·exact .inl a
 ·exact .inr ⟨b,o,c,e,s,w,cs,h1,h2,h3,h4,h5.mono t⟩
theorem Vec.mono {x : Value} {e s : Nat} {l : List (List Value)} {h g : PH} (a : Vec x e s l h) (t : Subh h g) : Vec x e s l g := by
 obtain ⟨a1,a2 | ⟨b,h1,h2,h3⟩⟩ := a
 ·exact ⟨a1,.inl a2⟩
 ·exact ⟨a1,.inr ⟨b,h1,h2,h3.mono t⟩⟩
def Has (L : List HP) (A : HP) : Prop := ∀ h,SatL L h→A h
theorem Has.here {A : HP} {L : List HP} (m : ∀ {g h : PH},A g→Subh g h→A h) : Has (A::L) A := fun h a => by
 obtain ⟨h1,h2,s1,s2,d,x,y⟩ := a
 exact m x s1
theorem Has.skip {A B : HP} {L : List HP} (h : Has L A) : Has (B::L) A := fun g a => h g a.drop
theorem Sat.has {L : List HP} {H : CH} {A : HP} (hs : Sat L H) (h : Has L A) : A (dom H) := h _ hs
theorem Has.nums {v : Value} {l : List Nat} {L : List HP} : Has (Nums v l::L) (Nums v l) := Has.here fun a s => a.mono s
theorem Has.ent {L R : List HP} {A : HP} (q : Ent L R) (h : Has R A) : Has L A := fun g a => h g (q g a)
theorem SatL.one {A : HP} {h : PH} (a : A h) : SatL [A] h := ⟨h,fun _ => none,Subh.refl _,(fun _ _ e => nomatch e),(fun _ _ _ _ e => nomatch e),a,trivial⟩
theorem SatL.head {A : HP} {L : List HP} {h : PH} (a : SatL (A::L) h) (m : ∀ g,A g→Subh g h→A h) : A h := by
 obtain ⟨h1,h2,s1,s2,d,x,y⟩ := a
 exact m h1 x s1
def valsL (l : List Acs) (vs : List Value) : List HP := List.zipWith (fun a v => Nums v a.vals) l vs
def TrAt (x : Value) (e : Nat) (l : List Acs) : HP := fun h => ∃ vs : List Value,vs.length = l.length∧SatL (Vec x e 8 (List.zipWith encA l vs)::valsL l vs) h
theorem Vec.shape {x : Value} {e s : Nat} {l : List (List Value)} {h : PH} (a : Vec x e s l h) : ∃ p,x = .slice p l.length l.length := by
 rcases a.2 with ⟨rfl,rfl⟩ | ⟨b,_,rfl,_⟩
 ·exact ⟨none,rfl⟩
 ·exact ⟨_,rfl⟩
theorem Sat.nil {L : List HP} {H : CH} (hs : Sat L H) : Sat (Nums snil []::L) H := ⟨fun _ => none,dom H,(fun _ _ e => nomatch e),Subh.refl _,(fun _ _ _ e => nomatch e),.inl ⟨rfl,rfl⟩,hs⟩
theorem TrAt.nil {e : Nat} {h : PH} : TrAt snil e [] h := ⟨[],rfl,SatL.one (Vec.nil h)⟩
theorem Sat.nilV {L : List HP} {H : CH} {e s : Nat} (hs : Sat L H) : Sat (Vec snil e s []::L) H := ⟨fun _ => none,dom H,(fun _ _ e => nomatch e),Subh.refl _,(fun _ _ _ e => nomatch e),Vec.nil _,hs⟩
theorem Sat.nilT {L : List HP} {H : CH} {e : Nat} (hs : Sat L H) : Sat (TrAt snil e []::L) H := ⟨fun _ => none,dom H,(fun _ _ e => nomatch e),Subh.refl _,(fun _ _ _ e => nomatch e),TrAt.nil,hs⟩
theorem TrAt.shape {x : Value} {e : Nat} {l : List Acs} {h : PH} (a : TrAt x e l h) : ∃ p,x = .slice p l.length l.length := by
 obtain ⟨vs,hl,h1,h2,s1,s2,d,hv,_⟩ := a
 obtain ⟨p,rfl⟩ := hv.shape
 exact ⟨p,by rw [List.length_zipWith,hl,Nat.min_self]⟩
theorem zip_snoc {α β γ : Type} (f : α→β→γ) {l : List α} {vs : List β} (h : vs.length = l.length) (a : α) (v : β) : List.zipWith f (l++[a]) (vs++[v]) = List.zipWith f l vs++[f a v] := by
 rw [List.zipWith_append h.symm]; rfl
theorem app_trace {L R R2 : List HP} {H : CH} {st xt e by_ p xc : Nat} {x v0 : Value} {l : List Acs} {c : Acs} {K : KP} (hs : Sat L H) (hp : Pull L (TrAt x e l) R) (hq : Pull R (Nums v0 c.vals) R2) (ht : elemOk P st e 8 by_ = true) (hb : by_ ≤ 1000) (hxt : ∃ e',P.underlying xt = some (.slice e'))
  [i : HasCell R2 p (encA c v0)] (hv : isCell v0 = true) (hlen : l.length < 1000000000)
  (k : ∀ q H1,Sat (TrAt (.slice q (l++[c]).length (l++[c]).length) e (l++[c])::R2) H1→K (.slice q (l++[c]).length (l++[c]).length) H1) : App P st xt H x (.slice (some ⟨p,0,none⟩) 1 xc) K := by
 obtain ⟨h1,h2,s1,s2,d,⟨vs,hvl,a⟩,hR⟩ := hs.opens hp
 have hs1 := Sat.merge s1 s2 d a (hq _ hR)
 simp only [List.cons_append] at hs1
 have hc : HasCell (valsL l vs++(Nums v0 c.vals::R2)) p (encA c v0) := ⟨fun h a => by
  obtain ⟨g1,g2,t1,t2,d2,b1,b2⟩ := a.split
  obtain ⟨k,k1,k2⟩ := i.get g2 b2.drop
  exact ⟨k,t2 p k k1,k2⟩⟩
 have hsk : HasCell (Vec x e 8 (List.zipWith encA l vs)::(valsL l vs++(Nums v0 c.vals::R2))) p (encA c v0) := HasCell.skip
 refine app_vec (new := [encA c v0]) hs1 Pull.here ht hb hxt (Src.cell (n := 8) (by rfl)) rfl (by simp [encA]) (by rw [List.length_zipWith,hvl,Nat.min_self]; omega) (by show ([encA c v0].flatten).all isCell = true; simp only [List.flatten_cons,List.flatten_nil,List.append_nil,encA,List.all_cons,List.all_nil,hv,Bool.and_true,Bool.true_and]; rfl) (fun v H1 hs2 => ?_)
 have e1 : List.zipWith encA l vs++[encA c v0] = List.zipWith encA (l++[c]) (vs++[v0]) := (zip_snoc encA hvl c v0).symm
 rw [e1] at hs2
 have e2 : valsL l vs++(Nums v0 c.vals::R2) = valsL (l++[c]) (vs++[v0])++R2 := by
  unfold valsL
  rw [zip_snoc _ hvl]
  simp
 rw [e2,← List.cons_append] at hs2
 have hs3 := hs2.close (A := TrAt v e (l++[c])) (fun g a => ⟨vs++[v0],by simp [hvl],a⟩)
 obtain ⟨g1,g2,t1,t2,d2,b1,b2⟩ := hs3
 obtain ⟨q,rfl⟩ := b1.shape
 exact k q H1 ⟨g1,g2,t1,t2,d2,b1,b2⟩
theorem Has.src {L : List HP} {v : Value} {l : List Nat} {b o n c : Nat} (h : Has L (Nums v l)) (hv : v = slc b o n c) : Src L b o (l.map u64) := fun g a => by
 rcases h g a with ⟨h1,_⟩ | ⟨b',o',c',e,s,w,cs,h1,h2,h3,h4,k,k1,k2,k3,k4,k5,kf,k6,k7⟩
 ·rw [hv] at h1; cases h1
 ·rw [hv] at h1
  cases h1
  refine ⟨k,k1,k5,fun j hj => ?_⟩
  rw [List.length_map] at hj
  rw [k7,← h4,List.getElem?_take,if_pos hj,List.getElem?_drop]
theorem Nums.shape {v : Value} {l : List Nat} {h : PH} (a : Nums v l h) : (v = snil∧l = []) ∨ ∃ b o c,v = slc b o l.length c := by
 rcases a with a | ⟨b,o,c,e,s,w,cs,h1,_⟩
 ·exact .inl a
 ·exact .inr ⟨b,o,c,h1⟩
theorem Nums.len {v : Value} {l : List Nat} {h : PH} (a : Nums v l h) : ∃ p c,v = .slice p l.length c := by
 rcases a.shape with ⟨rfl,rfl⟩ | ⟨b,o,c,rfl⟩
 ·exact ⟨none,0,rfl⟩
 ·exact ⟨_,_,rfl⟩
theorem flat1 (l : List Nat) : (l.map fun x => [u64 x]).flatten = l.map u64 := by
 induction l with
 | nil => rfl
 | cons a l ih => rw [List.map_cons,List.flatten_cons,ih]; rfl
theorem Vec.nums {v : Value} {e : Nat} {l : List Nat} {h : PH} (a : Vec v e 1 (l.map fun x => [u64 x]) h) : Nums v l h := by
 obtain ⟨a1,⟨rfl,a2⟩ | ⟨b,h1,h2,h3⟩⟩ := a
 ·exact .inl ⟨rfl,List.map_eq_nil_iff.1 a2⟩
 ·rw [flat1] at h3
  rw [List.length_map] at h2
  exact .inr ⟨b,0,l.length,e,1,true,l.map u64,h2,Nat.le_refl _,by simp,by rw [List.drop_zero,List.take_of_length_le (by simp)],h3⟩
theorem Has.vecSrc {L : List HP} {x : Value} {e s : Nat} {l : List (List Value)} {b n c : Nat} (h : Has L (Vec x e s l)) (hv : x = slc b 0 n c) : Src L b 0 l.flatten := fun g a => by
 obtain ⟨a1,⟨h1,_⟩ | ⟨b',h1,h2,k,k1,k2,k3,k4,k5,kf,k6,k7⟩⟩ := h g a
 ·rw [hv] at h1; cases h1
 ·rw [hv] at h2
  cases h2
  exact ⟨k,k1,k5,fun j hj => by rw [Nat.zero_add]; exact k7 j⟩
theorem Has.vec {x : Value} {e s : Nat} {l : List (List Value)} {L : List HP} : Has (Vec x e s l::L) (Vec x e s l) := Has.here fun a t => a.mono t
theorem Has.app {L R : List HP} {A : HP} (h : Has R A) : Has (L++R) A := by
 induction L with
 | nil => exact h
 | cons B L ih => exact Has.skip ih
theorem Has.vals {R : List HP} {c : Acs} {v : Value} : ∀ {l : List Acs} {vs : List Value} {i : Nat},l[i]? = some c→vs[i]? = some v→Has (valsL l vs++R) (Nums v c.vals)
 | [],_,i,hc,_ => by cases hc
 | a::l,[],i,_,hv => by cases hv
 | a::l,w::vs,0,hc,hv => by
  simp only [List.getElem?_cons_zero,Option.some.injEq] at hc hv
  subst hc; subst hv
  exact Has.nums
 | a::l,w::vs,i + 1,hc,hv => Has.skip (Has.vals (l := l) (vs := vs) (i := i) hc hv)
structure Mem where
 cells : List Nat
 free : Nat
 tr : List Acs
def Mem.peek (M : Mem) (a : Nat) : Nat := M.cells.getD a 0
def Mem.note (M : Mem) (c : Acs) : Mem := { M with tr := M.tr++[c] }
def Mem.put (M : Mem) (a x : Nat) : Mem := { M with cells := M.cells.set a x }
def accLd (th : Int) (a got : Nat) : Acs := { th,kind := 1,a,x := 0,y := 0,vals := [],got,ok := false }
def accSt (th : Int) (a x : Nat) : Acs := { th,kind := 2,a,x,y := 0,vals := [],got := 0,ok := false }
def accCas (th : Int) (a x y : Nat) (ok : Bool) : Acs := { th,kind := 3,a,x,y,vals := [],got := 0,ok }
def accNew (th : Int) (a : Nat) (vals : List Nat) : Acs := { th,kind := 5,a,x := 0,y := 0,vals,got := 0,ok := false }
def Mem.load (M : Mem) (th : Int) (a : Nat) : Mem := M.note (accLd th a (M.peek a))
def Mem.store (M : Mem) (th : Int) (a x : Nat) : Mem := (M.put a x).note (accSt th a x)
def Mem.swaps (M : Mem) (a x : Nat) : Bool := decide (a < M.cells.length) && decide (M.peek a = x)
def Mem.cas (M : Mem) (th : Int) (a x y : Nat) : Mem := (if M.swaps a x then M.put a y else M).note (accCas th a x y (M.swaps a x))
def Mem.room (M : Mem) (vals : List Nat) : Nat := if 0 < vals.length∧vals.length ≤ M.cells.length - M.free then M.free else 0
def ovN : List Nat→List Nat→Nat→List Nat
 | [],cs,_ => cs
 | x::r,cs,o => ovN r (cs.set o x) (o + 1)
def Mem.alloc (M : Mem) (th : Int) (vals : List Nat) : Mem :=
 (if 0 < vals.length∧vals.length ≤ M.cells.length - M.free then { M with cells := ovN vals M.cells M.free,free := M.free + vals.length } else M).note (accNew th (M.room vals) vals)
theorem put_len (M : Mem) (a x : Nat) : (M.put a x).cells.length = M.cells.length := by simp [Mem.put]
theorem ovN_len : ∀ (v cs : List Nat) (o : Nat),(ovN v cs o).length = cs.length
 | [],_,_ => rfl
 | x::r,cs,o => by rw [ovN,ovN_len r]; simp
theorem ovw_map : ∀ (v cs : List Nat) (o : Nat),ovw (v.map u64) (cs.map u64) o = (ovN v cs o).map u64
 | [],cs,o => rfl
 | x::r,cs,o => by
  have e : ovw (u64 x::r.map u64) (cs.map u64) o = ovw (r.map u64) (setN (cs.map u64) (u64 x) o) (o + 1) := rfl
  rw [List.map_cons,e,setN_eq,← List.map_set,ovw_map r,ovN]
def MemAt (iP tA tU m : Nat) (M : Mem) : HP := fun h => ∃ bp bl tr,(M.cells.length ≤ 4194304∧M.free ≤ M.cells.length) ∧
 SatL [Own m [.iface iP (ptr bp 0),.bool false,tr],Own bp [slc bl 0 M.cells.length M.cells.length,iN M.free],Row bl tU 0 true (M.cells.map u64),TrAt tr tA M.tr] h
abbrev ViewAt (v m : Nat) (th : Int) (n : Nat) : HP := Own v [ptr m 0,i64 th,iN n]
def RefAt (tA tU m : Nat) (M : Mem) : HP := fun h => ∃ bl tr,(M.cells.length ≤ 4194304∧M.free ≤ M.cells.length) ∧
 SatL [Own m [slc bl 0 M.cells.length M.cells.length,iN M.free,tr,.bool false],Row bl tU 0 true (M.cells.map u64),TrAt tr tA M.tr] h
theorem ltN_t {a b : Nat} (h : a < b) : ltN a b = true := blt_iff.2 h
theorem ltN_f {a b : Nat} (h : b ≤ a) : ltN a b = false := by
 unfold ltN
 cases hb : Nat.blt a b with
 | false => rfl
 | true => exact absurd (blt_iff.1 hb) (by omega)
theorem leN_t {a b : Nat} (h : a ≤ b) : leN a b = true := Nat.ble_eq_true_of_le h
theorem leN_f {a b : Nat} (h : b < a) : leN a b = false := by
 unfold leN
 cases hb : Nat.ble a b with
 | false => rfl
 | true => exact absurd (Nat.le_of_ble_eq_true hb) (by omega)
theorem eqN_t {a b : Nat} (h : a = b) : eqN a b = true := by subst h; exact Nat.beq_refl _
theorem eqN_f {a b : Nat} (h : a ≠ b) : eqN a b = false := by
 unfold eqN
 cases hb : Nat.beq a b with
 | false => rfl
 | true => exact absurd (Nat.eq_of_beq_eq_true hb) h
theorem eqZ_self (z : Int) : eqZ z z = true := decide_eq_true rfl
theorem eqN_self (n : Nat) : eqN n n = true := eqN_t rfl
theorem eqZ_t {a b : Nat} (h : a = b) : eqZ (Int.ofNat a) (Int.ofNat b) = true := by subst h; exact eqZ_self _
theorem eqZ_f {a b : Nat} (h : a ≠ b) : eqZ (Int.ofNat a) (Int.ofNat b) = false := decide_eq_false (fun e => h (Int.ofNat.inj e))
theorem ltZ_t {a b : Nat} (h : a < b) : ltZ (Int.ofNat a) (Int.ofNat b) = true := decide_eq_true (Int.ofNat_lt.2 h)
theorem ltZ_f {a b : Nat} (h : b ≤ a) : ltZ (Int.ofNat a) (Int.ofNat b) = false := decide_eq_false (fun e => absurd (Int.ofNat_lt.1 e) (by omega))
theorem leZ_t {a b : Nat} (h : a ≤ b) : leZ (Int.ofNat a) (Int.ofNat b) = true := decide_eq_true (Int.ofNat_le.2 h)
theorem leZ_f {a b : Nat} (h : b < a) : leZ (Int.ofNat a) (Int.ofNat b) = false := decide_eq_false (fun e => absurd (Int.ofNat_le.1 e) (by omega))
theorem ltN_iff {a b : Nat} : ltN a b = true ↔ a < b := blt_iff
theorem wrapN_small {n : Nat} (h : n < 18446744073709551616) : wrapN .u64 (Int.ofNat n) = n := by
 unfold wrapN limK
 show Int.toNat ((n : Int) % ((18446744073709551616 : Nat) : Int)) = n
 rw [Int.emod_eq_of_lt (by omega) (by omega)]
 rfl
theorem cv_small {n : Nat} (h : n < 9223372036854775808) : cvOk .i64 (Int.ofNat n) = true := by
 show Nat.blt n (limA .i64) = true
 exact blt_iff.2 h
theorem inR_nat {n : Nat} {K : Prop} (h : n < 9223372036854775808) (k : K) : InR (Int.ofNat n) K := ⟨⟨by have : (0 : Int) ≤ Int.ofNat n := Int.natCast_nonneg n; omega,by show (n : Int) < _; omega⟩,k⟩
theorem Same.slc {p : Option Addr} {l c : Nat} {K : Prop} (k : K) : Same (.slice p l c) (.slice p l c) K := ⟨Must.mk (show (decide (p = p) && Nat.beq l l && Nat.beq c c) = true by rw [decide_eq_true rfl,Nat.beq_refl,Nat.beq_refl]; rfl) k⟩
theorem Same.ptr {b o : Nat} {K : Prop} (k : K) : Same (ptr b o) (ptr b o) K := ⟨Must.mk (show decide (some (⟨b,o,none⟩ : Addr) = some ⟨b,o,none⟩) = true from decide_eq_true rfl) k⟩
theorem Same.int {k : IntKind} {z : Int} {K : Prop} (h : K) : Same (.int k z) (.int k z) K := ⟨Must.mk (show (decide (k = k) && decide (z = z)) = true by rw [decide_eq_true rfl,decide_eq_true rfl]; rfl) h⟩
theorem Same.bool {b : Bool} {K : Prop} (h : K) : Same (.bool b) (.bool b) K := ⟨Must.mk (show (b == b) = true by cases b <;> rfl) h⟩
end Go.CM

namespace Go.CM
open Go Go.ChangeShapes Go.WideShapes Go.ChangeAt Go.RowKit
variable {P : Program} {con : CallT}
section
variable {H : Type} {enc : TypeId × Value→H} {w : World} {base : Nat} {held : Bool}
end
theorem Has.nil {L : List HP} : Has L (Nums snil []) := fun _ _ => .inl ⟨rfl,rfl⟩
theorem VR.ext {ρ ρ' : Ren} (h : Ext ρ ρ') {x y : Value} (v : VR ρ x y) : VR ρ' x y := v.mono h
theorem con_known {lv : List Nat} {g : FuncId} (hg : memF g lv = true) : Con (conKnown (knownOf g true)) lv := fun f args H hf => by
 unfold conKnown knownOf
 cases hb : Nat.beq g f with
 | false => rfl
 | true =>
  obtain rfl := Nat.eq_of_beq_eq_true hb
  rw [hg] at hf; cases hf
theorem ro_ev (hm : P.follows .mixedOrders = true) (hcon : CallOK P con) {ρ : Ren} {H : CH} {w : World} (hr : HR ρ H w) (hro : RO H) {f : FuncId} {args : List Value} {args' : Array Value} (ha : AR ρ ⟨args⟩ args') (h : Call1 P con f args H (fun v _ => v = .bool true)) :
  Calls P f args' w (fun e w' => e = .returned (.bool true)∧Less w w') := by
 obtain ⟨N,v,H',h1,rfl⟩ := h.get
 exact ro_call (evalG_ok hm funAt_ok hcon N N) hr hro ha h1
end Go.CM

namespace Go.CM
open Go Go.ChangeShapes Go.WideShapes Go.ChangeAt Go.RowKit
variable {P : Program}
def rowV (te : TypeId) (cs : List Value) : Blk := { elem := te,size := cs.length,es := 0,wr := false,dead := false,cells := { base := fun j => cs[j]?,own := .leaf } }
theorem rowV_get (te : TypeId) (cs : List Value) (j : Nat) : (rowV te cs).get j = cs[j]? := by
 unfold Blk.get rowV
 simp only [M.get,T.get]
 by_cases h : j < cs.length
 ·rw [blt_iff.2 h]; rfl
 ·rw [show Nat.blt j cs.length = false from by cases hb : Nat.blt j cs.length with | false => rfl | true => exact absurd (blt_iff.1 hb) h,cond_false,List.getElem?_eq_none (by omega)]
theorem RO.rowV {H : CH} (h : RO H) (t : TypeId) (cs : List Value) : RO (H.new (rowV t cs)) := fun b k' h' => by
 rw [CH.new_get] at h'
 by_cases e : H.next = b
 ·simp only [e,if_true,Option.some.injEq] at h'; subst h'; rfl
 ·simp only [e,if_false] at h'; exact h b k' h'
theorem HR.rowV {ρ : Ren} {H : CH} {w : World} (hr : HR ρ H w) (hro : RO H) {b off : Nat} {c : Array Value} {te : TypeId} {fz : Nat × Nat} {cs : List Value} (hc : w.heap[b]? = some (.cells c te fz)) (hle : off + cs.length ≤ c.size)
  (hv : ∀ j x,cs[j]? = some x→∃ y,c[j + off]? = some y∧VR ρ x y) :
  HR (ρ.put H.next ⟨b,off,cs.length,c.size,0⟩) (H.new (Go.CM.rowV te cs)) w∧Ext ρ (ρ.put H.next ⟨b,off,cs.length,c.size,0⟩) := by
 have hn : ρ H.next = none := hr.next_none (Nat.le_refl _)
 have hext : Ext ρ (ρ.put H.next ⟨b,off,cs.length,c.size,0⟩) := Ext.put hn
 refine ⟨?_,hext⟩
 have hlt : b < w.heap.size := (Array.getElem?_eq_some_iff.1 hc).1
 refine { fresh := ?_,blk := ?_,inj := ?_ }
 ·intro b2 i hb
  by_cases e : b2 = H.next
  ·subst e; exact Nat.lt_succ_self _
  ·rw [Ren.put_other _ _ _ e] at hb
   exact Nat.lt_succ_of_lt (hr.fresh b2 i hb)
 ·intro b2 i hb
  by_cases e : b2 = H.next
  ·subst e
   rw [Ren.put_same] at hb
   obtain rfl := Option.some.inj hb
   refine ⟨Go.CM.rowV te cs,by simp [CH.new_get],rfl,rfl,⟨hlt,by simp only; omega⟩,fun _ => ⟨c,fz,hc,rfl,fun h => (by cases h),fun j hj => ?_⟩⟩
   obtain ⟨y,h1,h2⟩ := hv j cs[j] (List.getElem?_eq_getElem hj)
   exact ⟨_,y,by rw [rowV_get,List.getElem?_eq_getElem hj],h1,h2.mono hext⟩
  ·rw [Ren.put_other _ _ _ e] at hb
   obtain ⟨k',h1,h2,h3,h4,h5⟩ := hr.blk b2 i hb
   exact ⟨k',by simp [CH.new_get,Ne.symm e,h1],h2,h3,h4,fun hd' => (h5 hd').mono hext rfl⟩
 ·intro b1 b2 i1 i2 k1 k2 h1 h2 h3 h4 h5 h6 hor h7
  have e1 := (hro.rowV te cs) b1 k1 h3
  have e2 := (hro.rowV te cs) b2 k2 h4
  rcases hor with h | h
  ·rw [e1] at h; cases h
  ·rw [e2] at h; cases h
theorem dom_new {H : CH} {k : Blk} : Subh (dom H) (dom (H.new k)) := fun b q h => by
 obtain ⟨h1,h2⟩ := dom_some h
 unfold dom
 rw [if_pos (show b < (H.new k).next from Nat.lt_succ_of_lt h1),CH.new_get,if_neg (by omega)]
 exact h2
theorem dom_row {H : CH} {te : TypeId} {cs : List Value} : Row H.next te 0 false cs (dom (H.new (rowV te cs))) :=
 ⟨rowV te cs,by unfold dom; rw [if_pos (show H.next < (H.new (rowV te cs)).next from Nat.lt_succ_self _),CH.new_get,if_pos rfl],rfl,rfl,rfl,rfl,rfl,rfl,rowV_get te cs⟩
theorem sat_ro {L : List HP} {H : CH} {A : HP} (hro : RO H) (a : A (dom H)) (hs : Sat L H) : Sat (A::L) H :=
 ⟨dom H,dom H,Subh.refl _,Subh.refl _,fun b k1 k2 h1 h2 => by rw [h1] at h2; cases h2; exact ⟨rfl,hro b k1 (dom_some h1).2⟩,a,hs⟩
def fieldsOk (P : Program) (ok : TypeId→Bool) : Nat→List Field→Bool
 | _,[] => true
 | off,f::r => Nat.beq f.offset off && (ok f.type && fieldsOk P ok (off + P.cellsOf f.type) r)
def flatTy (P : Program) : Nat→TypeId→Bool
 | 0,_ => false
 | m + 1,t =>
  match P.underlying t with
  | some (.int _) => true
  | some .bool => true
  | some .string => true
  | some (.slice e) => Nat.blt 0 (P.cellsOf e) && flatTy P m e
  | some (.struct fs) => Nat.beq (P.cellsOf t) ((fs.toList.map fun f => P.cellsOf f.type).sum) && fieldsOk P (flatTy P m) 0 fs.toList
  | some (.array k e) => Nat.beq (P.cellsOf t) (k * P.cellsOf e) && flatTy P m e
  | _ => false
section
variable {H : Type} {enc : TypeId × Value→H} {w : World} {base : Nat} {held : Bool}
def Dat (P : Program) : Nat→TypeId→DataW H→List Value→HP
 | 0,_,_,_ => fun _ => False
 | n + 1,t,d,cs => fun h =>
  match P.underlying t with
  | some (.int k) => ∃ z,d = .lit (.int k z)∧cs = [.int k z]∧(Lit.int k z).wf = true
  | some .bool => ∃ b,d = .lit (.bool b)∧cs = [.bool b]
  | some .string => ∃ s : ByteArray,d = .lit (.string s.data.toList)∧cs = [.string s]
  | some (.slice e) => (d = .nil∧cs = [snil]) ∨ ∃ (el sp : List (DataW H)) (b te : Nat) (cells : List Value),d = .slice el sp∧cs = [slc b 0 el.length (el.length + sp.length)] ∧
    Row b te 0 false cells h∧(el.length + sp.length) * P.cellsOf e ≤ cells.length∧∀ i x,(el++sp)[i]? = some x→Dat P n e x ((cells.drop (i * P.cellsOf e)).take (P.cellsOf e)) h
  | some (.struct fs) => ∃ ds : List (DataW H),d = .agg ds∧ds.length = fs.size∧cs.length = P.cellsOf t∧∀ (i : Nat) f x,fs[i]? = some f→ds[i]? = some x→Dat P n f.type x ((cs.drop f.offset).take (P.cellsOf f.type)) h
  | some (.array k e) => ∃ ds : List (DataW H),d = .agg ds∧ds.length = k∧cs.length = P.cellsOf t∧∀ (i : Nat) x,ds[i]? = some x→Dat P n e x ((cs.drop (i * P.cellsOf e)).take (P.cellsOf e)) h
  | _ => False
theorem Dat.mono : ∀ {n : Nat} {t : TypeId} {d : DataW H} {cs : List Value} {h g : PH},Dat P n t d cs h→Subh h g→Dat P n t d cs g
 | 0,_,_,_,_,_,a,_ => a
 | n + 1,t,d,cs,h,g,a,s => by
  unfold Dat at a ⊢
  split at a <;> first | exact a | skip
  ·rcases a with a | ⟨el,sp,b,te,cells,h1,h2,h3,h4,h5⟩
   ·exact .inl a
   ·exact .inr ⟨el,sp,b,te,cells,h1,h2,h3.mono s,h4,fun i x hx => (h5 i x hx).mono s⟩
  ·obtain ⟨ds,h1,h2,h3,h4⟩ := a
   exact ⟨ds,h1,h2,h3,fun i f x hf hx => (h4 i f x hf hx).mono s⟩
  ·obtain ⟨ds,h1,h2,h3,h4⟩ := a
   exact ⟨ds,h1,h2,h3,fun i x hx => (h4 i x hx).mono s⟩
def PlaceOK (w : World) (a : Addr) : Prop := a.spot = none∧∃ (c : Array Value) (t : TypeId) (fz : Nat × Nat),w.heap[a.block]? = some (.cells c t fz)∧a.off ≤ c.size
def CellsOK (w : World) (ρ : Ren) (K : CH) (cs : List Value) : Prop := (∃ b i te cells,ρ b = some i∧i.es = 0∧Row b te 0 false cells (dom K)) ∨ ∀ v ∈ cs,∀ a,v = .slice (some a) 0 0→PlaceOK w a
theorem CellsOK.mono {ρ ρ' : Ren} {K K' : CH} {cs : List Value} (h : CellsOK w ρ K cs) (e : Ext ρ ρ') (s : Subh (dom K) (dom K')) : CellsOK w ρ' K' cs := h.imp (fun ⟨b,i,te,c,h1,h2,h3⟩ => ⟨b,i,te,c,e b i h1,h2,h3.mono s⟩) id
theorem CellsOK.sub {ρ : Ren} {K : CH} {cs cs' : List Value} (h : CellsOK w ρ K cs) (e : ∀ v ∈ cs',v ∈ cs) : CellsOK w ρ K cs' := h.imp id (fun h v hv => h v (e v hv))
theorem cells_at {a : Addr} {s : Nat} {cs : List Value} (h : w.cells? base a s = some cs) (hs : 0 < s) : a.spot = none∧∃ (c : Array Value) (t : TypeId) (fz : Nat × Nat),w.heap[a.block]? = some (.cells c t fz)∧a.off + s ≤ c.size∧cs = (c.toList.drop a.off).take s := by
 obtain ⟨_,hl,hg⟩ := World.cells?_some h
 have h0 := hg 0 hs
 have hz : a.add 0 = a := rfl
 rw [hz,List.getElem?_eq_getElem (by omega)] at h0
 unfold World.cell? at h0
 split at h0
 ·rename_i c t fz hc
  cases hsp : a.spot with
  | some x => rw [hsp] at h0; simp at h0
  | none =>
   have each : ∀ i,i < s→c[a.off + i]? = cs[i]? := fun i hi => by
    have := hg i hi
    have ea : a.add i = ⟨a.block,a.off + i,none⟩ := by
     obtain ⟨b,o,sp⟩ := a
     simp only at hsp
     subst hsp
     unfold Addr.add
     split <;> simp_all
    rw [ea] at this
    unfold World.cell? at this
    simp only [hc] at this
    simpa using this
   have hsz : a.off + s ≤ c.size := by
    have := each (s - 1) (by omega)
    rw [List.getElem?_eq_getElem (by omega)] at this
    have := (Array.getElem?_eq_some_iff.1 this).1
    omega
   refine ⟨rfl,c,t,fz,hc,hsz,?_⟩
   apply List.ext_getElem?
   intro i
   rw [List.getElem?_take]
   by_cases hi : i < s
   ·rw [if_pos hi,List.getElem?_drop,← each i hi]; simp
   ·rw [if_neg hi,List.getElem?_eq_none (by omega)]
 ·cases h0
theorem take_snoc {α : Type} (l : List α) (o s k : Nat) : (l.drop o).take ((k + 1) * s) = (l.drop o).take (k * s)++(l.drop (o + k * s)).take s := by
 rw [Nat.succ_mul,List.take_add,List.drop_drop]
theorem LR.one {ρ : Ren} {x y : Value} (h : VR ρ x y) : LR ρ [x] [y] := .cons h .nil
theorem open_dat : ∀ (n m : Nat) {t : TypeId} {cs : List Value} {y : DataW H × List MemPlace},flatTy P m t = true→DataW.trod enc P w base (fun _ => true) held n t cs = some y→∀ {ρ : Ren} {K : CH},HR ρ K w→RO K→CellsOK w ρ K cs →
  ∃ ρ' K' cs',Ext ρ ρ'∧HR ρ' K' w∧RO K'∧Subh (dom K) (dom K')∧LR ρ' cs' cs∧Dat P n t y.1 cs' (dom K')
 | 0,m,t,cs,y,_,h,ρ,K,_,_,_ => by simp [DataW.trod] at h
 | n + 1,0,t,cs,y,hf,h,ρ,K,_,_,_ => by simp [flatTy] at hf
 | n + 1,m + 1,t,cs,y,hf,h,ρ,K,hr,hro,hz => by
  unfold flatTy at hf
  split at hf
  ·rename_i k hu
   obtain ⟨z,rfl,rfl,hw⟩ := DataW.trod_int hu h
   refine ⟨ρ,K,_,Ext.refl _,hr,hro,Subh.refl _,.one (.int _ _),?_⟩
   unfold Dat
   rw [hu]
   exact ⟨z,rfl,rfl,hw⟩
  ·rename_i hu
   obtain ⟨b,rfl,rfl⟩ := DataW.trod_bool hu h
   refine ⟨ρ,K,_,Ext.refl _,hr,hro,Subh.refl _,.one (.bool _),?_⟩
   unfold Dat
   rw [hu]
   exact ⟨b,rfl,rfl⟩
  ·rename_i hu
   obtain ⟨s,rfl,rfl,_⟩ := DataW.trod_string hu h
   refine ⟨ρ,K,_,Ext.refl _,hr,hro,Subh.refl _,.one (.string _),?_⟩
   unfold Dat
   rw [hu]
   exact ⟨s,rfl,rfl⟩
  ·rename_i e hu
   simp only [Bool.and_eq_true] at hf
   obtain ⟨hs,hfe⟩ := hf
   have hs := blt_iff.1 hs
   rcases DataW.trod_slice hu h with ⟨rfl,rfl⟩ | ⟨a,len,cap,elems,rest,n',hn,rfl,rfl,hb,hl,hm,hlen,hel,hsp,_⟩
   ·refine ⟨ρ,K,[snil],Ext.refl _,hr,hro,Subh.refl _,.one (.sl0 _ _),?_⟩
    unfold Dat
    rw [hu]
    exact .inl ⟨rfl,rfl⟩
   ·obtain rfl : n' = n := by omega
    obtain ⟨hrl,hrest⟩ := hsp rfl
    have hcap : elems.length + rest.length = cap := by omega
    have hE : ∀ i,i < cap→(w.cells? base (a.add (i * P.cellsOf e)) (P.cellsOf e)).bind (DataW.trod enc P w base (fun _ => true) held n' e) = (elems++rest)[i]? := fun i hi => by
     by_cases hi2 : i < len
     ·rw [hel i hi2,List.getElem?_append_left (by omega)]
     ·have := hrest (i - len) (by omega)
      rw [show len + (i - len) = i by omega] at this
      rw [this,List.getElem?_append_right (by omega),hlen]
    have hElen : (elems++rest).length = cap := by rw [List.length_append]; exact hcap
    have fin : ∀ (el sp : List (DataW H)),el = elems.map (·.1)→sp = rest.map (·.1)→el.length = len∧sp.length = cap - len := by
     rintro el sp rfl rfl
     simp [hlen,hrl]
    rcases Nat.eq_zero_or_pos cap with hc0 | hcpos
    ·
     subst hc0
     obtain rfl : len = 0 := by omega
     have hel0 : elems = [] := List.eq_nil_of_length_eq_zero hlen
     have hre0 : rest = [] := List.eq_nil_of_length_eq_zero (by omega)
     subst hel0
     subst hre0
     have dat : ∀ (b te : Nat) (cells : List Value) (K' : CH),Row b te 0 false cells (dom K')→Dat P (n' + 1) t (.slice [] [] : DataW H) [slc b 0 0 0] (dom K') := fun b te cells K' hrow => by
      unfold Dat
      rw [hu]
      refine .inr ⟨[],[],b,te,cells,rfl,rfl,hrow,by simp,fun i x hx => by simp at hx⟩
     rcases hz with ⟨b,i,te,cells,h1,h2,h3⟩ | hz
     ·exact ⟨ρ,K,[slc b 0 0 0],Ext.refl _,hr,hro,Subh.refl _,.one (.slW a h1 h2),dat b te cells K h3⟩
     ·obtain ⟨hsp0,c,te,fz,hc,hle⟩ := hz _ (List.mem_singleton.2 rfl) a rfl
      obtain ⟨hr2,hext⟩ := hr.rowV hro (te := te) (off := a.off) (cs := []) hc (by simpa using hle) (fun j x hx => by simp at hx)
      refine ⟨_,_,[slc K.next 0 0 0],hext,hr2,hro.rowV _ _,dom_new,.one ?_,dat _ _ _ _ dom_row⟩
      have hv := VR.sl (ρ := Ren.put ρ K.next ⟨a.block,a.off,0,c.size,0⟩) (off := 0) 0 0 (Ren.put_same _ _ _)
      obtain ⟨ab,ao,asp⟩ := a
      simp only at hsp0
      subst hsp0
      simp only [Nat.zero_add] at hv
      exact hv
    ·
     obtain ⟨x0,hx0⟩ : ∃ x,(elems++rest)[0]? = some x := ⟨_,List.getElem?_eq_getElem (by omega)⟩
     have h00 := hE 0 hcpos
     rw [hx0,Option.bind_eq_some_iff] at h00
     obtain ⟨cs0,hcs0,_⟩ := h00
     have hz0 : a.add 0 = a := rfl
     rw [Nat.zero_mul,hz0] at hcs0
     obtain ⟨hsp0,c,te,fz,hc,hle0,_⟩ := cells_at hcs0 hs
     have ha : ∀ i,a.add i = ⟨a.block,a.off + i,none⟩ := fun i => by
      obtain ⟨ab,ao,asp⟩ := a
      have hsp0 : asp = none := hsp0
      subst hsp0
      unfold Addr.add
      split <;> simp_all
     have hc : w.heap[a.block]? = some (.cells c te fz) := hc
     obtain ⟨hr1,hext1⟩ := hr.rowV hro (te := te) (off := 0) (cs := []) hc (by simp) (fun j x hx => by simp at hx)
     have hro1 := hro.rowV te []
     have hz1 : ∃ b i te2 cells,(ρ.put K.next ⟨a.block,0,([] : List Value).length,c.size,0⟩) b = some i∧i.es = 0∧Row b te2 0 false cells (dom (K.new (Go.CM.rowV te []))) := ⟨K.next,_,te,[],Ren.put_same _ _ _,rfl,dom_row⟩
     have key : ∀ k,k ≤ cap→∃ ρ' K' cells,Ext (ρ.put K.next ⟨a.block,0,([] : List Value).length,c.size,0⟩) ρ'∧HR ρ' K' w∧RO K'∧Subh (dom (K.new (Go.CM.rowV te []))) (dom K')∧cells.length = k * P.cellsOf e ∧
       a.off + k * P.cellsOf e ≤ c.size∧LR ρ' cells ((c.toList.drop a.off).take (k * P.cellsOf e))∧∀ i x,i < k→(elems++rest)[i]? = some x→Dat P n' e x.1 ((cells.drop (i * P.cellsOf e)).take (P.cellsOf e)) (dom K') := by
      intro k
      induction k with
      | zero => intro _; exact ⟨_,_,[],Ext.refl _,hr1,hro1,Subh.refl _,by simp,by omega,by rw [Nat.zero_mul,List.take_zero]; exact .nil,fun i x hi => by omega⟩
      | succ k ih =>
       intro hk
       obtain ⟨ρ2,K2,cells,e2,r2,o2,d2,l2,b2,lr2,dt2⟩ := ih (by omega)
       obtain ⟨x,hx⟩ : ∃ x,(elems++rest)[k]? = some x := ⟨_,List.getElem?_eq_getElem (by omega)⟩
       have hk1 := hE k (by omega)
       rw [hx,Option.bind_eq_some_iff] at hk1
       obtain ⟨csk,hcsk,htr⟩ := hk1
       rw [ha] at hcsk
       obtain ⟨_,c',te',fz',hc',hle',hcse⟩ := cells_at hcsk hs
       rw [hc] at hc'
       cases hc'
       simp only at hle' hcse
       obtain ⟨ρ3,K3,cs3,e3,r3,o3,d3,lr3,dt3⟩ := open_dat n' m hfe htr r2 o2 (.inl (by obtain ⟨b,i,te,cl,h1,h2,h3⟩ := hz1; exact ⟨b,i,te,cl,e2 b i h1,h2,h3.mono d2⟩))
       have l3 : cs3.length = P.cellsOf e := by
        rw [lr3.length,hcse,List.length_take,List.length_drop,Array.length_toList]; omega
       refine ⟨ρ3,K3,cells++cs3,e2.trans e3,r3,o3,d2.trans d3,by rw [List.length_append,l2,l3,Nat.succ_mul],by rw [Nat.succ_mul]; omega,?_,fun i x' hi hx' => ?_⟩
       ·rw [take_snoc,← hcse]
        exact (lr2.mono e3).append lr3
       ·by_cases hik : i = k
        ·subst hik
         rw [hx] at hx'
         cases hx'
         rw [List.drop_append,List.drop_eq_nil_of_le (by omega),List.nil_append,l2,Nat.sub_self,List.drop_zero,List.take_of_length_le (by omega)]
         exact dt3
        ·have hlt : i < k := by omega
         have hle2 : (i + 1) * P.cellsOf e ≤ k * P.cellsOf e := Nat.mul_le_mul_right _ (by omega)
         rw [Nat.succ_mul] at hle2
         rw [List.drop_append_of_le_length (by omega),List.take_append_of_le_length (by rw [List.length_drop]; omega)]
         exact (dt2 i x' hlt hx').mono d3
     obtain ⟨ρ2,K2,cells,e2,r2,o2,d2,l2,b2,lr2,dt2⟩ := key cap (Nat.le_refl _)
     obtain ⟨hr3,hext3⟩ := r2.rowV o2 (te := te) (off := a.off) (cs := cells) hc (by rw [l2]; exact b2) (fun j x hx => by
      obtain ⟨y,h1,h2⟩ := lr2.get j x hx
      refine ⟨y,?_,h2⟩
      have hj : j < cells.length := (List.getElem?_eq_some_iff.1 hx).1
      rw [List.getElem?_take,if_pos (by omega),List.getElem?_drop,Array.getElem?_toList] at h1
      rw [Nat.add_comm]; exact h1)
     refine ⟨_,_,[slc K2.next 0 len cap],(hext1.trans e2).trans hext3,hr3,o2.rowV _ _,(dom_new.trans d2).trans dom_new,.one ?_,?_⟩
     ·have hv := VR.sl (ρ := Ren.put ρ2 K2.next ⟨a.block,a.off,cells.length,c.size,0⟩) (off := 0) len cap (Ren.put_same _ _ _)
      obtain ⟨ab,ao,asp⟩ := a
      have hsp0 : asp = none := hsp0
      subst hsp0
      simp only [Nat.zero_add] at hv
      exact hv
     ·unfold Dat
      rw [hu]
      refine .inr ⟨elems.map (·.1),rest.map (·.1),K2.next,te,cells,rfl,?_,dom_row,?_,fun i x hx => ?_⟩
      ·rw [List.length_map,List.length_map,hlen,show len + rest.length = cap by omega]
      ·rw [List.length_map,List.length_map,hcap,l2]; exact Nat.le_refl _
      ·rw [← List.map_append,List.getElem?_map,Option.map_eq_some_iff] at hx
       obtain ⟨x',h1,rfl⟩ := hx
       have hi : i < cap := by have := (List.getElem?_eq_some_iff.1 h1).1; omega
       exact (dt2 i x' hi h1).mono dom_new
  ·rename_i fs hu
   simp only [Bool.and_eq_true] at hf
   obtain ⟨hsum,hfo⟩ := hf
   have hsum := Nat.eq_of_beq_eq_true hsum
   obtain ⟨xs,n',hn,rfl,hl,hlen,hfs⟩ := DataW.trod_struct hu h
   obtain rfl : n' = n := by omega
   have key : ∀ (l : List Field) (i off : Nat),l = fs.toList.drop i→fieldsOk P (flatTy P m) off l = true→off + (l.map fun f => P.cellsOf f.type).sum = cs.length→∀ {ρ : Ren} {K : CH},HR ρ K w→RO K→CellsOK w ρ K cs →
     ∃ ρ' K' cells,Ext ρ ρ'∧HR ρ' K' w∧RO K'∧Subh (dom K) (dom K')∧LR ρ' cells (cs.drop off)∧∀ (j : Nat) f x,i ≤ j→fs[j]? = some f→xs[j]? = some x→off ≤ f.offset∧Dat P n' f.type x.1 ((cells.drop (f.offset - off)).take (P.cellsOf f.type)) (dom K') := by
    intro l
    induction l with
    | nil =>
     intro i off hd _ hs ρ K hr hro hz
     simp at hs
     refine ⟨ρ,K,[],Ext.refl _,hr,hro,Subh.refl _,by rw [List.drop_eq_nil_of_le (by omega)]; exact .nil,fun j f x hj hf _ => ?_⟩
     have : fs.toList.length ≤ i := List.drop_eq_nil_iff.1 hd.symm
     have h2 := (Array.getElem?_eq_some_iff.1 hf).1
     simp at this
     omega
    | cons f r ih =>
     intro i off hd hk hs ρ K hr hro hz
     have hfi : fs[i]? = some f := by
      have : (fs.toList.drop i)[0]? = some f := by rw [← hd]; rfl
      simpa using this
     have hilt : i < fs.size := (Array.getElem?_eq_some_iff.1 hfi).1
     simp only [fieldsOk,Bool.and_eq_true] at hk
     obtain ⟨ho,hff,hkr⟩ := hk
     have ho := Nat.eq_of_beq_eq_true ho
     simp only [List.map_cons,List.sum_cons] at hs
     have h1 := hfs i f hfi
     obtain ⟨x,hx⟩ : ∃ x,xs[i]? = some x := ⟨_,List.getElem?_eq_getElem (by omega)⟩
     rw [hx,ho] at h1
     obtain ⟨ρ1,K1,cs1,e1,r1,o1,d1,lr1,dt1⟩ := open_dat n' m hff h1 hr hro (hz.sub fun v hv => List.mem_of_mem_drop (List.mem_of_mem_take hv))
     obtain ⟨ρ2,K2,cells,e2,r2,o2,d2,lr2,dt2⟩ := ih (i + 1) (off + P.cellsOf f.type) (by rw [← List.tail_drop,← hd]; rfl) hkr (by omega) r1 o1 (hz.mono e1 d1)
     have l1 : cs1.length = P.cellsOf f.type := by rw [lr1.length,List.length_take,List.length_drop]; omega
     refine ⟨ρ2,K2,cs1++cells,e1.trans e2,r2,o2,d1.trans d2,?_,fun j f' x' hj hf' hx' => ?_⟩
     ·have e : cs.drop off = (cs.drop off).take (P.cellsOf f.type)++cs.drop (off + P.cellsOf f.type) := by rw [← List.drop_drop,List.take_append_drop]
      rw [e]
      exact (lr1.mono e2).append lr2
     ·by_cases hij : j = i
      ·subst hij
       rw [hfi] at hf'
       cases hf'
       rw [hx] at hx'
       cases hx'
       refine ⟨by omega,?_⟩
       rw [ho,Nat.sub_self,List.drop_zero,List.take_append_of_le_length (by omega),List.take_of_length_le (by omega)]
       exact dt1.mono d2
      ·obtain ⟨g1,g2⟩ := dt2 j f' x' (by omega) hf' hx'
       refine ⟨by omega,?_⟩
       rw [List.drop_append,List.drop_eq_nil_of_le (by omega),List.nil_append,show f'.offset - off - cs1.length = f'.offset - (off + P.cellsOf f.type) by omega]
       exact g2
   obtain ⟨ρ',K',cells,e1,r1,o1,d1,lr1,dt1⟩ := key fs.toList 0 0 rfl hfo (by rw [hl,hsum]; simp) hr hro hz
   rw [List.drop_zero] at lr1
   refine ⟨ρ',K',cells,e1,r1,o1,d1,lr1,?_⟩
   unfold Dat
   rw [hu]
   refine ⟨xs.map (·.1),rfl,by simp [hlen],by rw [lr1.length,hl],fun i f x hf hx => ?_⟩
   rw [List.getElem?_map,Option.map_eq_some_iff] at hx
   obtain ⟨x',h1,rfl⟩ := hx
   have := (dt1 i f x' (Nat.zero_le _) hf h1).2
   rw [Nat.sub_zero] at this
   exact this
  ·rename_i k e hu
   simp only [Bool.and_eq_true] at hf
   obtain ⟨hsum,hfe⟩ := hf
   have hsum := Nat.eq_of_beq_eq_true hsum
   obtain ⟨xs,n',hn,rfl,hl,hlen,hfs⟩ := DataW.trod_array hu h
   obtain rfl : n' = n := by omega
   have key : ∀ j,j ≤ k→∃ ρ' K' cells,Ext ρ ρ'∧HR ρ' K' w∧RO K'∧Subh (dom K) (dom K')∧cells.length = j * P.cellsOf e∧LR ρ' cells (cs.take (j * P.cellsOf e))∧∀ (i : Nat) x,i < j→xs[i]? = some x→Dat P n' e x.1 ((cells.drop (i * P.cellsOf e)).take (P.cellsOf e)) (dom K') := by
    intro j
    induction j with
    | zero => intro _; exact ⟨ρ,K,[],Ext.refl _,hr,hro,Subh.refl _,by simp,by rw [Nat.zero_mul,List.take_zero]; exact .nil,fun i x hi => by omega⟩
    | succ j ih =>
     intro hj
     obtain ⟨ρ2,K2,cells,e2,r2,o2,d2,l2,lr2,dt2⟩ := ih (by omega)
     obtain ⟨x,hx⟩ : ∃ x,xs[j]? = some x := ⟨_,List.getElem?_eq_getElem (by omega)⟩
     have h1 := hfs j (by omega)
     rw [hx] at h1
     obtain ⟨ρ3,K3,cs3,e3,r3,o3,d3,lr3,dt3⟩ := open_dat n' m hfe h1 r2 o2 ((hz.mono e2 d2).sub fun v hv => List.mem_of_mem_drop (List.mem_of_mem_take hv))
     have hle : (j + 1) * P.cellsOf e ≤ k * P.cellsOf e := Nat.mul_le_mul_right _ hj
     rw [Nat.succ_mul] at hle
     have l3 : cs3.length = P.cellsOf e := by rw [lr3.length,List.length_take,List.length_drop]; omega
     refine ⟨ρ3,K3,cells++cs3,e2.trans e3,r3,o3,d2.trans d3,by rw [List.length_append,l2,l3,Nat.succ_mul],?_,fun i x' hi hx' => ?_⟩
     ·rw [Nat.succ_mul,List.take_add]
      exact (lr2.mono e3).append lr3
     ·by_cases hik : i = j
      ·subst hik
       rw [hx] at hx'
       cases hx'
       rw [List.drop_append,List.drop_eq_nil_of_le (by omega),List.nil_append,l2,Nat.sub_self,List.drop_zero,List.take_of_length_le (by omega)]
       exact dt3
      ·have hlt : i < j := by omega
       have hle2 : (i + 1) * P.cellsOf e ≤ j * P.cellsOf e := Nat.mul_le_mul_right _ (by omega)
       rw [Nat.succ_mul] at hle2
       rw [List.drop_append_of_le_length (by omega),List.take_append_of_le_length (by rw [List.length_drop]; omega)]
       exact (dt2 i x' hlt hx').mono d3
   obtain ⟨ρ',K',cells,e1,r1,o1,d1,l1,lr1,dt1⟩ := key k (Nat.le_refl _)
   rw [List.take_of_length_le (by omega)] at lr1
   refine ⟨ρ',K',cells,e1,r1,o1,d1,lr1,?_⟩
   unfold Dat
   rw [hu]
   refine ⟨xs.map (·.1),rfl,by simp [hlen],by rw [lr1.length,hl],fun i x hx => ?_⟩
   rw [List.getElem?_map,Option.map_eq_some_iff] at hx
   obtain ⟨x',h1,rfl⟩ := hx
   exact dt1 i x' (by have := (List.getElem?_eq_some_iff.1 h1).1; omega) h1
  ·cases hf
end
end Go.CM

namespace Go.CM
open Go
variable {P : Program} {con : CallT}
theorem ltZ_e {a b : Nat} (h : ltZ (Int.ofNat a) (Int.ofNat b) = true) : a < b := Int.ofNat_lt.1 (of_decide_eq_true h)
theorem ltZ_n {a b : Nat} (h : ltZ (Int.ofNat a) (Int.ofNat b) = false) : b ≤ a := Int.ofNat_le.1 (Int.not_lt.1 (of_decide_eq_false h))
theorem leZ_e {a b : Nat} (h : leZ (Int.ofNat a) (Int.ofNat b) = true) : a ≤ b := Int.ofNat_le.1 (of_decide_eq_true h)
theorem leZ_n {a b : Nat} (h : leZ (Int.ofNat a) (Int.ofNat b) = false) : b < a := Int.ofNat_lt.1 (Int.not_le.1 (of_decide_eq_false h))
theorem subInt {a b : Nat} (h : b ≤ a) : Int.sub (Int.ofNat a) (Int.ofNat b) = Int.ofNat (a - b) := by
 show (a : Int) - (b : Int) = ((a - b : Nat) : Int); omega
theorem addInt (a b : Nat) : Int.add (Int.ofNat a) (Int.ofNat b) = Int.ofNat (a + b) := rfl
theorem Own.mono {b : Nat} {cs : List Value} {h g : PH} (a : Own b cs h) (t : Subh h g) : Own b cs g := by
 obtain ⟨e,s,r⟩ := a
 exact ⟨e,s,r.mono t⟩
theorem Own.numsV {b : Nat} {l : List Nat} {h : PH} (a : Own b (l.map u64) h) : Nums (slc b 0 l.length l.length) l h := by
 obtain ⟨e,s,r⟩ := a
 exact .inr ⟨b,0,l.length,e,s,true,_,rfl,Nat.le_refl _,by simp,by rw [List.drop_zero,List.take_of_length_le (by simp)],r⟩
theorem Has.own3 {b : Nat} {l : List Nat} {L : List HP} : Has (Own b (l.map u64)::L) (Nums (slc b 0 l.length l.length) l) := fun h a => (SatL.head a fun _ a s => Own.mono a s).numsV
theorem room_t {M : Mem} {vals : List Nat} (h1 : 0 < vals.length) (h2 : vals.length ≤ M.cells.length - M.free) : M.room vals = M.free := by unfold Mem.room; rw [if_pos ⟨h1,h2⟩]
theorem room_f {M : Mem} {vals : List Nat} (h : ¬ (0 < vals.length∧vals.length ≤ M.cells.length - M.free)) : M.room vals = 0 := by unfold Mem.room; rw [if_neg h]
def Mem.take (M : Mem) (vals : List Nat) : Mem := { M with cells := ovN vals M.cells M.free,free := M.free + vals.length }
theorem alloc_t {M : Mem} {vals : List Nat} {th : Int} (h1 : 0 < vals.length) (h2 : vals.length ≤ M.cells.length - M.free) : M.alloc th vals = (M.take vals).note (accNew th M.free vals) := by
 unfold Mem.alloc; rw [if_pos ⟨h1,h2⟩,room_t h1 h2]; rfl
theorem alloc_f {M : Mem} {vals : List Nat} {th : Int} (h : ¬ (0 < vals.length∧vals.length ≤ M.cells.length - M.free)) : M.alloc th vals = M.note (accNew th 0 vals) := by
 unfold Mem.alloc; rw [if_neg h,room_f h]
theorem isCell_u64 (l : List Nat) : (l.map u64).all isCell = true := by
 induction l with
 | nil => rfl
 | cons a l ih => rw [List.map_cons,List.all_cons,ih]; rfl
theorem ldVec {L : List HP} {H : CH} {x : Value} {e s b n c off i j : Nat} {rows : List (List Value)} {row : List Value} {v : Value} {K : Value→Prop} (hs : Sat L H) (hV : Has L (Vec x e s rows)) (hx : x = slc b 0 n c)
  (hr : rows[i]? = some row) (ho : off = i * s + j) (hj : j < s) (hv : row[j]? = some v) (k : K v) : Ld H b off K :=
 ldSrc hs (hV.vecSrc hx) (i := i * s + j) (by omega) (by rw [flat_get (hs.has hV).1 i j _ hr hj]; exact hv) k
theorem Vec.slot {x : Value} {e s i : Nat} {rows : List (List Value)} {row : List Value} {h : PH} (a : Vec x e s rows h) (hr : rows[i]? = some row) : ∃ b,x = slc b 0 rows.length rows.length∧Row b e s true rows.flatten h := by
 rcases a.2 with ⟨_,rfl⟩ | ⟨b,_,h2,h3⟩
 ·simp at hr
 ·exact ⟨b,h2,h3⟩
theorem Has.all {l : List HP} {A : HP} {i : Nat} {L : List HP} (h : Has L (SatL l)) (hi : l[i]? = some A) (m : ∀ {g h : PH},A g→Subh g h→A h) : Has L A := fun g a => by
 have key : ∀ (l : List HP) (i : Nat) (g : PH),SatL l g→l[i]? = some A→A g := fun l => by
  induction l with
  | nil => intro i g _ hi; simp at hi
  | cons B l ih =>
   intro i g hs hi
   obtain ⟨h1,h2,s1,s2,d,x,y⟩ := hs
   cases i with
   | zero => simp at hi; subst hi; exact m x s1
   | succ i => exact m (ih i h2 y (by simpa using hi)) s2
 exact key l i g (h g a) hi
theorem Has.sat {l : List HP} {L : List HP} : Has (SatL l::L) (SatL l) := Has.here fun a s => SatL.mono s a
def RoP (A : HP) : Prop := ∀ h,A h→∃ g,Subh g h∧(∀ b k,g b = some k→k.wr = false)∧A g
theorem all_snoc {l : List HP} {A : HP} {h : PH} (a : SatL [A,SatL l] h) : SatL (l++[A]) h := by
 obtain ⟨h1,h2,s1,s2,d,x,y⟩ := a.swap
 exact SatL.merge s1 s2 d x y
theorem Sat.snoc {l : List HP} {A : HP} {L : List HP} {H : CH} (hs : Sat (A::SatL l::L) H) : Sat (SatL (l++[A])::L) H :=
 Sat.close (L1 := [A,SatL l]) hs fun g a => all_snoc a
theorem Sat.none {L : List HP} {H : CH} (hs : Sat L H) : Sat (SatL []::L) H := ⟨fun _ => Option.none,dom H,(fun _ _ e => nomatch e),Subh.refl _,(fun _ _ _ e => nomatch e),trivial,hs⟩
theorem Sat.dup' {L : List HP} {H : CH} {A : HP} (hs : Sat L H) (h : A (dom H)) (ro : RoP A) : Sat (A::L) H := by
 obtain ⟨g,s,w,a⟩ := ro _ h
 exact ⟨g,dom H,s,Subh.refl _,fun b k1 k2 h1 h2 => by rw [s b k1 h1] at h2; cases h2; exact ⟨rfl,w b k1 h1⟩,a,hs⟩
theorem Sat.triv {L : List HP} {H : CH} {A : HP} (hs : Sat L H) (h : ∀ g,A g) : Sat (A::L) H :=
 ⟨fun _ => Option.none,dom H,(fun _ _ e => nomatch e),Subh.refl _,(fun _ _ _ e => nomatch e),h _,hs⟩
end Go.CM

namespace Go.CM
open Go Go.ChangeShapes Go.WideShapes Go.ChangeAt Go.RowKit
variable {P : Program} {con : CallT}
theorem liesAt_le : ∀ (d : Nat) (e : TypeId) (count off : Nat) (u : TypeId) (n : Nat),liesAt P d e count off u n = true→off ≤ count * P.cellsOf e
 | 0,_,_,_,_,_,h => by simp [liesAt] at h
 | d + 1,e,count,off,u,n,h => by
  unfold liesAt at h
  rw [Bool.or_eq_true] at h
  rcases h with h | h
  ·exact rowAt_le _ _ _ _ _ h
  ·split at h
   ·exact liesAt_le d _ _ _ _ _ h
   ·cases h
theorem has_placeA {w : World} {r : Reach} {base : Nat} {a : Addr} {e : TypeId} {n : Nat} (h : w.has P r base a e n) : PlaceOK w a := by
 obtain ⟨_,h1,row,cells,h2,h3⟩ := h
 refine ⟨h1,?_⟩
 unfold World.shape? at h2
 split at h2
 ·rename_i c t fz hc
  simp only [Option.some.injEq,Prod.mk.injEq] at h2
  obtain ⟨rfl,rfl⟩ := h2
  exact ⟨c,t,fz,hc,Nat.le_trans (liesAt_le _ _ _ _ _ _ h3) (Nat.div_mul_le_self _ _)⟩
 ·cases h2
theorem okWide_place {w : World} {r : Reach} {base : Nat} {u : TypeId} {a : Addr} {l c : Nat} (h : Cell.okWide P w r base u (.slice (some a) l c)) : PlaceOK w a := by
 unfold Cell.okWide at h
 split at h <;> first | (rename_i h1 h2; cases h2; done) | skip
 all_goals first | (rename_i h1; cases h1; done) | skip
 unfold Cell.ok at h
 split at h <;> first | (rename_i h1 h2; cases h2; done) | (exact h.elim) | skip
 all_goals first | (rename_i h1 h2; cases h2; exact has_placeA h.2.2) | skip
section
variable {H : Type} {enc : TypeId × Value→H} {w : World} {base : Nat} {held : Bool}
theorem okWide_cells {r : Reach} {b0 : Nat} {ρ : Ren} {K : CH} {t : TypeId} {v : Value} (hv : Value.okWide P w r b0 t v) : CellsOK w ρ K v.cells.toList := by
 refine .inr fun x hx a hxa => ?_
 subst hxa
 unfold Value.okWide at hv
 split at hv
 ·obtain ⟨cs,rfl,_,ts,_,_,hc⟩ := hv
  obtain ⟨i,hi⟩ := List.mem_iff_getElem?.1 hx
  obtain ⟨u,_,h⟩ := hc i _ (by simpa [Value.cells] using hi)
  exact okWide_place h
 ·obtain ⟨cs,rfl,_,ts,_,_,hc⟩ := hv
  obtain ⟨i,hi⟩ := List.mem_iff_getElem?.1 hx
  obtain ⟨u,_,h⟩ := hc i _ (by simpa [Value.cells] using hi)
  exact okWide_place h
 ·have hv2 : v = .slice (some a) 0 0 ∨ ∃ cs,v = .agg cs := by
   cases v <;> first | (exact .inr ⟨_,rfl⟩) | (simp [Value.cells] at hx; try exact .inl hx.symm)
   all_goals (obtain ⟨rfl,rfl,rfl⟩ := hx; exact .inl rfl)
  rcases hv2 with rfl | ⟨cs,rfl⟩
  ·exact okWide_place hv
  ·exfalso
   unfold Cell.okWide at hv
   split at hv <;> first | (rename_i h1 h2; cases h2; done) | (rename_i h1; cases h1; done) | skip
   unfold Cell.ok at hv
   split at hv <;> first | (rename_i h1 h2; cases h2; done) | exact hv
theorem arg_dat {r : Reach} {b0 m : Nat} {t : TypeId} {v : Value} {d : DataW H} {p : List MemPlace} (hf : flatTy P m t = true) (hv : Value.okWide P w r b0 t v) (h : DataW.Trod enc P w base (fun _ => true) held t v d p) {ρ : Ren} {K : CH} (hr : HR ρ K w) (hro : RO K) :
  ∃ n ρ' K' cs',Ext ρ ρ'∧HR ρ' K' w∧RO K'∧Subh (dom K) (dom K')∧LR ρ' cs' v.cells.toList∧Dat P n t d cs' (dom K') := by
 obtain ⟨fuel,hfu⟩ := h
 obtain ⟨ρ',K',cs',h1,h2,h3,h4,h5,h6⟩ := open_dat fuel m hf hfu hr hro (okWide_cells hv)
 exact ⟨fuel,ρ',K',cs',h1,h2,h3,h4,h5,h6⟩
end
def RowsR {α : Type} (s : Nat) (PE : α→List Value→HP) (v : Value) (l : List α) : HP := fun h => (v = snil∧l = []) ∨ ∃ b c te cells,v = slc b 0 l.length c∧Row b te 0 false cells h∧l.length ≤ c∧l.length * s ≤ cells.length ∧
 ∀ i x,l[i]? = some x→PE x ((cells.drop (i * s)).take s) h
theorem RowsR.mono {α : Type} {s : Nat} {PE : α→List Value→HP} (m : ∀ {x cs g h},PE x cs g→Subh g h→PE x cs h) {v : Value} {l : List α} {g h : PH} (a : RowsR s PE v l g) (t : Subh g h) : RowsR s PE v l h := by
 rcases a with a | ⟨b,c,te,cells,h1,h2,h3,h4,h5⟩
 ·exact .inl a
 ·exact .inr ⟨b,c,te,cells,h1,h2.mono t,h3,h4,fun i x hx => m (h5 i x hx) t⟩
theorem RowsR.len {α : Type} {s : Nat} {PE : α→List Value→HP} {v : Value} {l : List α} {h : PH} (a : RowsR s PE v l h) : ∃ p c,v = .slice p l.length c := by
 rcases a with ⟨rfl,rfl⟩ | ⟨b,c,te,cells,h1,_⟩
 ·exact ⟨none,0,rfl⟩
 ·exact ⟨_,_,h1⟩
theorem rows_at' {α : Type} {s : Nat} {PE : α→List Value→HP} {H : CH} {v : Value} {l : List α} {i : Nat} {x : α} (hV : RowsR s PE v l (dom H)) (hi : l[i]? = some x) :
  ∃ b c cs,v = slc b 0 l.length c∧cs.length = s∧PE x cs (dom H)∧∀ (off j : Nat) (y : Value) (K : Value→Prop),off = i * s + j→cs[j]? = some y→K y→Ld H b off K := by
 rcases hV with ⟨_,rfl⟩ | ⟨b,c,te,cells,h1,h2,h3,h4,h5⟩
 ·simp at hi
 ·have hil : i < l.length := (List.getElem?_eq_some_iff.1 hi).1
  have hle : (i + 1) * s ≤ l.length * s := Nat.mul_le_mul_right _ hil
  rw [Nat.succ_mul] at hle
  refine ⟨b,c,_,h1,by rw [List.length_take,List.length_drop]; omega,h5 i x hi,fun off j y K ho hy k => ?_⟩
  obtain ⟨q,q1,q2,q3,q4,q5,qf,q6,q7⟩ := h2
  obtain ⟨_,g⟩ := dom_some q1
  refine ⟨?_⟩
  have e : H.cell b off = some y := by
   unfold CH.cell CH.live
   rw [g]
   simp only [q5,cond_false]
   rw [q7,ho]
   rw [List.getElem?_take] at hy
   split at hy
   ·rw [List.getElem?_drop] at hy; exact hy
   ·cases hy
  rw [e]
  exact k
theorem rows_at {α : Type} {s : Nat} {PE : α→List Value→HP} {L : List HP} {H : CH} {v : Value} {l : List α} {i : Nat} {x : α} (hs : Sat L H) (hV : Has L (RowsR s PE v l)) (hi : l[i]? = some x) :
  ∃ b c cs,v = slc b 0 l.length c∧cs.length = s∧PE x cs (dom H)∧∀ (off j : Nat) (y : Value) (K : Value→Prop),off = i * s + j→cs[j]? = some y→K y→Ld H b off K := rows_at' (hs.has hV) hi
def IntsR : Value→List Int→HP := RowsR 1 fun z cs _ => cs = [i64 z]
def NumsR : Value→List Nat→HP := RowsR 1 fun n cs _ => cs = [u64 n]
theorem NumsR.mono {v : Value} {l : List Nat} {g h : PH} (a : NumsR v l g) (t : Subh g h) : NumsR v l h := RowsR.mono (fun a _ => a) a t
theorem IntsR.mono {v : Value} {l : List Int} {g h : PH} (a : IntsR v l g) (t : Subh g h) : IntsR v l h := RowsR.mono (fun a _ => a) a t
theorem NumsR.nums {v : Value} {l : List Nat} {h : PH} (a : NumsR v l h) : Nums v l h := by
 rcases a with a | ⟨b,c,te,cells,h1,h2,h3,h4,h5⟩
 ·exact .inl a
 ·refine .inr ⟨b,0,c,te,0,false,cells,h1,h3,by omega,?_,h2⟩
  apply List.ext_getElem?
  intro j
  rw [List.drop_zero,List.getElem?_take,List.getElem?_map]
  by_cases hj : j < l.length
  ·rw [if_pos hj,List.getElem?_eq_getElem hj]
   have := h5 j _ (List.getElem?_eq_getElem hj)
   rw [Nat.mul_one] at this
   have h0 := congrArg (fun x => x[0]?) this
   simp only [List.getElem?_take,List.getElem?_drop,List.getElem?_cons_zero] at h0
   simpa using h0
  ·rw [if_neg hj,List.getElem?_eq_none (l := l) (by omega)]; rfl
theorem NumsR.ro {v : Value} {l : List Nat} : RoP (NumsR v l) := fun h a => by
 rcases a with a | ⟨b,c,te,cells,h1,⟨q,q1,q2,q3,q4,q5⟩,h3,h4,h5⟩
 ·exact ⟨fun _ => none,(fun _ _ e => nomatch e),(fun _ _ e => nomatch e),.inl a⟩
 ·refine ⟨fun x => if x = b then some q else none,fun x k hk => ?_,fun x k hk => ?_,.inr ⟨b,c,te,cells,h1,⟨q,by simp,q2,q3,q4,q5⟩,h3,h4,h5⟩⟩
  ·simp only at hk
   split at hk
   ·rename_i e; subst e; cases hk; exact q1
   ·cases hk
  ·simp only at hk
   split at hk
   ·cases hk; exact q4
   ·cases hk
theorem IntsR.ro {v : Value} {l : List Int} : RoP (IntsR v l) := fun h a => by
 rcases a with a | ⟨b,c,te,cells,h1,⟨q,q1,q2,q3,q4,q5⟩,h3,h4,h5⟩
 ·exact ⟨fun _ => none,(fun _ _ e => nomatch e),(fun _ _ e => nomatch e),.inl a⟩
 ·refine ⟨fun x => if x = b then some q else none,fun x k hk => ?_,fun x k hk => ?_,.inr ⟨b,c,te,cells,h1,⟨q,by simp,q2,q3,q4,q5⟩,h3,h4,h5⟩⟩
  ·simp only at hk
   split at hk
   ·rename_i e; subst e; cases hk; exact q1
   ·cases hk
  ·simp only at hk
   split at hk
   ·cases hk; exact q4
   ·cases hk
section
variable {H : Type}
theorem dat_rows {α : Type} {PE : α→List Value→HP} {Q : DataW H→α→Prop} {n s : Nat} {t e : TypeId} {d : DataW H} {cs : List Value} {h : PH} (a : Dat P (n + 1) t d cs h) (hu : P.underlying t = some (.slice e)) (hs : P.cellsOf e = s)
  (elem : ∀ x c,Dat P n e x c h→∃ y,PE y c h∧Q x y) :
  ∃ (v : Value) (l : List α),cs = [v]∧RowsR s PE v l h∧((d = .nil∧l = []) ∨ ∃ (el sp : List (DataW H)),d = .slice el sp∧el.length = l.length∧∀ (i : Nat) x y,el[i]? = some x→l[i]? = some y→Q x y) := by
 unfold Dat at a
 rw [hu] at a
 simp only [hs] at a
 rcases a with ⟨rfl,rfl⟩ | ⟨el,sp,b,te,cells,rfl,rfl,h3,h4,h5⟩
 ·exact ⟨snil,[],rfl,.inl ⟨rfl,rfl⟩,.inl ⟨rfl,rfl⟩⟩
 ·have hx : ∀ i : Fin el.length,∃ y,PE y ((cells.drop (i.1 * s)).take s) h∧Q el[i] y := fun i => elem _ _ (h5 i.1 el[i] (by rw [List.getElem?_append_left i.2,List.getElem?_eq_getElem i.2]; rfl))
  obtain ⟨f,hf⟩ : ∃ f : Fin el.length→α,∀ i,PE (f i) ((cells.drop (i.1 * s)).take s) h∧Q el[i] (f i) := ⟨fun i => (hx i).choose,fun i => (hx i).choose_spec⟩
  have hl : (List.ofFn f).length = el.length := List.length_ofFn
  have hle : el.length * s ≤ (el.length + sp.length) * s := Nat.mul_le_mul_right _ (Nat.le_add_right _ _)
  have hget : ∀ i y,(List.ofFn f)[i]? = some y→∃ hi : i < el.length,y = f ⟨i,hi⟩ := fun i y hy => by
   obtain ⟨h1,rfl⟩ := List.getElem?_eq_some_iff.1 hy
   exact ⟨by omega,by simp⟩
  refine ⟨_,List.ofFn f,rfl,.inr ⟨b,el.length + sp.length,te,cells,by rw [hl],h3,by omega,by rw [hl]; omega,fun i y hy => ?_⟩,.inr ⟨el,sp,rfl,hl.symm,fun i x y hx hy => ?_⟩⟩
  ·obtain ⟨hi,rfl⟩ := hget i y hy
   exact (hf ⟨i,hi⟩).1
  ·obtain ⟨hi,rfl⟩ := hget i y hy
   rw [List.getElem?_eq_getElem hi] at hx
   cases hx
   exact (hf ⟨i,hi⟩).2
theorem dat_int {n : Nat} {t : TypeId} {k : IntKind} {d : DataW H} {cs : List Value} {h : PH} (a : Dat P (n + 1) t d cs h) (hu : P.underlying t = some (.int k)) : ∃ z,d = .lit (.int k z)∧cs = [.int k z]∧(Lit.int k z).wf = true := by
 unfold Dat at a
 rw [hu] at a
 exact a
theorem dat_pos {n : Nat} {t : TypeId} {d : DataW H} {cs : List Value} {h : PH} (a : Dat P n t d cs h) : ∃ m,n = m + 1 := by
 cases n with
 | zero => exact a.elim
 | succ m => exact ⟨m,rfl⟩
theorem dat_nat {n : Nat} {t : TypeId} {k : IntKind} {d : DataW H} {cs : List Value} {h : PH} (a : Dat P n t d cs h) (hu : P.underlying t = some (.int k)) (hk : k.signed = false) : ∃ m : Nat,cs = [.int k (Int.ofNat m)] := by
 obtain ⟨n,rfl⟩ := dat_pos a
 obtain ⟨z,_,h2,h3⟩ := dat_int a hu
 obtain ⟨m,rfl,_⟩ := nat_of_wf hk h3
 exact ⟨m,h2⟩
theorem dat_bool {n : Nat} {t : TypeId} {d : DataW H} {cs : List Value} {h : PH} (a : Dat P (n + 1) t d cs h) (hu : P.underlying t = some .bool) : ∃ b,d = .lit (.bool b)∧cs = [.bool b] := by
 unfold Dat at a
 rw [hu] at a
 exact a
theorem cv_wf {z : Int} (h : (Lit.int .i64 z).wf = true) : cvOk .i64 z = true := by
 simp only [Lit.wf,Bool.and_eq_true,decide_eq_true_eq,IntKind.min,IntKind.max,IntKind.bits,IntKind.signed] at h
 cases z with
 | ofNat n =>
  show Nat.blt n (limA .i64) = true
  refine blt_iff.2 ?_
  have h2 := h.2
  simp only [limA] at *
  simp at h2
  omega
 | negSucc n =>
  show (!IntKind.signed .i64 || Nat.blt n (limA .i64)) = true
  rw [Bool.or_eq_true]
  refine .inr (blt_iff.2 ?_)
  have h1 := h.1
  simp only [limA] at *
  simp at h1
  omega
theorem dat_array {n k : Nat} {t e : TypeId} {d : DataW H} {cs : List Value} {h : PH} (a : Dat P (n + 1) t d cs h) (hu : P.underlying t = some (.array k e)) :
  ∃ ds : List (DataW H),d = .agg ds∧ds.length = k∧cs.length = P.cellsOf t∧∀ (i : Nat) x,ds[i]? = some x→Dat P n e x ((cs.drop (i * P.cellsOf e)).take (P.cellsOf e)) h := by
 unfold Dat at a
 rw [hu] at a
 exact a
theorem dat_struct {n : Nat} {t : TypeId} {fs : Array Field} {d : DataW H} {cs : List Value} {h : PH} (a : Dat P (n + 1) t d cs h) (hu : P.underlying t = some (.struct fs)) :
  ∃ ds : List (DataW H),d = .agg ds∧ds.length = fs.size∧cs.length = P.cellsOf t∧∀ (i : Nat) f x,fs[i]? = some f→ds[i]? = some x→Dat P n f.type x ((cs.drop f.offset).take (P.cellsOf f.type)) h := by
 unfold Dat at a
 rw [hu] at a
 exact a
end
end Go.CM
namespace Go.CM
open Go Go.ChangeShapes Go.WideShapes Go.ChangeAt Go.RowKit
variable {P : Program} {w : World}
theorem arg_agg {ρ : Ren} {r : Reach} {b0 : Nat} {t : TypeId} {fs : Array Field} {v : Value} {cs : List Value} (ht : P.underlying t = some (.struct fs)) (hv : Value.okWide P w r b0 t v) (h : LR ρ cs v.cells.toList) : VR ρ (.agg ⟨cs⟩) v := by
 unfold Value.okWide at hv
 rw [ht] at hv
 obtain ⟨c,rfl,_⟩ := hv
 exact .aggA (LR.toA h)
theorem arg_int {ρ : Ren} {r : Reach} {b0 : Nat} {t : TypeId} {k : IntKind} {v x : Value} (ht : P.underlying t = some (.int k)) (hv : Value.okWide P w r b0 t v) (h : LR ρ [x] v.cells.toList) : VR ρ x v := by
 have hval : Cell.okWide P w r b0 t v := by unfold Value.okWide at hv; rw [ht] at hv; exact hv
 have hne : ∀ cs,v ≠ .agg cs := by
  rintro cs rfl
  unfold Cell.okWide at hval
  rw [ht] at hval
  simp [Cell.ok,ht] at hval
 have e : v.cells.toList = [v] := by cases v <;> first | rfl | (exact absurd rfl (hne _))
 rw [e] at h
 cases h with
 | cons a _ => exact a
theorem ints_dat {H : Type} {n : Nat} {t e : TypeId} {d : DataW H} {cs : List Value} {h : PH} (a : Dat P n t d cs h) (hu : P.underlying t = some (.slice e)) (he : P.underlying e = some (.int .i64)) (hc : P.cellsOf e = 1) :
  ∃ (v : Value) (l : List Int),cs = [v]∧IntsR v l h∧((d = .nil∧l = []) ∨ ∃ (el sp : List (DataW H)),d = .slice el sp∧el.length = l.length∧∀ (i : Nat) (x : DataW H) (y : Int),el[i]? = some x→l[i]? = some y→True) := by
 obtain ⟨n,rfl⟩ := dat_pos a
 exact dat_rows (PE := fun z cs _ => cs = [i64 z]) (Q := fun _ _ => True) a hu hc fun x c hx => by
  obtain ⟨m,rfl⟩ := dat_pos hx
  obtain ⟨z,_,h2,_⟩ := dat_int hx he
  exact ⟨z,h2,trivial⟩
end Go.CM

namespace Go.CM
open Go
variable {P : Program} {con : CallT}
class Stp (p : Prop) (q : outParam Prop) : Prop where
 go : q→p
theorem run {p q : Prop} [h : Stp p q] (k : q) : p := h.go k
instance {α : Type} {v : α} {K : α→Prop} : Stp (Bnd v K) (K v) := ⟨id⟩
instance {k : IntKind} {z : Int} {K : Int→Prop} : Stp (AsInt k (.int k z) K) (K z) := ⟨AsInt.mk⟩
instance {k : IntKind} {n : Nat} {K : Nat→Prop} : Stp (AsNat k (.int k (Int.ofNat n)) K) (K n) := ⟨AsNat.mk⟩
instance {b : Bool} {K : Bool→Prop} : Stp (AsBool (.bool b) K) (K b) := ⟨AsBool.mk⟩
instance {b o : Nat} {K : Nat→Nat→Prop} : Stp (AsPtr (ptr b o) K) (K b o) := ⟨AsPtr.mk⟩
instance {b o l c : Nat} {K : Nat→Nat→Nat→Nat→Prop} : Stp (AsSlc (.slice (some ⟨b,o,none⟩) l c) K) (K b o l c) := ⟨AsSlc.mk⟩
instance {p : Option Addr} {l c : Nat} {K : Nat→Prop} : Stp (AsLen (.slice p l c) K) (K l) := ⟨AsLen.mk⟩
instance {k : IntKind} {n : Nat} {K : Nat→Prop} : Stp (AsCnt (.int k (Int.ofNat n)) K) (K n) := ⟨AsCnt.mk⟩
instance {cs : List Value} {K : List Value→Prop} : Stp (AsAgg (.agg ⟨cs⟩) K) (K cs) := ⟨AsAgg.mk⟩
instance {cs : List Value} {K : List Value→Prop} : Stp (AsTup (.tuple ⟨cs⟩) K) (K cs) := ⟨AsTup.mk⟩
instance {g : Nat} {a b : List Value} {K : Nat→List Value→List Value→Prop} : Stp (AsFn (.func (.func g) ⟨a⟩ ⟨b⟩) K) (K g a b) := ⟨AsFn.mk⟩
instance {b o : Nat} {K : Prop} : Stp (NotNil P (ptr b o) K) K := ⟨NotNil.ptr⟩
instance {t : Nat} {v : Value} {K : Prop} : Stp (NotNil P (.iface t v) K) K := ⟨NotNil.ifc⟩
instance {g : Nat} {a b : Array Value} {K : Prop} : Stp (NotNil P (.func (.func g) a b) K) K := ⟨NotNil.fnc⟩
instance {b o : Nat} {K : Bool→Prop} : Stp (IsNil .ptr (ptr b o) K) (K false) := ⟨IsNil.ptr⟩
instance {K : Bool→Prop} : Stp (IsNil .ptr (.pointer none) K) (K true) := ⟨IsNil.ptr0⟩
instance {a : Addr} {l c : Nat} {K : Bool→Prop} : Stp (IsNil .slc (.slice (some a) l c) K) (K false) := ⟨IsNil.slc⟩
instance {l c : Nat} {K : Bool→Prop} : Stp (IsNil .slc (.slice none l c) K) (K true) := ⟨IsNil.slc0⟩
instance {t : Nat} {v : Value} {K : Bool→Prop} : Stp (IsNil .ifc (.iface t v) K) (K false) := ⟨IsNil.ifc⟩
instance {K : Bool→Prop} : Stp (IsNil .ifc .nilIface K) (K true) := ⟨IsNil.ifc0⟩
instance {k : IntKind} {z : Int} {K : Prop} : Stp (Sc (.int k z) K) K := ⟨Sc.mk rfl⟩
instance {b : Bool} {K : Prop} : Stp (Sc (.bool b) K) K := ⟨Sc.mk rfl⟩
instance {s : ByteArray} {K : Prop} : Stp (Sc (.string s) K) K := ⟨Sc.mk rfl⟩
instance {p : Option Addr} {K : Prop} : Stp (Sc (.pointer p) K) K := ⟨Sc.mk rfl⟩
instance {p : Option Addr} {l c : Nat} {K : Prop} : Stp (Sc (.slice p l c) K) K := ⟨Sc.mk rfl⟩
instance {t : Nat} {v : Value} {K : Prop} : Stp (Sc (.iface t v) K) K := ⟨Sc.mk rfl⟩
instance {p : Option Addr} {l c : Nat} {K : Prop} : Stp (Same (.slice p l c) (.slice p l c) K) K := ⟨Same.slc⟩
instance {b o : Nat} {K : Prop} : Stp (Same (ptr b o) (ptr b o) K) K := ⟨Same.ptr⟩
instance {k : IntKind} {z : Int} {K : Prop} : Stp (Same (.int k z) (.int k z) K) K := ⟨Same.int⟩
instance {b : Bool} {K : Prop} : Stp (Same (.bool b) (.bool b) K) K := ⟨Same.bool⟩
instance {p q : Prop} : Stp (Cd true p q) p := ⟨Cd.t rfl⟩
instance {p q : Prop} : Stp (Cd false p q) q := ⟨Cd.f rfl⟩
instance {b : Bool} {K0 : Prop} {K : Bool→Prop} : Stp (AsWant (.bool b) K0 K) (K b) := ⟨AsWant.mk⟩
instance {s : ByteArray} {K : ByteArray→Prop} : Stp (AsStr (.string s) K) (K s) := ⟨AsStr.mk⟩
theorem ct {b : Bool} {p q : Prop} (h : p) (hb : b = true := by first | rfl | decide +kernel) : Cd b p q := Cd.t hb h
theorem cf {b : Bool} {p q : Prop} (h : q) (hb : b = false := by first | rfl | decide +kernel) : Cd b p q := Cd.f hb h
theorem sk {v : Value} {K : Prop} (h : K) (hv : isCell v = true := by rfl) : Sc v K := Sc.mk hv h
theorem nk {l : List Value} {i : Nat} {v : Value} {K : Value→Prop} (h : K v) (hv : l[i]? = some v := by rfl) : Nth l i K := Nth.mk hv h
theorem mu {p : Bool} {K : Prop} (h : K) (hp : p = true := by rfl) : Must p K := Must.mk hp h
theorem la {L : List HP} {H : CH} {b off : Nat} {cs : List Value} {v : Value} {K : Value→Prop} (hv : cs[off]? = some v) (k : K v) (hs : Sat L H := by assumption) [HasCell L b cs] : Ld H b off K := ld hs hv k
theorem na {L : List HP} {H : CH} {e s : Nat} {cs : List Value} {K : Nat→CH→Prop} (k : ∀ b H1,Sat (Own b cs::L) H1→K b H1) (hs : Sat L H := by assumption) : Nw H (mkRow e s cs) K := nw hs k
theorem sa {L : List HP} {H : CH} {b off : Nat} {cs : List Value} {v : Value} {F : List Value→List HP} {K : CH→Prop} (hv : Nat.blt off cs.length = true) (k : ∀ H1,Sat (F (cs.set off v)) H1→K H1) (hs : Sat L H := by assumption) [HasObj L b cs F] (hc : isCell v = true := by rfl) : St H b off [v] K := stB hs hv hc k
theorem ac {k : IntKind} {n : Nat} {K : Nat→Prop} (h : K n) : AsCnt (.int k (Int.ofNat n)) K := AsCnt.mk h
theorem ai {k : IntKind} {z : Int} {K : Int→Prop} (h : K z) : AsInt k (.int k z) K := AsInt.mk h
theorem gO {p q : Prop} (k : q) (h : q→p := by first | exact run | exact fun k => ct k | exact fun k => cf k | exact fun k => sk k | exact fun k => la rfl k | exact fun k => na k | exact fun k => sa rfl k | exact fun k => nk k | exact fun k => mu k | exact fun k => ac k | exact fun k => ai k) : p := h k
end Go.CM

namespace Go.CM
open Go
variable {P : Program} {con : CallT}
theorem codeW_app : ∀ (l m : List Code) (σ : TF) (H : CH) (K : KX),codeW (seqL (l++m)) P con σ H K = codeW (seqL l) P con σ H (fun e => ceP e (fun σ1 H1 => codeW (seqL m) P con σ1 H1 K) (fun i => K (.exit i)) (K .ret))
 | [],m,σ,H,K => rfl
 | c::l,m,σ,H,K => by
  show codeW c P con σ H (fun e => ceP e (fun σ1 H1 => codeW (seqL (l++m)) P con σ1 H1 K) (fun i => K (.exit i)) (K .ret)) = codeW c P con σ H (fun e => ceP e (fun σ1 H1 => codeW (seqL l) P con σ1 H1 _) (fun i => K (.exit i)) (K .ret))
  congr 1
  funext e
  cases e with
  | normal => funext σ1 H1; exact codeW_app l m σ1 H1 K
  | exit i => rfl
  | ret => rfl
theorem codeW_one (c : Code) (σ : TF) (H : CH) (K : KX) : codeW (seqL [c]) P con σ H K = codeW c P con σ H K := by
 show codeW c P con σ H _ = codeW c P con σ H K
 congr 1
 funext e
 cases e <;> rfl
theorem codeW_flat : ∀ (c : Code) (σ : TF) (H : CH) (K : KX),codeW (seqL (flatC c)) P con σ H K = codeW c P con σ H K
 | .seq a b,σ,H,K => by
  show codeW (seqL (flatC a++flatC b)) P con σ H K = codeW a P con σ H (fun e => ceP e (fun σ1 H1 => codeW b P con σ1 H1 K) (fun i => K (.exit i)) (K .ret))
  rw [codeW_app,codeW_flat a]
  congr 1
  funext e
  cases e with
  | normal => funext σ1 H1; exact codeW_flat b σ1 H1 K
  | exit i => rfl
  | ret => rfl
 | .skip,σ,H,K => codeW_one _ σ H K
 | .region ..,σ,H,K => codeW_one _ σ H K
 | .cond ..,σ,H,K => codeW_one _ σ H K
 | .block ..,σ,H,K => codeW_one _ σ H K
 | .loop ..,σ,H,K => codeW_one _ σ H K
 | .rangeFunc ..,σ,H,K => codeW_one _ σ H K
 | .exit ..,σ,H,K => codeW_one _ σ H K
 | .ret,σ,H,K => codeW_one _ σ H K
 | .scope ..,σ,H,K => codeW_one _ σ H K
 | .label ..,σ,H,K => codeW_one _ σ H K
 | .goto ..,σ,H,K => codeW_one _ σ H K
 | .refuse ..,σ,H,K => codeW_one _ σ H K
theorem codeW_cut (k : Nat) (c : Code) (σ : TF) (H : CH) (K : KX) : codeW c P con σ H K = codeW (takeC k c) P con σ H (fun e => ceP e (fun σ1 H1 => codeW (dropC k c) P con σ1 H1 K) (fun i => K (.exit i)) (K .ret)) := by
 rw [← codeW_flat c]
 conv => lhs; rw [← List.take_append_drop k (flatC c)]
 exact codeW_app _ _ σ H K
theorem codeW_cut2 (k n : Nat) (c : Code) (σ : TF) (H : CH) (K : KX) : codeW (dropC k c) P con σ H K = codeW (sliceC k n c) P con σ H (fun e => ceP e (fun σ1 H1 => codeW (dropC (k + n) c) P con σ1 H1 K) (fun i => K (.exit i)) (K .ret)) := by
 have e : (flatC c).drop k = ((flatC c).drop k).take n++(flatC c).drop (k + n) := by rw [← List.drop_drop,List.take_append_drop]
 unfold dropC sliceC
 conv => lhs; rw [e]
 exact codeW_app _ _ σ H K
theorem codeW_blk {c : Code} {id : Nat} (h : c = .block id (blkC c)) (σ : TF) (H : CH) (K : KX) : codeW c P con σ H K = codeW (blkC c) P con σ H (fun e => ceP e (K .normal) (fun i σ1 H1 => Cd (eqN i id) (K .normal σ1 H1) (K (.exit i) σ1 H1)) (K .ret)) := by
 conv => lhs; rw [h]
 rfl
theorem OpN.of {σ : TF} {H H1 : CH} {op : Op} {v : Value} {K : KP} (h : cop P (fun o => feval o σ) H op = some (.val v,H1)) (k : K v H1) : OpN P H σ op K := ⟨by rw [h]; exact k⟩
theorem Same.agg3 {k1 k2 k3 : IntKind} {a b c : Int} {K : Prop} (h : K) : Same (.agg ⟨[.int k1 a,.int k2 b,.int k3 c]⟩) (.agg ⟨[.int k1 a,.int k2 b,.int k3 c]⟩) K := ⟨Must.mk (by simp [veq,veqL]) h⟩
instance {k1 k2 k3 : IntKind} {a b c : Int} {K : Prop} : Stp (Same (.agg ⟨[.int k1 a,.int k2 b,.int k3 c]⟩) (.agg ⟨[.int k1 a,.int k2 b,.int k3 c]⟩) K) K := ⟨Same.agg3⟩
theorem ofInt_nat (w : Nat) : (BitVec.ofInt 64 (Int.ofNat w)).toNat = w % 18446744073709551616 := by
 show (BitVec.ofInt 64 ((w : Nat) : Int)).toNat = _
 rw [BitVec.ofInt_natCast,BitVec.toNat_ofNat]
theorem wrap_u64 {n : Nat} (h : n < 18446744073709551616) : IntKind.wrap .u64 ((n : Nat) : Int) = Int.ofNat n := by
 show ((n : Int) % (18446744073709551616 : Int)) = (n : Int)
 omega
theorem CInt.and {w n m : Nat} {K : Value→Prop} (hw : w < 18446744073709551616) (hn : n < 18446744073709551616) (h : w &&& n = m) (k : K (u64 m)) : CInt .and .u64 (Int.ofNat w) (Int.ofNat n) K := by
 refine ⟨?_⟩
 have e : cintOp .and .u64 (Int.ofNat w) (Int.ofNat n) = some (u64 m) := by
  show some (Value.int .u64 (IntKind.wrap .u64 ((BitVec.ofInt 64 (Int.ofNat w) &&& BitVec.ofInt 64 (Int.ofNat n)).toNat : Int))) = _
  rw [BitVec.toNat_and,ofInt_nat,ofInt_nat,Nat.mod_eq_of_lt hw,Nat.mod_eq_of_lt hn,h]
  rw [wrap_u64 (by rw [← h]; exact Nat.lt_of_le_of_lt Nat.and_le_left hw)]
 rw [e]; exact k
theorem CInt.or {w n m : Nat} {K : Value→Prop} (hw : w < 18446744073709551616) (hn : n < 18446744073709551616) (h : w ||| n = m) (hm : m < 18446744073709551616) (k : K (u64 m)) : CInt .or .u64 (Int.ofNat w) (Int.ofNat n) K := by
 refine ⟨?_⟩
 have e : cintOp .or .u64 (Int.ofNat w) (Int.ofNat n) = some (u64 m) := by
  show some (Value.int .u64 (IntKind.wrap .u64 ((BitVec.ofInt 64 (Int.ofNat w) ||| BitVec.ofInt 64 (Int.ofNat n)).toNat : Int))) = _
  rw [BitVec.toNat_or,ofInt_nat,ofInt_nat,Nat.mod_eq_of_lt hw,Nat.mod_eq_of_lt hn,h,wrap_u64 hm]
 rw [e]; exact k
theorem wrapI_small {n : Nat} (h : n < 9223372036854775808) : IntKind.wrap .i64 (Int.ofNat n) = Int.ofNat n := by
 have e : ((Int.ofNat n) % (2 ^ IntKind.bits .i64 : Int)) = Int.ofNat n := by
  show (n : Int) % (18446744073709551616 : Int) = (n : Int)
  omega
 unfold IntKind.wrap
 simp only [e]
 rw [if_neg]
 intro hh
 rw [Bool.and_eq_true] at hh
 have := of_decide_eq_true hh.2
 have : (9223372036854775808 : Int) ≤ (n : Int) := this
 omega
theorem CInt.mulI {a b m : Nat} {K : Value→Prop} (h : a * b = m) (hm : m < 9223372036854775808) (k : K (i64 (Int.ofNat m))) : CInt .mul .i64 (Int.ofNat a) (Int.ofNat b) K := by
 refine ⟨?_⟩
 have e : cintOp .mul .i64 (Int.ofNat a) (Int.ofNat b) = some (i64 (Int.ofNat m)) := by
  show some (Value.int .i64 (IntKind.wrap .i64 (Int.ofNat (a * b)))) = _
  rw [h,wrapI_small hm]
 rw [e]; exact k
theorem CInt.quoI {a b m : Nat} {K : Value→Prop} (hb : 0 < b) (h : a / b = m) (hm : a < 9223372036854775808) (k : K (i64 (Int.ofNat m))) : CInt .quo .i64 (Int.ofNat a) (Int.ofNat b) K := by
 refine ⟨?_⟩
 have e : cintOp .quo .i64 (Int.ofNat a) (Int.ofNat b) = some (i64 (Int.ofNat m)) := by
  have hz : (Int.ofNat b : Int) ≠ 0 := fun h0 => by have : b = 0 := Int.ofNat.inj h0; omega
  show (if (Int.ofNat b : Int) = 0 then none else some (Value.int .i64 (IntKind.wrap .i64 ((Int.ofNat a).tdiv (Int.ofNat b))))) = _
  rw [if_neg hz]
  have e2 : (Int.ofNat a).tdiv (Int.ofNat b) = Int.ofNat (a / b) := rfl
  have : a / b ≤ a := Nat.div_le_self a b
  rw [e2,h,wrapI_small (by omega)]
 rw [e]; exact k
theorem CInt.xorE {a b : Int} {K : Value→Prop} (k : ∀ m,m < 18446744073709551616→K (u64 m)) : CInt .xor .u64 a b K := by
 refine ⟨?_⟩
 have hlt : (BitVec.ofInt 64 a ^^^ BitVec.ofInt 64 b).toNat < 18446744073709551616 := (BitVec.ofInt 64 a ^^^ BitVec.ofInt 64 b).isLt
 have e : cintOp .xor .u64 a b = some (u64 (BitVec.ofInt 64 a ^^^ BitVec.ofInt 64 b).toNat) := by
  show some (Value.int .u64 (IntKind.wrap .u64 ((BitVec.ofInt 64 a ^^^ BitVec.ofInt 64 b).toNat : Int))) = _
  rw [wrap_u64 hlt]
 rw [e]; exact k _ hlt
theorem subM_small {x y m : Nat} (h : y ≤ x) (hx : x < m) : subM m x y = x - y := by
 unfold subM
 show Int.toNat (((x : Int) - (y : Int)) % (m : Int)) = _
 rw [Int.emod_eq_of_lt (by omega) (by omega)]
 omega
def tabOk (s : ByteArray) : Bool := (List.range 256).all fun j => match s[j]? with | some b => Nat.ble b.toNat 8 && (Nat.beq j 0 || Nat.ble (2 ^ b.toNat) (2 * j)) | none => false
theorem OpN.tab {σ : TF} {H : CH} {t : TypeId} {ix : Operand} {s : ByteArray} {k : IntKind} {j : Nat} {K : KP} (hu : P.underlying t = some .string) (hs : tabOk s = true) (hi : feval ix σ = .int k (Int.ofNat j)) (hj : j < 256)
  (kk : ∀ c,c ≤ 8→(0 < j→2 ^ c ≤ 2 * j)→K (u8 c) H) : OpN P H σ (.index t (.const (.string s)) ix) K := by
 have h1 := List.all_eq_true.1 hs j (List.mem_range.2 hj)
 cases hb : s[j]? with
 | none => rw [hb] at h1; cases h1
 | some b =>
  rw [hb] at h1
  simp only [Bool.and_eq_true,Bool.or_eq_true] at h1
  refine OpN.of (v := u8 b.toNat) (H1 := H) ?_ (kk b.toNat (Nat.le_of_ble_eq_true h1.1) fun h0 => ?_)
  ·show (cindex P t (.string s) (feval ix σ)).map (fun x => (CN.val x,H)) = _
   rw [hi]
   unfold cindex
   simp only [hu]
   rw [if_pos (show (0 : Int) ≤ Int.ofNat j from Int.natCast_nonneg j)]
   show Option.map (fun x => (CN.val x,H)) (match s[j]? with | some b => some (Value.int .u8 b.toNat) | none => none) = _
   rw [hb]; rfl
  ·rcases h1.2 with h | h
   ·have := Nat.eq_of_beq_eq_true h; omega
   ·exact Nat.le_of_ble_eq_true h
def Mem.Bd (M : Mem) : Prop := ∀ x ∈ M.cells,x < 18446744073709551616
theorem Mem.Bd.peek {M : Mem} (h : M.Bd) (a : Nat) : M.peek a < 18446744073709551616 := by
 unfold Mem.peek
 rw [List.getD_eq_getElem?_getD]
 cases e : M.cells[a]? with
 | none => simp
 | some x => exact h x (List.mem_of_getElem? e)
theorem Mem.Bd.put {M : Mem} (h : M.Bd) (a : Nat) {x : Nat} (hx : x < 18446744073709551616) : (M.put a x).Bd := fun y hy => by
 rcases List.mem_or_eq_of_mem_set hy with h1 | rfl
 ·exact h y h1
 ·exact hx
theorem Mem.Bd.note {M : Mem} (h : M.Bd) (c : Acs) : (M.note c).Bd := h
theorem Mem.Bd.load {M : Mem} (h : M.Bd) (th : Int) (a : Nat) : (M.load th a).Bd := h
theorem Mem.Bd.store {M : Mem} (h : M.Bd) (th : Int) (a : Nat) {x : Nat} (hx : x < 18446744073709551616) : (M.store th a x).Bd := h.put a hx
theorem Mem.Bd.cas {M : Mem} (h : M.Bd) (th : Int) (a x : Nat) {y : Nat} (hy : y < 18446744073709551616) : (M.cas th a x y).Bd := by
 unfold Mem.cas
 split
 ·exact (h.put a hy).note _
 ·exact h.note _
end Go.CM

namespace Go.CM
open Go
variable {P : Program} {con : CallT}
end Go.CM

namespace Go.CM
open Go Go.ChangeShapes Go.WideShapes Go.ChangeAt Go.RowKit
variable {P : Program} {w : World}
theorem AsSlc.eq {v : Value} {b o l c : Nat} {K : Nat→Nat→Nat→Nat→Prop} (e : v = .slice (some ⟨b,o,none⟩) l c) (h : K b o l c) : AsSlc v K := by rw [e]; exact AsSlc.mk h
theorem AsLen.eq {v : Value} {p : Option Addr} {l c : Nat} {K : Nat→Prop} (e : v = .slice p l c) (h : K l) : AsLen v K := by rw [e]; exact AsLen.mk h
def runE (P : Program) (known : FuncId→Option Value) (lf n : Nat) (f : FuncId) : Bool :=
 match evalCall P known lf n f #[] H0 with
 | some (v,_) => (match v with | .bool b => b | _ => false)
 | none => false
theorem of_runE {P : Program} {known : FuncId→Option Value} {lf n : Nat} {f : FuncId} (h : runE P known lf n f = true) : ∃ H1,evalCall P known lf n f #[] H0 = some (.bool true,H1) := by
 unfold runE at h
 cases e : evalCall P known lf n f #[] H0 with
 | none => rw [e] at h; cases h
 | some r =>
  obtain ⟨v,H1⟩ := r
  rw [e] at h
  cases v with
  | bool b => simp only at h; subst h; exact ⟨H1,rfl⟩
  | _ => cases h
end Go.CM

namespace Go.CM
open Go
variable {P : Program} {con : CallT}
theorem ovw_cons (v : Value) (r cs : List Value) (off : Nat) : ovw (v::r) cs off = ovw r (cs.set off v) (off + 1) := by
 show ovw r (setN cs v off) (off + 1) = _
 rw [setN_eq]
theorem flat_ovw {s : Nat} : ∀ (vs : List Value) {l : List (List Value)},(∀ r ∈ l,r.length = s)→∀ (i j : Nat) (row : List Value),l[i]? = some row→j + vs.length ≤ s→ovw vs l.flatten (i * s + j) = (l.set i (ovw vs row j)).flatten
 | [],l,hl,i,j,row,hr,hj => by
  show l.flatten = (l.set i row).flatten
  rw [show l.set i row = l from by
   apply List.ext_getElem?
   intro k
   rw [List.getElem?_set]
   by_cases h : i = k
   ·subst h
    rw [if_pos rfl,if_pos (List.getElem?_eq_some_iff.1 hr).1,hr]
   ·rw [if_neg h]]
 | v::vs,l,hl,i,j,row,hr,hj => by
  simp only [List.length_cons] at hj
  have hi := (List.getElem?_eq_some_iff.1 hr).1
  rw [ovw_cons,flat_set hl i j row v hr (by omega)]
  have h1 : ∀ r ∈ l.set i (row.set j v),r.length = s := fun r h => by
   rcases List.mem_or_eq_of_mem_set h with h | h
   ·exact hl r h
   ·rw [h,List.length_set]; exact hl row (List.mem_of_getElem? hr)
  rw [show i * s + j + 1 = i * s + (j + 1) from rfl,flat_ovw vs h1 i (j + 1) (row.set j v) (by rw [List.getElem?_set,if_pos rfl,if_pos hi]) (by omega),List.set_set,ovw_cons]
theorem satL_cons {A : HP} {l : List HP} {h : PH} (a : SatL [A,SatL l] h) : SatL (A::l) h := by
 obtain ⟨h1,h2,s1,s2,d,x,g1,g2,t1,t2,d2,y,_⟩ := a
 exact ⟨h1,h2,s1,s2,d,x,y.mono t1⟩
theorem ldRow {L : List HP} {H : CH} {b off : Nat} {cs : List Value} {v : Value} {K : Value→Prop} (hs : Sat L H) [HasCell L b cs] {i : Nat} (ho : off = i) (hv : cs[i]? = some v) (k : K v) : Ld H b off K := by
 subst ho; exact ld hs hv k
end Go.CM

namespace Go.CM
open Go
variable {P : Program} {con : CallT}
theorem satL_triv {L : List HP} {h : PH} {A : HP} (y : SatL L h) (f : ∀ g,A g) : SatL (A::L) h := ⟨fun _ => none,h,(fun _ _ e => nomatch e),Subh.refl _,(fun _ _ _ e => nomatch e),f _,y⟩
theorem SatL.imp2 {A B B' : HP} {h : PH} (a : SatL [A,B] h) (f : ∀ g,B g→B' g) : SatL [A,B'] h := a.under fun _ b => b.imp f
theorem SatL.first {A B : HP} {L : List HP} {h : PH} (a : SatL (A::L) h) (m : ∀ g,A g→Subh g h→B h) : B h := by
 obtain ⟨h1,h2,s1,s2,d,x,y⟩ := a
 exact m h1 x s1
theorem SatL.second {A B : HP} {L : List HP} {h : PH} (a : SatL (A::B::L) h) : ∃ g,B g := by
 obtain ⟨h1,h2,s1,s2,d,x,g1,g2,t1,t2,d2,y,z⟩ := a
 exact ⟨g1,y⟩
theorem SatL.pair {A : HP} {l : List HP} {h : PH} (a : SatL (A::l) h) : SatL [A,SatL l] h := by
 obtain ⟨h1,h2,s1,s2,d,x,y⟩ := a
 exact ⟨h1,h2,s1,s2,d,x,h2,fun _ => none,Subh.refl _,(fun _ _ e => nomatch e),(fun _ _ _ _ e => nomatch e),y,trivial⟩
theorem Sat.uncons {A : HP} {l L : List HP} {H : CH} (hs : Sat (SatL (A::l)::L) H) : Sat (A::SatL l::L) H := by
 obtain ⟨h1,h2,s1,s2,d,a,y⟩ := hs.opens Pull.here
 exact Sat.merge (L1 := [_,_]) s1 s2 d (SatL.pair a) y
theorem Sat.recons {A : HP} {l L : List HP} {H : CH} (hs : Sat (A::SatL l::L) H) : Sat (SatL (A::l)::L) H :=
 Sat.close (L1 := [_,_]) hs fun g a => satL_cons a
def Stk (x : Value) (e s : Nat) (l : List (List Value)) : HP := fun h => ∃ (b c es : Nat) (rows : List (List Value)),(es = 0 ∨ es = s)∧0 < s∧(∀ r ∈ rows,r.length = s)∧rows.take l.length = l∧l.length ≤ c∧c ≤ rows.length∧x = slc b 0 l.length c∧Row b e es true rows.flatten h
theorem Stk.mono {x : Value} {e s : Nat} {l : List (List Value)} {h g : PH} (a : Stk x e s l h) (t : Subh h g) : Stk x e s l g := by
 obtain ⟨b,c,es,rows,h1,h2,h3,h4,h5,h6,h7,h8⟩ := a
 exact ⟨b,c,es,rows,h1,h2,h3,h4,h5,h6,h7,h8.mono t⟩
theorem Has.stk {x : Value} {e s : Nat} {l : List (List Value)} {L : List HP} : Has (Stk x e s l::L) (Stk x e s l) := Has.here fun a t => a.mono t
theorem Stk.shape {x : Value} {e s : Nat} {l : List (List Value)} {h : PH} (a : Stk x e s l h) : ∃ b c,x = slc b 0 l.length c := by
 obtain ⟨b,c,es,rows,h1,h2,h3,h4,h5,h6,h7,h8⟩ := a
 exact ⟨b,c,h7⟩
theorem Stk.rows {x : Value} {e s : Nat} {l : List (List Value)} {h : PH} (a : Stk x e s l h) : ∀ r ∈ l,r.length = s := by
 obtain ⟨b,c,es,rows,h1,h2,h3,h4,h5,h6,h7,h8⟩ := a
 intro r hr
 rw [← h4] at hr
 exact h3 r (List.mem_of_mem_take hr)
theorem Vec.stk {x : Value} {e s : Nat} {l : List (List Value)} {h : PH} (a : Vec x e s l h) (hs : 0 < s) (hne : l ≠ []) : Stk x e s l h := by
 obtain ⟨a1,⟨_,a2⟩ | ⟨b,h1,h2,h3⟩⟩ := a
 ·exact absurd a2 hne
 ·exact ⟨b,l.length,s,l,.inr rfl,hs,a1,List.take_length,Nat.le_refl _,Nat.le_refl _,h2,h3⟩
theorem Row.stk {b e s n : Nat} {cs : List Value} {l : List (List Value)} {h : PH} (a : Row b e 0 true cs h) (hc : cs = l.flatten) (hl : ∀ r ∈ l,r.length = s) (hs : 0 < s) (hn : n = l.length) : Stk (slc b 0 n n) e s l h := by
 subst hn hc
 exact ⟨b,l.length,0,l,.inl rfl,hs,hl,List.take_length,Nat.le_refl _,Nat.le_refl _,rfl,a⟩
theorem Stk.src {x : Value} {e s b n c i : Nat} {l : List (List Value)} {row : List Value} {L : List HP} (h : Has L (Stk x e s l)) (hx : x = slc b 0 n c) (hr : l[i]? = some row) : Src L b (i * s) row := fun g a => by
 obtain ⟨b',c',es,rows,h1,h2,h3,h4,h5,h6,h7,k,k1,k2,k3,k4,k5,kf,k6,k7⟩ := h g a
 rw [hx] at h7
 cases h7
 have hil : i < l.length := (List.getElem?_eq_some_iff.1 hr).1
 have hr2 : rows[i]? = some row := by
  rw [← h4,List.getElem?_take] at hr
  rw [if_pos hil] at hr; exact hr
 refine ⟨k,k1,k5,fun j hj => ?_⟩
 have hrl := h3 row (List.mem_of_getElem? hr2)
 rw [k7,flat_get h3 i j row hr2 (by omega)]
theorem ldStk {L : List HP} {H : CH} {x : Value} {e s b n c off i j : Nat} {l : List (List Value)} {row : List Value} {v : Value} {K : Value→Prop} (hs : Sat L H) (hV : Has L (Stk x e s l)) (hx : x = slc b 0 n c)
  (hr : l[i]? = some row) (ho : off = i * s + j) (hv : row[j]? = some v) (k : K v) : Ld H b off K :=
 ldSrc hs (Stk.src hV hx hr) ho hv k
theorem fresh1 {x : Nat} : Nat.ble (x + 1) x = false := by
 cases hb : Nat.ble (x + 1) x with
 | false => rfl
 | true => have := Nat.le_of_ble_eq_true hb; omega
theorem app_stk {L R : List HP} {H : CH} {st xt e s by_ p o xc : Nat} {x : Value} {l : List (List Value)} {new : List Value} {K : KP} (hs : Sat L H) (hp : Pull L (Stk x e s l) R) (ht : elemOk P st e s by_ = true) (hb : by_ ≤ 1000) (hxt : ∃ e',P.underlying xt = some (.slice e'))
  (hn : Src R p o new) (hnl : new.length = s) (hne : l ≠ []) (hlen : l.length + 1 ≤ 1000000000) (hcell : new.all isCell = true)
  (k : ∀ v H1,Sat (Stk v e s (l++[new])::R) H1→K v H1) : App P st xt H x (.slice (some ⟨p,o,none⟩) 1 xc) K := by
 have hs0 := hs.pull hp
 have hsk := (hs0.has Has.stk).rows
 have hnf : [new].flatten = new := by rw [List.flatten_cons,List.flatten_nil,List.append_nil]
 have hall : ∀ r ∈ l++[new],r.length = s := fun r hr => by
  rcases List.mem_append.1 hr with h | h
  ·exact hsk r h
  ·rw [List.mem_singleton.1 h]; exact hnl
 have hpos : 0 < l.length := by cases l with | nil => exact absurd rfl hne | cons _ _ => simp
 obtain ⟨g1,g2,t1,t2,dj,⟨b,c,es,rows,h1,h2,h3,h4,h5,h6,rfl,h8⟩,hR⟩ := hs0
 have hRs : Sat R H := hR.mono t2
 have hs1 : Sat (Row b e es true rows.flatten::R) H := ⟨g1,g2,t1,t2,dj,h8,hR⟩
 have hflat : rows.flatten.length = rows.length * s := flat_len h3
 have hlr : l.length ≤ rows.length := Nat.le_trans h5 h6
 have hlf : (rows.flatten.take (l.length * s)) = l.flatten := by
  have e1 : rows.flatten = (rows.take l.length).flatten++(rows.drop l.length).flatten := by rw [← List.flatten_append,List.take_append_drop]
  rw [e1,h4,List.take_append_of_le_length (by rw [flat_len hsk]; exact Nat.le_refl _),List.take_of_length_le (by rw [flat_len hsk]; exact Nat.le_refl _)]
 by_cases hop : es = s∧l.length = c∧c = rows.length
 ·
  obtain ⟨rfl,rfl,e2⟩ := hop
  have e3 : rows = l := by rw [← h4,e2,List.take_length]
  subst e3
  have hv : Sat (Vec (slc b 0 rows.length rows.length) e es rows::R) H := hs1.imp fun g a => ⟨h3,.inr ⟨b,hne,rfl,a⟩⟩
  refine app_vec (new := [new]) hv Pull.here ht hb hxt (by rw [hnf]; exact hn.skip) rfl (by simpa using hnl) hlen (by rw [hnf]; exact hcell) fun v H1 h1 => ?_
  exact k v H1 (h1.imp fun g a => a.stk h2 (by simp))
 obtain ⟨hu,⟨i,z,hi,hz,q1,q2,q3⟩,hsp⟩ := elemOk.out ht
 obtain ⟨e',hu'⟩ := hxt
 obtain ⟨s,rfl⟩ : ∃ m,s = m + 1 := ⟨s - 1,by omega⟩
 have hsrc : srcCells H (s + 1) 1 (.slice (some ⟨p,o,none⟩) 1 xc) = some new := src_cells hRs hn (by rw [hnl,Nat.one_mul])
 have hbeq : Nat.beq new.length (1 * (s + 1)) = true := by rw [hnl,Nat.one_mul]; exact Nat.beq_refl _
 have hzz : Nat.beq z.cells.size (s + 1) = true := by rw [q3]; exact Nat.beq_refl _
 by_cases hlt : l.length < c
 ·
  have hle : Nat.ble (l.length + 1) c = true := Nat.ble_eq_true_of_le hlt
  have hjr : l.length < rows.length := Nat.lt_of_lt_of_le hlt h6
  have hst : St H b (0 + l.length * (s + 1)) new (fun H1 => K (slc b 0 (l.length + 1) c) H1) := by
   refine stN hs1 ?_ hcell fun H1 h => ?_
   ·rw [hflat,hnl,Nat.zero_add,← Nat.succ_mul]; exact Nat.mul_le_mul_right _ hjr
   ·have hrow : rows[l.length]? = some rows[l.length] := List.getElem?_eq_getElem hjr
    rw [show 0 + l.length * (s + 1) = l.length * (s + 1) + 0 by omega,flat_ovw new h3 l.length 0 _ hrow (by omega)] at h
    have hrl : (rows[l.length]).length = s + 1 := h3 _ (List.getElem_mem hjr)
    have e1 : ovw new rows[l.length] 0 = new := by
     have : ∀ (vs : List Value) (pre cs : List Value),cs.length = vs.length→ovw vs (pre++cs) pre.length = pre++vs := by
      intro vs
      induction vs with
      | nil => intro pre cs h; rw [List.eq_nil_of_length_eq_zero h]; rfl
      | cons v vs ih =>
       intro pre cs h
       cases cs with
       | nil => simp at h
       | cons w cs =>
        rw [ovw_cons,List.set_append_right _ _ (Nat.le_refl _),Nat.sub_self,List.set_cons_zero]
        have := ih (pre++[v]) cs (by simpa using h)
        rw [List.length_append,List.length_singleton,List.append_assoc,List.append_assoc] at this
        exact this
     exact this new [] _ (by rw [hnl]; exact hrl)
    rw [e1] at h
    refine k _ _ (h.imp fun g a => ⟨b,c,es,rows.set l.length new,h1,h2,fun r hr' => ?_,?_,?_,?_,?_,a⟩)
    ·rcases List.mem_or_eq_of_mem_set hr' with h | h
     ·exact h3 r h
     ·rw [h]; exact hnl
    ·rw [List.length_append,List.length_singleton,List.take_add_one,List.take_set_of_le (Nat.le_refl _),h4,List.getElem?_set,if_pos rfl,if_pos hjr]; rfl
    ·rw [List.length_append,List.length_singleton]; exact hlt
    ·rw [List.length_set]; exact h6
    ·rw [List.length_append,List.length_singleton]
  obtain ⟨k0,k1,k2,k3,k4,k5,kf,k6,k7⟩ := h8
  obtain ⟨kn,kb⟩ := dom_some (t1 b k0 k1)
  have hlive : H.live b = some k0 := by unfold CH.live; rw [kb]; simp only [k5,cond_false]
  obtain ⟨H1,e1,e2⟩ := hst.out
  refine App.of (v := slc b 0 (l.length + 1) c) (H1 := H1) ?_ e2
  have hsa : H.storeA b (0 + l.length * (s + 1)) new = some H1 := by
   unfold CH.storeA
   rw [hlive]
   simp only [kf,cond_false]
   exact e1
  simp only [cappend,hu,hu',hi,hz,q1,hsrc,hbeq,cond_true,List.getElem?_toArray,List.getElem?_cons_zero,List.getElem?_cons_succ,hle,hsa]
 ·
  have hlc : l.length = c := by omega
  have hc1 : Nat.ble (l.length + 1) c = false := by rw [← hlc]; exact fresh1
  have hcap : (Nat.ble ((2 * (l.length + 1) + 1000) * i.bytes) 281474976710656 && Nat.beq z.cells.size (s + 1) && Nat.ble (l.length + 1) 1152921504606846976) = true := by
   rw [q2,capacity hb (by omega),hzz,Nat.ble_eq_true_of_le (show l.length + 1 ≤ 1152921504606846976 by omega)]; rfl
  obtain ⟨k0,k1,k2,k3,k4,k5,kf,k6,k7⟩ := h8
  obtain ⟨kn,kb⟩ := dom_some (t1 b k0 k1)
  have hlive : H.live b = some k0 := by unfold CH.live; rw [kb]; simp only [k5,cond_false]
  have hfm : fmBad k0 0 c = false := by unfold fmBad; rw [kf]; rfl
  have hopen : (Nat.blt 0 k0.es && Nat.beq (0 + c * k0.es) k0.size) = false := by
   rw [k3,k6,hflat,Nat.zero_add]
   rcases h1 with rfl | rfl
   ·rfl
   ·have hne : ¬ c = rows.length := fun q => hop ⟨rfl,hlc,q⟩
    cases hbb : Nat.beq (c * (s + 1)) (rows.length * (s + 1)) with
    | false => rw [Bool.and_false]
    | true => exact absurd (Nat.eq_of_mul_eq_mul_right (Nat.succ_pos s) (Nat.eq_of_beq_eq_true hbb)) hne
  have hle : Nat.ble (0 + l.length * (s + 1)) k0.size = true := by rw [k6,hflat,Nat.zero_add]; exact Nat.ble_eq_true_of_le (Nat.mul_le_mul_right _ hlr)
  refine App.of (v := slc H.next 0 (l.length + 1) (l.length + 1)) (H1 := H.new (grownRow e (s + 1) k0 0 l.length 1 new)) ?_ (k _ _ ?_)
  ·simp only [cappend,hu,hu',hi,hz,q1,hsrc,hbeq,cond_true,List.getElem?_toArray,List.getElem?_cons_zero,List.getElem?_cons_succ,hc1,cond_false,hcap,hlive,hfm,hle,hopen]
  ·refine sat_new hRs ⟨H.next,l.length + 1,s + 1,l++[new],.inr rfl,h2,hall,List.take_length,by simp,by simp,by simp,grownRow e (s + 1) k0 0 l.length 1 new,by simp,rfl,rfl,rfl,rfl,rfl,?_,fun j => ?_⟩
   ·show (l.length + 1) * (s + 1) = (l++[new]).flatten.length
    rw [flat_len hall,List.length_append]; rfl
   ·rw [grown_get k7 (by rw [hflat,Nat.add_zero]; exact Nat.mul_le_mul_right _ hlr) (by rw [hnl,Nat.one_mul]) j,List.drop_zero,hlf,List.flatten_append,hnf]
theorem stk_take {x : Value} {e s hi b n c c' : Nat} {l : List (List Value)} {h : PH} (a : Stk x e s l h) (hx : x = slc b 0 n c) (h1 : hi ≤ l.length) (hc : c' = c ∨ c' = hi) : Stk (slc b 0 hi c') e s (l.take hi) h := by
 obtain ⟨b',c1,es,rows,q1,q2,q3,q4,q5,q6,q7,q8⟩ := a
 rw [hx] at q7
 cases q7
 have hl : (l.take hi).length = hi := by rw [List.length_take]; omega
 refine ⟨b,c',es,rows,q1,q2,q3,?_,by rw [hl]; omega,by omega,by rw [hl],q8⟩
 rw [hl,← q4,List.take_take,Nat.min_eq_left h1]
theorem slcStk3 {L R : List HP} {H : CH} {t e s by_ hi : Nat} {x : Value} {l : List (List Value)} {k' k'' : IntKind} {K : Value→Prop} (hs : Sat L H) (hp : Pull L (Stk x e s l) R) (ht : elemOk P t e s by_ = true) (h1 : hi ≤ l.length)
  (k : ∀ v,Sat (Stk v e s (l.take hi)::R) H→K v) : Slc P H t x none (some (.int k' (Int.ofNat hi))) (some (.int k'' (Int.ofNat hi))) K := by
 have hs0 := hs.pull hp
 obtain ⟨b,c,hx⟩ := (hs0.has Has.stk).shape
 have hs1 := fun c' hc => hs0.imp fun g a => stk_take (hi := hi) (c' := c') a hx h1 hc
 obtain ⟨hu,⟨i,z,hi',hz,g1,g2,g3⟩,hs0'⟩ := elemOk.out ht
 obtain ⟨s,rfl⟩ : ∃ m,s = m + 1 := ⟨s - 1,by omega⟩
 have hsz : szOf P e = some (s + 1) := by unfold szOf; rw [hi']; simp [g1]
 obtain ⟨q1,q2,t1,t2,dj,⟨b',c1,es,rows,w1,w2,w3,w4,w5,w6,w7,k0,k1,k2,k3,k4,k5,kf,k6,k7⟩,hR⟩ := hs0
 rw [hx] at w7
 cases w7
 obtain ⟨kn,kb⟩ := dom_some (t1 b k0 k1)
 have hbd : cbounds l.length c none (some (.int k' (Int.ofNat hi))) (some (.int k'' (Int.ofNat hi))) = some (0,hi,hi) := by
  unfold cbounds cbound
  simp only
  rw [if_pos ⟨Int.natCast_nonneg hi,by show (hi : Int) ≤ (c : Int); omega⟩]
  simp only
  rw [if_pos ⟨Int.natCast_nonneg hi,by show (hi : Int) ≤ ((Int.ofNat hi).toNat : Int); simp⟩]
  rfl
 have hop : ∃ op,open? H b 0 c (s + 1) = some op := by
  unfold open? CH.blk
  rw [kb]
  simp only [k3]
  rcases w1 with rfl | rfl
  ·exact ⟨false,rfl⟩
  ·rw [Nat.beq_refl]
   cases Nat.blt 0 (s + 1) && Nat.beq (0 + c * (s + 1)) k0.size
   ·exact ⟨false,rfl⟩
   ·exact ⟨true,rfl⟩
 obtain ⟨op,hop⟩ := hop
 subst hx
 refine ⟨?_⟩
 show match cslice P H t (.slice (some ⟨b,0,none⟩) l.length c) _ _ _ with | some v => K v | none => False
 unfold cslice
 simp only [hu,hbd,hsz,Nat.ble_eq_true_of_le (Nat.le_refl hi),cond_true,hop,Nat.zero_mul,Nat.zero_add,Nat.sub_zero]
 have := k _ (hs1 hi (.inr rfl))
 cases Nat.beq hi 0 <;> exact this
theorem app_lit {R : List HP} {H : CH} {st xt e e0 s by_ b p o xl xc : Nat} {l new : List (List Value)} {cs : List Value} {K : KP} (hs : Sat (Row b e0 0 true cs::R) H) (hcs : cs = l.flatten) (ht : elemOk P st e s by_ = true) (hb : by_ ≤ 1000) (hxt : ∃ e',P.underlying xt = some (.slice e'))
  (hn : Src R p o new.flatten) (hxl : new.length = xl) (hnl : ∀ r ∈ new,r.length = s) (hll : ∀ r ∈ l,r.length = s) (hpos : 0 < xl) (hlen : l.length + xl ≤ 1000000000)
  (k : ∀ v H1,Sat (Vec v e s (l++new)::R) H1→K v H1) : App P st xt H (slc b 0 l.length l.length) (.slice (some ⟨p,o,none⟩) xl xc) K := by
 subst hcs
 have hall : ∀ r ∈ l++new,r.length = s := fun r hr => by
  rcases List.mem_append.1 hr with h | h
  ·exact hll r h
  ·exact hnl r h
 obtain ⟨g1,g2,t1,t2,dj,⟨k0,k1,k2,k3,k4,k5,kf,k6,k7⟩,hR⟩ := hs
 have hRs : Sat R H := hR.mono t2
 have hflat : l.flatten.length = l.length * s := flat_len hll
 obtain ⟨hu,⟨i,z,hi,hz,q1,q2,q3⟩,hsp⟩ := elemOk.out ht
 obtain ⟨e',hu'⟩ := hxt
 obtain ⟨s,rfl⟩ : ∃ m,s = m + 1 := ⟨s - 1,by omega⟩
 have hfl : new.flatten.length = xl * (s + 1) := by rw [flat_len hnl,hxl]
 have hsrc : srcCells H (s + 1) xl (.slice (some ⟨p,o,none⟩) xl xc) = some new.flatten := src_cells hRs hn hfl
 have hbeq : Nat.beq new.flatten.length (xl * (s + 1)) = true := by rw [hfl]; exact Nat.beq_refl _
 have hzz : Nat.beq z.cells.size (s + 1) = true := by rw [q3]; exact Nat.beq_refl _
 have hc1 : Nat.ble (l.length + xl) l.length = false := by
  cases hb : Nat.ble (l.length + xl) l.length with
  | false => rfl
  | true => have := Nat.le_of_ble_eq_true hb; omega
 have hcap : (Nat.ble ((2 * (l.length + xl) + 1000) * i.bytes) 281474976710656 && Nat.beq z.cells.size (s + 1) && Nat.ble (l.length + xl) 1152921504606846976) = true := by
  rw [q2,capacity hb (by omega),hzz,Nat.ble_eq_true_of_le (show l.length + xl ≤ 1152921504606846976 by omega)]; rfl
 obtain ⟨kn,kb⟩ := dom_some (t1 b k0 k1)
 have hlive : H.live b = some k0 := by unfold CH.live; rw [kb]; simp only [k5,cond_false]
 have hfm : fmBad k0 0 l.length = false := by unfold fmBad; rw [kf]; rfl
 have hopen : (Nat.blt 0 k0.es && Nat.beq (0 + l.length * k0.es) k0.size) = false := by rw [k3]; rfl
 have hle : Nat.ble (0 + l.length * (s + 1)) k0.size = true := by rw [k6,hflat,Nat.zero_add]; exact Nat.ble_eq_true_of_le (Nat.le_refl _)
 refine App.of (v := slc H.next 0 (l.length + xl) (l.length + xl)) (H1 := H.new (grownRow e (s + 1) k0 0 l.length xl new.flatten)) ?_ (k _ _ ?_)
 ·simp only [cappend,hu,hu',hi,hz,q1,hsrc,hbeq,cond_true,List.getElem?_toArray,List.getElem?_cons_zero,List.getElem?_cons_succ,hc1,cond_false,hcap,hlive,hfm,hle,hopen]
 ·refine sat_new hRs ⟨hall,.inr ⟨H.next,?_,by rw [List.length_append,hxl],grownRow e (s + 1) k0 0 l.length xl new.flatten,by simp,rfl,rfl,rfl,rfl,rfl,?_,fun j => ?_⟩⟩
  ·intro h
   have := congrArg List.length h
   rw [List.length_append,hxl] at this
   simp at this
   omega
  ·show (l.length + xl) * (s + 1) = (l++new).flatten.length
   rw [flat_len hall,List.length_append,hxl]
  ·rw [grown_get k7 (by rw [hflat,Nat.add_zero]; exact Nat.le_refl _) hfl j,List.drop_zero,List.take_of_length_le (by rw [hflat]; exact Nat.le_refl _),List.flatten_append]
end Go.CM

