/- What the functions do to the memories and procs that they are given: their contracts. The conditions stand in each. -/
import Derived.Test.YtnkbmaccgifeoaaGreatSpA
import Derived.Sort.AssemblyPlain
set_option linter.unusedVariables false
set_option linter.unusedSimpArgs false

set_option linter.unusedVariables false
set_option linter.unusedSimpArgs false
namespace Go.Proofs.YtnkbmaccgifeoaaGreat
open Go Go.CM
attribute [local irreducible] AsBool AsWant AsNat AsInt AsCnt AsPtr AsSlc AsLen AsStr AsAgg AsTup AsFn AsIfc Nth Sc NotNil IsNil Must Cd codeW funW Sat SatL wrapN subM mkRow ltZ leZ ltN leN
attribute [local irreducible] isFunT
variable {con : CallT}
def fdA (f : FrD) : List Value := [iN f.at_,u64 f.d,u64 f.s,u64 f.n,u64 f.i,u64 f.a,u64 f.o,u64 f.x,u64 f.w,u64 f.oc]
def fdC (f : FrD) : List Value := fdA f++sdC f.st
theorem fd_split (pre post : List Value) (f : FrD) : pre++(fdC f++post) = (pre++fdA f)++(sdC f.st++post) := by simp [fdC,List.append_assoc]
theorem isLock_ok (hc : Con con lives) {H : CH} {x : Nat} {K : KP} (k : K (.bool (eqN (Nat.mod x 4) 1)) H) : Call1 Tryz.prog con 38 [u64 x] H K := by
 refine call_of (hc _ _ _ rfl) ?_
 rw [isLock29_W]
 exact k
theorem isPlan_ok (hc : Con con lives) {H : CH} {x : Nat} {K : KP} (k : K (.bool (eqN (Nat.mod x 4) 2)) H) : Call1 Tryz.prog con 39 [u64 x] H K := by
 refine call_of (hc _ _ _ rfl) ?_
 rw [isPlan29_W]
 exact k
theorem rFrameNext_ok (hc : Con con lives) {f : FrD} {pre post : List Value} {L R : List HP} {H : CH} {p o e s : Nat} {K : KP} (ho : pre.length = o) (hs : Sat L H) (hp : Pull L (Row p e s true (pre++(fdC f++post))) R) (hi : f.i + 1 < 18446744073709551616)
  (k : ∀ H1,Sat (Row p e s true (pre++(fdC f.next++post))::R) H1→K unit H1) : Call1 Tryz.prog con 71 [ptr p o] H K := by
 refine call_of (hc _ _ _ rfl) ?_
 rw [rFrameNext_W]
 have hs0 := hs.pull hp
 clear hs hp
 obtain ⟨at_,d,s',n,i,a,o',x,w,oc,st⟩ := f
 simp only at hi
 have e : Nat.mod (Nat.add i 1) 18446744073709551616 = i + 1 := Nat.mod_eq_of_lt hi
 refine lw rfl (AsNat.mk ?_)
 rw [e]
 repeat (refine gW ?_; intros)
 by_cases c : n ≤ i + 1
 ·have ek : FrD.next ⟨at_,d,s',n,i,a,o',x,w,oc,st⟩ = ⟨10,d,s',n,i + 1,a,o',x,w,1,st⟩ := if_pos c
  rw [ek] at k
  refine Cd.t (leN_t c) ?_
  repeat (refine gW ?_; intros)
  exact k _ (Sat.ent (by assumption) ee)
 ·have ek : FrD.next ⟨at_,d,s',n,i,a,o',x,w,oc,st⟩ = ⟨2,d,s',n,i + 1,a,o',x,w,oc,st⟩ := if_neg c
  rw [ek] at k
  refine Cd.f (leN_f (show i + 1 < n by omega)) ?_
  repeat (refine gW ?_; intros)
  exact k _ (Sat.ent (by assumption) ee)
def tellD (t : Option Nat) : Value := match t with | some d => .tuple ⟨[u64 d,.bool true]⟩ | none => .tuple ⟨[u64 0,.bool false]⟩
theorem rFrameLooked_ok (hc : Con con lives) {f : FrD} {pre post : List Value} {L R : List HP} {H : CH} {p o e s r : Nat} {K : KP} (ho : pre.length = o) (hs : Sat L H) (hp : Pull L (Row p e s true (pre++(fdC f++post))) R) (hi : f.i + 1 < 18446744073709551616) (hr : r < 18446744073709551616)
  (k : ∀ H1,Sat (Row p e s true (pre++(fdC (f.look r).1++post))::R) H1→K (tellD (f.look r).2) H1) : Call1 Tryz.prog con 72 [ptr p o,u64 r] H K := by
 refine call_of (hc _ _ _ rfl) ?_
 rw [rFrameLooked_W,md4 hr]
 have hs0 := hs.pull hp
 clear hs hp
 repeat (refine gW ?_; intros)
 refine isLock_ok hc ?_
 repeat (refine gW ?_; intros)
 by_cases c1 : r % 4 = 1
 ·have ek : f.look r = ({ f with st := settD0 r,at_ := 9 },none) := by unfold FrD.look; rw [if_pos c1]
  rw [ek] at k
  refine Cd.t (eqN_t c1) ?_
  refine swN rfl rfl fun _ _ => ?_
  repeat (refine gW ?_; intros)
  exact k _ (Sat.ent (by assumption) ee)
 ·refine Cd.f (eqN_f c1) ?_
  repeat (refine gW ?_; intros)
  by_cases c2 : r = f.o
  ·have ek : f.look r = ({ f with at_ := 5 },none) := by unfold FrD.look; rw [if_neg c1,if_pos c2]
   rw [ek] at k
   refine Cd.t (eqN_t c2) ?_
   repeat (refine gW ?_; intros)
   exact k _ (Sat.ent (by assumption) ee)
  ·refine Cd.f (eqN_f c2) ?_
   repeat (refine gW ?_; intros)
   by_cases c3 : r = planW f.d
   ·have ek : f.look r = (({ f with at_ := 5 } : FrD).next,none) := by unfold FrD.look; rw [if_neg c1,if_neg c2,if_pos c3]; rfl
    rw [ek] at k
    refine Cd.t (eqN_t (by rw [planW_eq]; exact c3)) ?_
    rename_i hlast
    refine rFrameNext_ok (f := { f with at_ := 5 }) (pre := pre) (post := post) hc ho hlast .here hi fun H1 h1 => ?_
    exact k _ (h1.ent ee)
   ·refine Cd.f (eqN_f (by rw [planW_eq]; exact c3)) ?_
    refine isPlan_ok hc ?_
    repeat (refine gW ?_; intros)
    by_cases c4 : r % 4 = 2
    ·have ek : f.look r = ({ f with at_ := 5 },some (r / 4)) := by unfold FrD.look; rw [if_neg c1,if_neg c2,if_neg c3,if_pos c4]
     rw [ek] at k
     refine Cd.t (eqN_t c4) ?_
     repeat (refine gW ?_; intros)
     exact k _ (Sat.ent (by assumption) ee)
    ·have ek : f.look r = ({ f with oc := 2,at_ := 10 },none) := by unfold FrD.look; rw [if_neg c1,if_neg c2,if_neg c3,if_neg c4]
     rw [ek] at k
     refine Cd.f (eqN_f c4) ?_
     repeat (refine gW ?_; intros)
     exact k _ (Sat.ent (by assumption) ee)
theorem rFrameLay_ok (hc : Con con lives) {f : FrD} {pre post : List Value} {L R1 R2 : List HP} {H : CH} {p m o e s : Nat} {th : Int} {M : Mem} {K : KP} (ho : pre.length = o) (hs : Sat L H) (hm : Pull L (RefP m M) R1) (hp : Pull R1 (Row p e s true (pre++(fdC f++post))) R2)
  (ht : M.tr.length < 1000000000) (hi : f.i + 1 < 18446744073709551616) (h1 : 11 ≤ f.at_) (h2 : f.at_ < 15)
  (k : ∀ H1,Sat (Row p e s true (pre++(fdC (f.go M th).1++post))::RefP m (f.go M th).2.1::R2) H1→K unit H1) : Call1 Tryz.prog con 73 [ptr p o,ptr m 0,i64 th] H K := by
 refine call_of (hc _ _ _ rfl) ?_
 rw [rFrameLay_W]
 have hs0 := hs.takes (.cons hm (.cons hp .nil))
 simp only [List.cons_append,List.nil_append] at hs0
 clear hs hm hp
 obtain ⟨at_,d,s',n,i,a,o',x,w,oc,st⟩ := f
 simp only at hi h1 h2
 have eP : ∀ kk,FrD.part ⟨at_,d,s',n,i,a,o',x,w,oc,st⟩ kk = (d + 2 + 3 * i + kk) % 18446744073709551616 := fun _ => rfl
 have e : at_ = 11 ∨ at_ = 12 ∨ at_ = 13 ∨ at_ = 14 := by omega
 rcases e with rfl | rfl | rfl | rfl
 ·skip
  repeat (refine gW ?_; intros)
  refine refLoad_ok hc (by assumption) pp ht fun _ _ => ?_
  repeat (refine gW ?_; intros)
  have ek : FrD.go ⟨11,d,s',n,i,a,o',x,w,oc,st⟩ M th = (FrD.end_ ⟨12,d,M.peek d,n,0,a,o',x,w,oc,st⟩,M.load th d,none) := rfl
  rw [ek] at k
  by_cases c : n ≤ 0
  ·rw [show FrD.end_ ⟨12,d,M.peek d,n,0,a,o',x,w,oc,st⟩ = ⟨15,d,M.peek d,n,0,a,o',x,w,oc,st⟩ from if_pos ⟨rfl,c⟩] at k
   refine Cd.t (leN_t c) ?_
   repeat (refine gW ?_; intros)
   exact k _ (Sat.ent (by assumption) ee)
  ·rw [show FrD.end_ ⟨12,d,M.peek d,n,0,a,o',x,w,oc,st⟩ = ⟨12,d,M.peek d,n,0,a,o',x,w,oc,st⟩ from if_neg fun q => c q.2] at k
   refine Cd.f (leN_f (show 0 < n by omega)) ?_
   exact k _ (Sat.ent (by assumption) ee)
 ·skip
  repeat (refine gW ?_; intros)
  have e1 : Nat.mod (Nat.add (Nat.mod (Nat.add d 2) 18446744073709551616) (Nat.mod (Nat.mul 3 i) 18446744073709551616)) 18446744073709551616 = FrD.part ⟨12,d,s',n,i,a,o',x,w,oc,st⟩ 0 := by
   rw [eP]
   show ((d + 2) % 18446744073709551616 + 3 * i % 18446744073709551616) % 18446744073709551616 = _
   omega
  rw [e1]
  refine refLoad_ok hc (by assumption) pp ht fun _ _ => ?_
  repeat (refine gW ?_; intros)
  exact k _ (Sat.ent (by assumption) ee)
 ·skip
  repeat (refine gW ?_; intros)
  have e1 : Nat.mod (Nat.add (Nat.mod (Nat.add d 3) 18446744073709551616) (Nat.mod (Nat.mul 3 i) 18446744073709551616)) 18446744073709551616 = FrD.part ⟨13,d,s',n,i,a,o',x,w,oc,st⟩ 1 := by
   rw [eP]
   show ((d + 3) % 18446744073709551616 + 3 * i % 18446744073709551616) % 18446744073709551616 = _
   omega
  have e2 : Nat.mod (Nat.add (FrD.part ⟨13,d,s',n,i,a,o',x,w,oc,st⟩ 1) 1) 18446744073709551616 = FrD.part ⟨13,d,s',n,i,a,o',x,w,oc,st⟩ 2 := by
   rw [eP,eP]
   show ((d + 2 + 3 * i + 1) % 18446744073709551616 + 1) % 18446744073709551616 = _
   omega
  rw [e1,e2]
  have ek : FrD.go ⟨13,d,s',n,i,a,o',x,w,oc,st⟩ M th = (let b := FrD.part ⟨13,d,s',n,i,a,o',x,w,oc,st⟩ (if s' = 1 then 2 else 1); (⟨14,d,s',n,i,a,o',x,M.peek b,oc,st⟩,M.load th b,none)) := rfl
  rw [ek] at k
  by_cases c : s' = 1
  ·rw [if_pos c] at k
   refine Cd.t (eqN_t c) ?_
   refine refLoad_ok hc (by assumption) pp ht fun _ _ => ?_
   repeat (refine gW ?_; intros)
   exact k _ (Sat.ent (by assumption) ee)
  ·rw [if_neg c] at k
   refine Cd.f (eqN_f c) ?_
   refine refLoad_ok hc (by assumption) pp ht fun _ _ => ?_
   repeat (refine gW ?_; intros)
   exact k _ (Sat.ent (by assumption) ee)
 ·skip
  repeat (refine gW ?_; intros)
  rw [planW_eq]
  refine refCas_ok hc (by assumption) pp ht fun _ _ => ?_
  have e : Nat.mod (Nat.add i 1) 18446744073709551616 = i + 1 := Nat.mod_eq_of_lt hi
  refine lw rfl (AsNat.mk ?_)
  rw [e]
  repeat (refine gW ?_; intros)
  have ek : FrD.go ⟨14,d,s',n,i,a,o',x,w,oc,st⟩ M th = (FrD.end_ ⟨12,d,s',n,i + 1,a,o',x,w,oc,st⟩,M.cas th a (planW d) w,none) := rfl
  rw [ek] at k
  by_cases c : n ≤ i + 1
  ·rw [show FrD.end_ ⟨12,d,s',n,i + 1,a,o',x,w,oc,st⟩ = ⟨15,d,s',n,i + 1,a,o',x,w,oc,st⟩ from if_pos ⟨rfl,c⟩] at k
   refine Cd.t (leN_t c) ?_
   repeat (refine gW ?_; intros)
   exact k _ (Sat.ent (by assumption) ee)
  ·rw [show FrD.end_ ⟨12,d,s',n,i + 1,a,o',x,w,oc,st⟩ = ⟨12,d,s',n,i + 1,a,o',x,w,oc,st⟩ from if_neg fun q => c q.2] at k
   refine Cd.f (leN_f (show i + 1 < n by omega)) ?_
   exact k _ (Sat.ent (by assumption) ee)
structure FrD.Ok (f : FrD) : Prop where
 at_ : f.at_ < 15
 i : 1 < f.at_→f.i + 1 < 18446744073709551616
 st : f.at_ = 9→f.st.r < 18446744073709551616∧f.st.at_ < 6
theorem rFrameStep_ok (hc : Con con lives) {f : FrD} {pre post : List Value} {L R1 R2 : List HP} {H : CH} {p m o e s : Nat} {th : Int} {M : Mem} {K : KP} (ho : pre.length = o) (hs : Sat L H) (hm : Pull L (RefP m M) R1) (hp : Pull R1 (Row p e s true (pre++(fdC f++post))) R2)
  (ht : M.tr.length < 1000000000) (hb : M.Bd) (ok : f.Ok)
  (k : ∀ H1,Sat (Row p e s true (pre++(fdC (f.go M th).1++post))::RefP m (f.go M th).2.1::R2) H1→K (tellD (f.go M th).2.2) H1) : Call1 Tryz.prog con 61 [ptr p o,ptr m 0,i64 th] H K := by
 refine call_of (hc _ _ _ rfl) ?_
 rw [rFrameStep_W]
 have hs0 := hs.takes (.cons hm (.cons hp .nil))
 simp only [List.cons_append,List.nil_append] at hs0
 clear hs hm hp
 have hat := ok.at_
 have hi := ok.i
 have hst := ok.st
 clear ok
 obtain ⟨at_,d,s',n,i,a,o',x,w,oc,st⟩ := f
 simp only at hat hi hst
 have eP : ∀ kk,FrD.part ⟨at_,d,s',n,i,a,o',x,w,oc,st⟩ kk = (d + 2 + 3 * i + kk) % 18446744073709551616 := fun _ => rfl
 have e : at_ = 0 ∨ at_ = 1 ∨ at_ = 2 ∨ at_ = 3 ∨ at_ = 4 ∨ at_ = 5 ∨ at_ = 6 ∨ at_ = 7 ∨ at_ = 8 ∨ at_ = 9 ∨ at_ = 10 ∨ at_ = 11 ∨ at_ = 12 ∨ at_ = 13 ∨ at_ = 14 := by omega
 rcases e with rfl | rfl | rfl | rfl | rfl | rfl | rfl | rfl | rfl | rfl | rfl | rfl | rfl | rfl | rfl
 ·
  repeat (refine gW ?_; intros)
  refine refLoad_ok hc (by assumption) pp ht fun _ _ => ?_
  repeat (refine gW ?_; intros)
  exact k _ (Sat.ent (by assumption) ee)
 ·
  repeat (refine gW ?_; intros)
  refine refLoad_ok hc (by assumption) pp ht fun _ _ => ?_
  repeat (refine gW ?_; intros)
  have ek : FrD.go ⟨1,d,s',n,i,a,o',x,w,oc,st⟩ M th = (if s' ≠ 0 then ⟨11,d,s',min (M.peek (m64 (d + 1))) 16,0,a,o',x,w,oc,st⟩ else if min (M.peek (m64 (d + 1))) 16 = 0 then ⟨10,d,s',min (M.peek (m64 (d + 1))) 16,0,a,o',x,w,1,st⟩ else ⟨2,d,s',min (M.peek (m64 (d + 1))) 16,0,a,o',x,w,oc,st⟩,M.load th (m64 (d + 1)),none) := rfl
  rw [ek] at k
  have hpk : M.peek (Nat.mod (Nat.add d 1) 18446744073709551616) = M.peek (m64 (d + 1)) := rfl
  by_cases c16 : 16 < M.peek (m64 (d + 1))
  ·rw [show min (M.peek (m64 (d + 1))) 16 = 16 by omega] at k
   refine Cd.t (ltN_t c16) ?_
   repeat (refine gW ?_; intros)
   by_cases c0 : s' = 0
   ·rw [if_neg (by omega),if_neg (by omega)] at k
    refine Cd.f (by rw [eqN_t c0]; rfl) ?_
    repeat (refine gW ?_; intros)
    exact k _ (Sat.ent (by assumption) ee)
   ·rw [if_pos c0] at k
    refine Cd.t (by rw [eqN_f c0]; rfl) ?_
    repeat (refine gW ?_; intros)
    exact k _ (Sat.ent (by assumption) ee)
  ·rw [show min (M.peek (m64 (d + 1))) 16 = M.peek (m64 (d + 1)) by omega] at k
   refine Cd.f (ltN_f (show M.peek (m64 (d + 1)) ≤ 16 by omega)) ?_
   repeat (refine gW ?_; intros)
   by_cases c0 : s' = 0
   ·rw [if_neg (by omega)] at k
    refine Cd.f (by rw [eqN_t c0]; rfl) ?_
    repeat (refine gW ?_; intros)
    by_cases c1 : M.peek (m64 (d + 1)) = 0
    ·rw [if_pos c1] at k
     refine Cd.t (eqN_t c1) ?_
     repeat (refine gW ?_; intros)
     exact k _ (Sat.ent (by assumption) ee)
    ·rw [if_neg c1] at k
     refine Cd.f (eqN_f c1) ?_
     repeat (refine gW ?_; intros)
     exact k _ (Sat.ent (by assumption) ee)
   ·rw [if_pos c0] at k
    refine Cd.t (by rw [eqN_f c0]; rfl) ?_
    repeat (refine gW ?_; intros)
    exact k _ (Sat.ent (by assumption) ee)
 ·
  repeat (refine gW ?_; intros)
  have e1 : Nat.mod (Nat.add (Nat.mod (Nat.add d 2) 18446744073709551616) (Nat.mod (Nat.mul 3 i) 18446744073709551616)) 18446744073709551616 = FrD.part ⟨2,d,s',n,i,a,o',x,w,oc,st⟩ 0 := by
   rw [eP]
   show ((d + 2) % 18446744073709551616 + 3 * i % 18446744073709551616) % 18446744073709551616 = _
   omega
  rw [e1]
  refine refLoad_ok hc (by assumption) pp ht fun _ _ => ?_
  repeat (refine gW ?_; intros)
  exact k _ (Sat.ent (by assumption) ee)
 ·
  repeat (refine gW ?_; intros)
  have e1 : Nat.mod (Nat.add (Nat.mod (Nat.add d 3) 18446744073709551616) (Nat.mod (Nat.mul 3 i) 18446744073709551616)) 18446744073709551616 = FrD.part ⟨3,d,s',n,i,a,o',x,w,oc,st⟩ 1 := by
   rw [eP]
   show ((d + 3) % 18446744073709551616 + 3 * i % 18446744073709551616) % 18446744073709551616 = _
   omega
  rw [e1]
  refine refLoad_ok hc (by assumption) pp ht fun _ _ => ?_
  repeat (refine gW ?_; intros)
  exact k _ (Sat.ent (by assumption) ee)
 ·
  repeat (refine gW ?_; intros)
  rename_i p59 H60 h60
  rw [planW_eq] at h60
  refine refAlloc_ok (vals := [d,a,o',planW d]) hc h60 pp (Has.own3 (l := [d,a,o',planW d])) (by simp) ht fun _ _ => ?_
  repeat (refine gW ?_; intros)
  have ek : FrD.go ⟨4,d,s',n,i,a,o',x,w,oc,st⟩ M th = (if M.room [d,a,o',planW d] = 0 then ⟨10,d,s',n,i,a,o',0,w,3,st⟩ else ⟨5,d,s',n,i,a,o',M.room [d,a,o',planW d],w,oc,st⟩,M.alloc th [d,a,o',planW d],none) := rfl
  rw [ek] at k
  by_cases c : M.room [d,a,o',planW d] = 0
  ·rw [if_pos c] at k
   refine Cd.t (eqN_t c) ?_
   repeat (refine gW ?_; intros)
   rename_i hlast
   rw [c] at hlast
   exact k _ (Sat.ent hlast ee)
  ·rw [if_neg c] at k
   refine Cd.f (eqN_f c) ?_
   repeat (refine gW ?_; intros)
   exact k _ (Sat.ent (by assumption) ee)
 ·
  repeat (refine gW ?_; intros)
  rw [lockW_eq]
  refine refCas_ok hc (by assumption) pp ht fun _ _ => ?_
  repeat (refine gW ?_; intros)
  have ek : FrD.go ⟨5,d,s',n,i,a,o',x,w,oc,st⟩ M th = (⟨if M.swaps a o' then 6 else 8,d,s',n,i,a,o',x,w,oc,st⟩,M.cas th a o' (lockW x),none) := rfl
  rw [ek] at k
  cases c : M.swaps a o' with
  | true =>
   rw [c] at k
   refine Cd.t rfl ?_
   repeat (refine gW ?_; intros)
   exact k _ (Sat.ent (by assumption) ee)
  | false =>
   rw [c] at k
   refine Cd.f rfl ?_
   exact k _ (Sat.ent (by assumption) ee)
 ·
  repeat (refine gW ?_; intros)
  refine refLoad_ok hc (by assumption) pp ht fun _ _ => ?_
  repeat (refine gW ?_; intros)
  have ek : FrD.go ⟨6,d,s',n,i,a,o',x,w,oc,st⟩ M th = (⟨7,d,s',n,i,a,o',x,if M.peek d = 0 then planW d else o',oc,st⟩,M.load th d,none) := rfl
  rw [ek] at k
  by_cases c : M.peek d = 0
  ·rw [if_pos c] at k
   refine Cd.f (by rw [eqN_t c]; rfl) ?_
   repeat (refine gW ?_; intros)
   rename_i hlast
   rw [planW_eq] at hlast
   exact k _ (Sat.ent hlast ee)
  ·rw [if_neg c] at k
   refine Cd.t (by rw [eqN_f c]; rfl) ?_
   repeat (refine gW ?_; intros)
   exact k _ (Sat.ent (by assumption) ee)
 ·
  repeat (refine gW ?_; intros)
  rw [lockW_eq]
  refine refCas_ok hc (by assumption) pp ht fun _ _ => ?_
  repeat (refine gW ?_; intros)
  refine rFrameNext_ok (f := ⟨7,d,s',n,i,a,o',x,w,oc,st⟩) (pre := pre) (post := post) hc ho (by assumption) pp (hi (by omega)) fun H1 h1 => ?_
  exact k _ (h1.ent ee)
 ·
  repeat (refine gW ?_; intros)
  refine refLoad_ok hc (by assumption) pp ht fun _ _ => ?_
  refine rFrameLooked_ok (f := ⟨8,d,s',n,i,a,o',x,w,oc,st⟩) (pre := pre) (post := post) hc ho (by assumption) pp (hi (by omega)) (hb.peek a) fun H1 h1 => ?_
  have ek : FrD.go ⟨8,d,s',n,i,a,o',x,w,oc,st⟩ M th = ((FrD.look ⟨8,d,s',n,i,a,o',x,w,oc,st⟩ (M.peek a)).1,M.load th a,(FrD.look ⟨8,d,s',n,i,a,o',x,w,oc,st⟩ (M.peek a)).2) := rfl
  rw [ek] at k
  have k1 := k _ (h1.ent ee)
  simp only at k1
  generalize (FrD.look ⟨8,d,s',n,i,a,o',x,w,oc,st⟩ (M.peek a)).2 = t at *
  cases t with
  | none => exact AsTup.mk (Nth.mk rfl (AsTup.mk (Nth.mk rfl k1)))
  | some y => exact AsTup.mk (Nth.mk rfl (AsTup.mk (Nth.mk rfl k1)))
 ·
  repeat (refine gW ?_; intros)
  obtain ⟨hr,hx⟩ := hst rfl
  have hs1 : Sat (RefP m M::Row p e s true ((pre++fdA ⟨9,d,s',n,i,a,o',x,w,oc,st⟩)++(sdC st++post))::R2) H := by
   have := hs0
   rw [fd_split] at this
   exact this
  refine rSettleStep_ok (x := st) (pre := pre++fdA ⟨9,d,s',n,i,a,o',x,w,oc,st⟩) (post := post) hc (by rw [List.length_append,ho]; rfl) hs1 pp pp ht hr hx fun H1 h1 => ?_
  have h2 : Sat (Row p e s true (pre++(fdC ⟨9,d,s',n,i,a,o',x,w,oc,(st.go M th).1⟩++post))::RefP m (st.go M th).2.1::R2) H1 := by
   rw [fd_split]; exact h1
  have ek : FrD.go ⟨9,d,s',n,i,a,o',x,w,oc,st⟩ M th = (⟨if (st.go M th).2.2 then 5 else 9,d,s',n,i,a,o',x,w,oc,(st.go M th).1⟩,(st.go M th).2.1,none) := rfl
  rw [ek] at k
  clear h1 hs1
  generalize (st.go M th).1 = s1 at *
  generalize (st.go M th).2.1 = M' at *
  repeat (refine gW ?_; intros)
  cases c : (st.go M th).2.2 with
  | true =>
   rw [c] at k
   refine Cd.t rfl ?_
   repeat (refine gW ?_; intros)
   exact k _ (Sat.ent (by assumption) ee)
  | false =>
   rw [c] at k
   refine Cd.f rfl ?_
   exact k _ (h2.ent ee)
 ·
  repeat (refine gW ?_; intros)
  refine refCas_ok hc (by assumption) pp ht fun _ _ => ?_
  repeat (refine gW ?_; intros)
  exact k _ (Sat.ent (by assumption) ee)
 ·
  repeat (refine gW ?_; intros)
  exact rFrameLay_ok (f := ⟨11,d,s',n,i,a,o',x,w,oc,st⟩) (pre := pre) (post := post) hc ho (by assumption) pp pp ht (hi (by omega)) (by show 11 ≤ 11; omega) hat fun H1 h1 => k _ h1
 ·
  repeat (refine gW ?_; intros)
  exact rFrameLay_ok (f := ⟨12,d,s',n,i,a,o',x,w,oc,st⟩) (pre := pre) (post := post) hc ho (by assumption) pp pp ht (hi (by omega)) (by show 11 ≤ 12; omega) hat fun H1 h1 => k _ h1
 ·
  repeat (refine gW ?_; intros)
  exact rFrameLay_ok (f := ⟨13,d,s',n,i,a,o',x,w,oc,st⟩) (pre := pre) (post := post) hc ho (by assumption) pp pp ht (hi (by omega)) (by show 11 ≤ 13; omega) hat fun H1 h1 => k _ h1
 ·
  repeat (refine gW ?_; intros)
  exact rFrameLay_ok (f := ⟨14,d,s',n,i,a,o',x,w,oc,st⟩) (pre := pre) (post := post) hc ho (by assumption) pp pp ht (hi (by omega)) (by show 11 ≤ 14; omega) hat fun H1 h1 => k _ h1
end Go.Proofs.YtnkbmaccgifeoaaGreat

set_option linter.unusedVariables false
set_option linter.unusedSimpArgs false
namespace Go.Proofs.YtnkbmaccgifeoaaGreat
open Go Go.CM
attribute [local irreducible] AsBool AsWant AsNat AsInt AsCnt AsPtr AsSlc AsLen AsStr AsAgg AsTup AsFn AsIfc Nth Sc NotNil IsNil Must Cd codeW funW Sat SatL wrapN subM mkRow ltZ leZ ltN leN
attribute [local irreducible] isFunT
variable {con : CallT}
abbrev tFrD : Nat := 132
theorem el_frD : elemOk Tryz.prog 47 tFrD 16 128 = true := by kernel_rfl
theorem sl_frD : ∃ e,Tryz.prog.underlying 47 = some (.slice e) := ⟨_,(elemOk.out el_frD).1⟩
abbrev frsD (l : List FrD) : List (List Value) := l.reverse.map fdC
theorem frsD_cons (g : FrD) (l : List FrD) : frsD (g::l) = frsD l++[fdC g] := by simp [frsD]
theorem frsD_len (l : List FrD) : (frsD l).length = l.length := by simp [frsD]
theorem frsD_top (g : FrD) (l : List FrD) : (frsD (g::l))[l.length]? = some (fdC g) := by
 rw [frsD_cons,List.getElem?_append_right (by rw [frsD_len]; exact Nat.le_refl _),frsD_len,Nat.sub_self]; rfl
theorem rHelpLoop_ok (hc : Con con lives) {l : List FrD} {pre post : List Value} {x : Value} {R : List HP} {H : CH} {p o : Nat} {σ : TF} {K : KP} (ho : pre.length = o) (hs : Sat (Own p (pre++([x]++post))::Stk x tFrD 16 (frsD l)::R) H) (hl : l.length < 1000000000)
  (e0 : σ 0 = ptr p o) (e7 : σ 7 = i64 (Int.sub (Int.ofNat l.length) (Int.ofNat 1)))
  (k : ∀ x' H1,Sat (Own p (pre++([x']++post))::Stk x' tFrD 16 (frsD (popD l))::R) H1→K (.bool (decide ((popD l).length = 0))) H1) :
  LoopC Tryz.prog con (lpAt Tryz.prog 41 0) σ H (fun e => ceP e
   (fun a22 H23 => AsInt .i64 (a22 7) fun z25 => K (.bool (ltZ z25 (Int.ofNat 0))) H23)
   (fun i24 => fun a22 H23 => Cd (eqN i24 0) (AsInt .i64 (a22 7) fun z26 => K (.bool (ltZ z26 (Int.ofNat 0))) H23) False)
   (fun a22 H23 => K (a22 6) H23)) := by
 refine LoopC.ind (n := 200) (by kernel_rfl)
  (fun (l1 : List FrD) σ1 H1 => l1.length ≤ l.length∧popD l1 = popD l∧σ1 0 = ptr p o∧σ1 7 = i64 (Int.sub (Int.ofNat l1.length) (Int.ofNat 1))∧∃ x1,Sat (Own p (pre++([x1]++post))::Stk x1 tFrD 16 (frsD l1)::R) H1)
  (fun l1 => l1.length) (fun l1 σ1 H1 hI => ?_) l _ _ ⟨Nat.le_refl _,rfl,e0,e7,x,hs⟩
 obtain ⟨hl1,hpop,a0,a7,x1,hs1⟩ := hI
 rw [rHelpStepL_W]
 simp only [a0,a7]
 repeat (refine gW ?_; intros)
 have stop : ∀ σ2 : TF,σ2 7 = i64 (Int.sub (Int.ofNat l1.length) (Int.ofNat 1))→popD l1 = l1→Cd (eqN 0 0) (AsInt .i64 (σ2 7) fun z26 => K (.bool (ltZ z26 (Int.ofNat 0))) H1) False := by
  intro σ2 c7 hst
  refine Cd.t rfl ?_
  rw [c7]
  refine AsInt.mk ?_
  rw [← hpop,hst] at k
  have k1 := k x1 H1 hs1
  cases l1 with
  | nil => rw [show ltZ (Int.sub (Int.ofNat ([] : List FrD).length) (Int.ofNat 1)) (Int.ofNat 0) = true from by decide +kernel]; exact k1
  | cons f r =>
   rw [show Int.sub (Int.ofNat (f::r).length) (Int.ofNat 1) = Int.ofNat r.length from sub1 _,ltZ_f (Nat.zero_le _)]
   rw [decide_eq_false (by simp)] at k1
   exact k1
 cases l1 with
 | nil =>
  refine Cd.f (by decide +kernel) ?_
  exact stop _ a7 rfl
 | cons f r =>
  have es : Int.sub (Int.ofNat (f::r).length) (Int.ofNat 1) = Int.ofNat r.length := sub1 _
  have hll : r.length + 1 ≤ l.length := hl1
  rw [es]
  refine Cd.t (leZ_t (Nat.zero_le _)) ?_
  obtain ⟨b,c,hx⟩ := (hs1.has (Has.skip Has.stk)).shape
  rw [frsD_len] at hx
  subst hx
  repeat (refine gW ?_; intros)
  refine Must.mk (ltN_t (show r.length < (f::r).length by simp)) ?_
  refine ldStk hs1 (Has.skip Has.stk) rfl (frsD_top f r) (j := 0) (by show 0 + r.length * 16 + 0 = _; omega) rfl ?_
  repeat (refine gW ?_; intros)
  by_cases h15 : f.at_ = 15
  ·refine Cd.t (eqZ_t h15) ?_
   repeat (refine gW ?_; intros)
   refine slcStk (hi := r.length) hs1 (.there .here) el_frD (by rw [frsD_len]; simp) fun v' h3 => ?_
   rw [frsD_cons,List.take_append_of_le_length (by rw [frsD_len]; exact Nat.le_refl _),List.take_of_length_le (by rw [frsD_len]; exact Nat.le_refl _)] at h3
   obtain ⟨vb,vc,hv'⟩ := (h3.has Has.stk).shape
   subst hv'
   have h4 : Sat (Own p (pre++([slc b 0 (f::r).length c]++post))::Stk (slc vb 0 (frsD r).length vc) tFrD 16 (frsD r)::R) H1 := h3.ent ee
   refine NotNil.ptr (AsPtr.mk (Sc.mk rfl ?_))
   refine sw rfl rfl (fun H5 h5 => ?_) h4 ho
   repeat (refine gW ?_; intros)
   refine inR_pred (by omega) ?_
   show ∃ y,_∧_
   exact ⟨r,by simp,by omega,by rw [← hpop,popD,if_pos h15],a0,rfl,_,h5⟩
  ·refine Cd.f (eqZ_f h15) ?_
   exact stop _ a7 (by rw [popD,if_neg h15])
end Go.Proofs.YtnkbmaccgifeoaaGreat

set_option linter.unusedVariables false
set_option linter.unusedSimpArgs false
namespace Go.Proofs.YtnkbmaccgifeoaaGreat
open Go Go.CM
attribute [local irreducible] AsBool AsWant AsNat AsInt AsCnt AsPtr AsSlc AsLen AsStr AsAgg AsTup AsFn AsIfc Nth Sc NotNil IsNil Must Cd codeW funW Sat SatL wrapN subM mkRow ltZ leZ ltN leN
attribute [local irreducible] isFunT
variable {con : CallT}
theorem rHelpStep_ok (hc : Con con lives) {g : FrD} {r : List FrD} {pre post : List Value} {x : Value} {L R1 R2 R3 : List HP} {H : CH} {p m o : Nat} {th : Int} {M : Mem} {K : KP} (ho : pre.length = o) (hs : Sat L H) (hm : Pull L (RefP m M) R1) (hp : Pull R1 (Own p (pre++([x]++post))) R2) (hq : Pull R2 (Stk x tFrD 16 (frsD (g::r))) R3)
  (ht : M.tr.length < 1000000000) (hb : M.Bd) (ok : g.Ok) (hr : r.length < 100000000)
  (k : ∀ x' H1,Sat (Own p (pre++([x']++post))::Stk x' tFrD 16 (frsD (stkD (g::r) M th).1)::RefP m (stkD (g::r) M th).2::R3) H1→K (.bool (decide ((stkD (g::r) M th).1.length = 0))) H1) : Call1 Tryz.prog con 41 [ptr p o,ptr m 0,i64 th] H K := by
 refine call_of (hc _ _ _ rfl) ?_
 rw [rHelpStep_W]
 have hs0 := hs.takes (.cons hm (.cons hp (.cons hq .nil)))
 simp only [List.cons_append,List.nil_append] at hs0
 clear hs hm hp hq
 have hs1 : Sat (Own p (pre++([x]++post))::Stk x tFrD 16 (frsD (g::r))::RefP m M::R3) H := hs0.ent ee
 clear hs0
 obtain ⟨b,c,hx⟩ := (hs1.has (Has.skip Has.stk)).shape
 rw [frsD_len,List.length_cons] at hx
 subst hx
 repeat (refine gW ?_; intros)
 rw [sub1]
 refine inR_nat (by omega) ?_
 repeat (refine gW ?_; intros)
 refine Must.mk (ltN_t (show r.length < r.length + 1 by omega)) ?_
 have hs2 : Sat (Stk (slc b 0 (r.length + 1) c) tFrD 16 (frsD (g::r))::Own p (pre++([slc b 0 (r.length + 1) c]++post))::RefP m M::R3) H := hs1.ent ee
 obtain ⟨pre',post',es,hpre,hrow,hs3,back⟩ := stk_open hs2 .here (frsD_top g r)
 refine rFrameStep_ok (f := g) (pre := pre') (post := post') hc (by rw [hpre]; show r.length * 16 = 0 + r.length * 16; omega) hs3 pp pp ht hb ok fun H1 h1 => ?_
 have ek : stkD (g::r) M th = (match (g.go M th).2.2 with | some d => frD0 d::(g.go M th).1::r | none => popD ((g.go M th).1::r),(g.go M th).2.1) := rfl
 rw [ek] at k
 have h2 := back _ (fdC (g.go M th).1) H1 rfl (h1.ent (R := Row b tFrD es true (pre'++(fdC (g.go M th).1++post'))::Own p (pre++([slc b 0 (r.length + 1) c]++post))::RefP m (g.go M th).2.1::R3) ee)
 have e1 : (frsD (g::r)).set r.length (fdC (g.go M th).1) = frsD ((g.go M th).1::r) := by
  rw [frsD_cons,frsD_cons,List.set_append_right _ _ (by rw [frsD_len]; exact Nat.le_refl _),frsD_len,Nat.sub_self]; rfl
 rw [e1] at h2
 clear h1 hs3 hs2 hs1 back
 generalize (g.go M th).1 = g' at *
 generalize (g.go M th).2.1 = M' at *
 cases ct : (g.go M th).2.2 with
 | some d =>
  rw [ct] at k
  refine AsTup.mk (Nth.mk rfl (AsTup.mk (Nth.mk rfl ?_)))
  repeat (refine gW ?_; intros)
  rename_i p17 H18 h18
  refine app_stk (new := fdC (frD0 d)) h18 pp el_frD (by omega) sl_frD (Src.cell (ys := fdC (frD0 d)) (n := 16) rfl) rfl (by rw [frsD_cons]; simp) (by rw [frsD_len]; simp; omega) rfl fun v' H20 h20 => ?_
  rw [← frsD_cons] at h20
  obtain ⟨vb,vc,hv'⟩ := (h20.has Has.stk).shape
  subst hv'
  refine Sc.mk rfl ?_
  have h21 : Sat (Own p (pre++([slc b 0 (r.length + 1) c]++post))::Stk (slc vb 0 _ vc) tFrD 16 (frsD (frD0 d::g'::r))::RefP m M'::R3) H20 := h20.ent ee
  refine sw rfl rfl (fun H5 h5 => ?_) h21 ho
  have k1 := k (slc vb 0 (frsD (frD0 d::g'::r)).length vc) H5 h5
  rw [decide_eq_false (by simp)] at k1
  exact k1
 | none =>
  rw [ct] at k
  refine AsTup.mk (Nth.mk rfl (AsTup.mk (Nth.mk rfl ?_)))
  repeat (refine gW ?_; intros)
  refine rHelpLoop_ok (l := g'::r) hc ho (h2.ent ee) (by simp; omega) rfl (by rw [show Int.sub (Int.ofNat (g'::r).length) (Int.ofNat 1) = Int.ofNat r.length from sub1 _]; rfl) fun x' H5 h5 => ?_
  exact k x' H5 h5
def EntS (v : Value) (d : Array E3) : HP := fun h => (d.size = 0∧∃ po c,v = .slice po 0 c) ∨ (0 < d.size∧∃ b c e s w cs,v = slc b 0 d.size c∧Row b e s w cs h∧∀ j,j < (rowE d).length→cs[j]? = (rowE d)[j]?)
theorem EntS.mono {v : Value} {d : Array E3} {g h : PH} (a : EntS v d g) (t : Subh g h) : EntS v d h := by
 rcases a with a | ⟨h0,b,c,e,s,w,cs,h1,h2,h3⟩
 ·exact .inl a
 ·exact .inr ⟨h0,b,c,e,s,w,cs,h1,h2.mono t,h3⟩
theorem EntS.len {v : Value} {d : Array E3} {h : PH} (a : EntS v d h) : ∃ p c,v = .slice p d.size c := by
 rcases a with ⟨h0,po,c,rfl⟩ | ⟨h0,b,c,e,s,w,cs,rfl,_⟩
 ·rw [h0]; exact ⟨po,c,rfl⟩
 ·exact ⟨_,_,rfl⟩
theorem EntS.row {v : Value} {d : Array E3} {L : List HP} {H : CH} (hs : Sat L H) (hq : Has L (EntS v d)) {i : Nat} (hi : i < d.size) : ∃ b c,v = slc b 0 d.size c∧Src L b 0 (rowE d) := by
 rcases hs.has hq with ⟨h0,_⟩ | ⟨h0,b,c,e,s,w,cs,rfl,_⟩
 ·omega
 ·refine ⟨b,c,rfl,fun g a => ?_⟩
  rcases hq g a with ⟨h0',_⟩ | ⟨_,b',c',e',s',w',cs',hv,⟨k,k1,k2,k3,k4,k5,kf,k6,k7⟩,h3⟩
  ·omega
  ·cases hv
   exact ⟨k,k1,k5,fun j hj => by rw [Nat.zero_add,k7]; exact h3 j hj⟩
theorem ldEj {L : List HP} {H : CH} {b i j : Nat} {d : Array E3} {v : Value} {K : Value→Prop} (hs : Sat L H) (hb : Src L b 0 (rowE d)) (hi : i < d.size) (hj : j < 3) (hv : (encE d[i]!)[j]? = some v) (k : K v) : Ld H b (Nat.add (Nat.add 0 (Nat.mul i 3)) j) K :=
 ldSrc hs hb (show Nat.add (Nat.add 0 (Nat.mul i 3)) j = 0 + (i * 3 + j) by show 0 + i * 3 + j = _; omega) ((rowE_at hi j hj).trans hv) k
def dupTo (d : Array E3) (i : Nat) : Prop := ∃ a b,a < b∧b < i∧d[a]!.a = d[b]!.a
theorem dup_nodup (d : Array E3) : dupTo d d.size ↔ ¬ (d.toList.map (·.a)).Nodup := by
 constructor
 ·rintro ⟨a,b,h1,h2,h3⟩ hn
  rw [List.Nodup,List.pairwise_iff_getElem] at hn
  have := hn a b (by simp; omega) (by simp; omega) h1
  rw [List.getElem_map,List.getElem_map,getA,getA] at this
  exact this h3
 ·intro hn
  refine Classical.byContradiction fun hc => hn ?_
  rw [List.Nodup,List.pairwise_iff_getElem]
  intro i j hi hj hij e
  rw [List.length_map] at hi hj
  rw [List.getElem_map,List.getElem_map,getA,getA] at e
  exact hc ⟨i,j,hij,by rw [← Array.length_toList]; exact hj,e⟩
theorem rWrong_ok (hc : Con con lives) {L : List HP} {H : CH} {v : Value} {d : Array E3} {K : KP} (hs : Sat L H) (hq : Has L (EntS v d)) (k : K (iN (errE d.toList)) H) : Call1 Tryz.prog con 42 [v] H K := by
 refine call_of (hc _ _ _ rfl) ?_
 rw [rWrong29_W]
 obtain ⟨pv,cv,hv⟩ := (hs.has hq).len
 have hlen : d.toList.length = d.size := Array.length_toList
 refine AsLen.eq hv ?_
 by_cases h16 : 16 < d.size
 ·refine Cd.t (ltZ_t h16) ?_
  rw [show errE d.toList = 6 from by unfold errE; rw [if_pos (by rw [hlen]; exact h16)]] at k
  exact k
 refine Cd.f (ltZ_f (by omega)) ?_
 refine LoopC.indP (n := 200) (id := 0) (fun σ1 H1 => H1 = H∧σ1 0 = v∧∀ j,j < d.size→badE d[j]! = false) (by kernel_rfl)
  (fun (i : Nat) σ1 H1 => i ≤ d.size∧σ1 0 = v∧σ1 3 = iN i∧(∀ j,j < i→badE d[j]! = false)∧H1 = H)
  (fun i => d.size - i) (fun i σ1 H1 hI => ?_) (fun σ1 H1 hP => ?_) 0 _ _ ⟨Nat.zero_le _,rfl,rfl,(fun j hj => by omega),rfl⟩
 ·obtain ⟨hi,a0,a3,hno,rfl⟩ := hI
  rw [rWrong29A_W]
  simp only [a0,a3]
  refine AsLen.eq hv ?_
  repeat (refine gO ?_; intros)
  by_cases hlt : i < d.size
  ·refine Cd.t (ltZ_t hlt) ?_
   obtain ⟨b,c,hv2,hsrc⟩ := EntS.row hs hq hlt
   subst hv2
   have bad : badE d[i]! = true→errE d.toList = 2 := fun h => by
    unfold errE
    rw [if_neg (by omega),if_pos]
    rw [rangeE_any,List.any_eq_true]
    exact ⟨d.toList[i]'(by rw [hlen]; exact hlt),List.getElem_mem _,by rw [getA]; exact h⟩
   repeat (refine gO ?_; intros)
   refine Must.mk (ltN_t hlt) (ldEj hs hsrc hlt (by omega) rfl ?_)
   repeat (refine gO ?_; intros)
   by_cases c1 : d[i]!.a = 0
   ·refine Cd.t (eqN_t c1) ?_
    rw [bad (by unfold badE; rw [decide_eq_true c1]; rfl)] at k
    exact k
   refine Cd.f (eqN_f c1) ?_
   repeat (refine gO ?_; intros)
   refine Must.mk (ltN_t hlt) (ldEj hs hsrc hlt (by omega) rfl ?_)
   repeat (refine gO ?_; intros)
   by_cases c2 : 4611686018427387904 ≤ d[i]!.o
   ·refine Cd.t (leN_t c2) ?_
    rw [bad (by unfold badE; rw [decide_eq_true c2,Bool.true_or,Bool.or_true])] at k
    exact k
   refine Cd.f (leN_f (by omega)) ?_
   repeat (refine gO ?_; intros)
   refine Must.mk (ltN_t hlt) (ldEj hs hsrc hlt (by omega) rfl ?_)
   repeat (refine gO ?_; intros)
   by_cases c3 : 4611686018427387904 ≤ d[i]!.n
   ·refine Cd.t (leN_t c3) ?_
    rw [bad (by unfold badE; rw [decide_eq_true c3,Bool.or_true,Bool.or_true])] at k
    exact k
   refine Cd.f (leN_f (by omega)) ?_
   repeat (refine gO ?_; intros)
   try rw [addInt]
   refine inR_nat (by first | omega | (simp only; omega)) ?_
   repeat (refine gO ?_; intros)
   show ∃ y,_∧_
   refine ⟨i + 1,by omega,hlt,a0,rfl,fun j hj => ?_,rfl⟩
   by_cases h : j = i
   ·subst h
    unfold badE
    rw [decide_eq_false c1,decide_eq_false c2,decide_eq_false c3]; rfl
   ·exact hno j (by omega)
  ·refine Cd.f (ltZ_f (by omega)) ?_
   show _ = _∧_
   exact ⟨rfl,rfl,a0,fun j hj => hno j (by omega)⟩
 ·obtain ⟨rfl,a0,hno⟩ := hP
  show Cd _ _ _
  refine Cd.t rfl ?_
  have hr : ¬ rangeE d.toList = true := by
   rw [rangeE_any,List.any_eq_true]
   rintro ⟨x,h1,h2⟩
   obtain ⟨j,hj,rfl⟩ := List.getElem_of_mem h1
   rw [getA,hno j (by omega)] at h2
   cases h2
  have hE : errE d.toList = if (d.toList.map (·.a)).Nodup then 0 else 5 := by unfold errE; rw [if_neg (by omega),if_neg hr]
  have dup : dupTo d d.size→K (iN 5) H1 := fun h => by
   rw [hE,if_neg ((dup_nodup d).1 h)] at k
   exact k
  refine LoopC.ind (n := 200) (by kernel_rfl) (fun (i : Nat) σ2 H2 => i ≤ d.size∧σ2 0 = v∧σ2 4 = iN i∧¬ dupTo d i∧H2 = H1) (fun i => d.size - i) (fun i σ2 H2 hI => ?_) 0 _ _ ⟨Nat.zero_le _,a0,rfl,(fun ⟨a,b,h1,h2,h3⟩ => by omega),rfl⟩
  obtain ⟨hi,b0,b4,hnd,rfl⟩ := hI
  rw [rWrong29B_W]
  simp only [b0,b4]
  refine AsLen.eq hv ?_
  repeat (refine gO ?_; intros)
  by_cases hlt : i < d.size
  ·refine Cd.t (ltZ_t hlt) ?_
   obtain ⟨b,c,hv2,hsrc⟩ := EntS.row hs hq hlt
   subst hv2
   refine LoopC.indP (n := 200) (id := 4) (fun σ3 H3 => H3 = H2∧σ3 0 = slc b 0 d.size c∧σ3 4 = iN i∧∀ j,j < i→d[j]!.a ≠ d[i]!.a) (by kernel_rfl)
    (fun (j : Nat) σ3 H3 => j ≤ i∧σ3 0 = slc b 0 d.size c∧σ3 4 = iN i∧σ3 5 = iN j∧(∀ j',j' < j→d[j']!.a ≠ d[i]!.a)∧H3 = H2)
    (fun j => i - j) (fun j σ3 H3 hI => ?_) (fun σ3 H3 hP => ?_) 0 _ _ ⟨Nat.zero_le _,b0,b4,rfl,(fun j hj => by omega),rfl⟩
   ·obtain ⟨hj,c0,c4,c5,hne,rfl⟩ := hI
    rw [rWrong29C_W]
    simp only [c0,c4,c5]
    repeat (refine gO ?_; intros)
    by_cases hji : j < i
    ·refine Cd.t (ltZ_t hji) ?_
     repeat (refine gO ?_; intros)
     refine Must.mk (ltN_t (by omega)) (ldEj hs hsrc (show j < d.size by omega) (by omega) rfl ?_)
     repeat (refine gO ?_; intros)
     refine Must.mk (ltN_t hlt) (ldEj hs hsrc hlt (by omega) rfl ?_)
     repeat (refine gO ?_; intros)
     by_cases he : d[j]!.a = d[i]!.a
     ·refine Cd.t (eqN_t he) ?_
      exact dup ⟨j,i,hji,hlt,he⟩
     ·refine Cd.f (eqN_f he) ?_
      repeat (refine gO ?_; intros)
      try rw [addInt]
      refine inR_nat (by first | omega | (simp only; omega)) ?_
      repeat (refine gO ?_; intros)
      show ∃ y,_∧_
      refine ⟨j + 1,by omega,hji,c0,c4,rfl,fun j' hj' => ?_,rfl⟩
      by_cases h : j' = j
      ·subst h; exact he
      ·exact hne j' (by omega)
    ·refine Cd.f (ltZ_f (by omega)) ?_
     show _ = _∧_
     exact ⟨rfl,rfl,c0,c4,fun j' hj' => hne j' (by omega)⟩
   ·obtain ⟨rfl,c0,c4,hne⟩ := hP
    show Cd _ _ _
    refine Cd.t rfl ?_
    show AsInt _ (σ3 4) _
    rw [c4]
    repeat (refine gO ?_; intros)
    try rw [addInt]
    refine inR_nat (by first | omega | (simp only; omega)) ?_
    repeat (refine gO ?_; intros)
    show ∃ y,_∧_
    refine ⟨i + 1,by omega,hlt,c0,rfl,?_,rfl⟩
    rintro ⟨a,b',h1,h2,h3⟩
    by_cases h : b' = i
    ·subst h; exact hne a h1 h3
    ·exact hnd ⟨a,b',h1,by omega,h3⟩
  ·obtain rfl : i = d.size := by omega
   refine Cd.f (ltZ_f (Nat.le_refl _)) ?_
   show Cd _ _ _
   refine Cd.t rfl ?_
   rw [hE,if_pos (Classical.byContradiction fun h => hnd ((dup_nodup d).2 h))] at k
   exact k
end Go.Proofs.YtnkbmaccgifeoaaGreat

set_option linter.unusedVariables false
set_option linter.unusedSimpArgs false
namespace Go.Proofs.YtnkbmaccgifeoaaGreat
open Go Go.CM
attribute [local irreducible] AsBool AsWant AsNat AsInt AsCnt AsPtr AsSlc AsLen AsStr AsAgg AsTup AsFn AsIfc Nth Sc NotNil IsNil Must Cd codeW funW Sat SatL wrapN subM mkRow ltZ leZ ltN leN
attribute [local irreducible] isFunT
variable {con : CallT}
abbrev tEntD : Nat := 98
theorem el_entD : elemOk Tryz.prog 24 tEntD 3 24 = true := by kernel_rfl
theorem sl_entD : ∃ e,Tryz.prog.underlying 24 = some (.slice e) := ⟨_,(elemOk.out el_entD).1⟩
theorem insE_at {x : E3} : ∀ {l : List E3} {k : Nat},k ≤ l.length→(∀ (j : Nat) y,j < k→l[j]? = some y→y.a < x.a)→(∀ y,l[k]? = some y→¬ y.a < x.a)→insE x l = l.take k++x::l.drop k
 | [],k,hk,_,_ => by
  have : k = 0 := by simpa using hk
  subst this; rfl
 | y::r,0,_,_,h2 => by
  unfold insE
  rw [if_neg (h2 y rfl)]; rfl
 | y::r,k + 1,hk,h1,h2 => by
  unfold insE
  rw [if_pos (h1 0 y (by omega) rfl),insE_at (k := k) (by simpa using hk) (fun j z hj hz => h1 (j + 1) z (by omega) (by simpa using hz)) (fun z hz => h2 z (by simpa using hz))]
  rfl
theorem set_mid {α : Type} (l : List α) (k : Nat) (hk : k ≤ l.length) (y z : α) (m : List α) : (l.take k++y::m).set k z = l.take k++z::m := by
 have h : (l.take k).length = k := by rw [List.length_take]; omega
 rw [List.set_append_right _ _ (by omega),h,Nat.sub_self,List.set_cons_zero]
theorem mid_get {α : Type} (l : List α) (k : Nat) (hk : k ≤ l.length) (y : α) (m : List α) (j : Nat) (hj : j < k) : (l.take k++y::m)[j]? = l[j]? := by
 have h : (l.take k).length = k := by rw [List.length_take]; omega
 rw [List.getElem?_append_left (by omega),List.getElem?_take,if_pos hj]
theorem mid_down {α : Type} (l : List α) (k : Nat) (hk : k < l.length) (y z : α) (hz : l[k]? = some z) : l.take (k + 1)++z::l.drop (k + 1) = l.take k++z::l.drop k := by
 have h1 : l.take (k + 1) = l.take k++[z] := by rw [List.take_add_one,hz]; rfl
 have h2 : l.drop k = z::l.drop (k + 1) := by
  rw [List.drop_eq_getElem_cons hk]
  congr 1
  rw [List.getElem?_eq_getElem hk] at hz
  exact Option.some.inj hz
 rw [h1,h2]; simp
def srtTo (d : Array E3) (i : Nat) : List E3 := (d.toList.take i).foldl (fun row x => insE x row) []
theorem srtTo_succ {d : Array E3} {i : Nat} (h : i < d.size) : srtTo d (i + 1) = insE d[i]! (srtTo d i) := by
 unfold srtTo
 have h' : i < d.toList.length := by rw [Array.length_toList]; exact h
 rw [List.take_add_one,List.getElem?_eq_getElem h',getA,List.foldl_append]; rfl
theorem srtTo_len (d : Array E3) (i : Nat) (h : i ≤ d.size) : (srtTo d i).length = i := by
 unfold srtTo
 rw [(foldE_perm _ []).length_eq]
 simp
 omega
theorem srtTo_all (d : Array E3) : srtTo d d.size = srtE d.toList := by
 unfold srtTo srtE
 rw [List.take_of_length_le (by rw [Array.length_toList]; exact Nat.le_refl _)]
theorem encMap_get {l : List E3} {i : Nat} {y : E3} (h : l[i]? = some y) : (l.map encE)[i]? = some (encE y) := by rw [List.getElem?_map,h]; rfl
theorem rPlanB_ok (hc : Con con lives) {R : List HP} {H : CH} {b c i : Nat} {x : Value} {d : Array E3} {cur : List E3} {σ : TF} {Q : KX} (hi : i < d.size) (hl : cur.length ≤ 16) (hsrc : Src R b 0 (rowE d)) (hs : Sat (Vec x tEntD 3 (cur.map encE)::R) H)
  (e0 : σ 0 = slc b 0 d.size c) (e4 : σ 4 = x) (e5 : σ 5 = iN i) (e6 : σ 6 = iN 0)
  (k : ∀ σ1 kk,kk ≤ cur.length→(∀ (j : Nat) y,j < kk→cur[j]? = some y→y.a < d[i]!.a)→(∀ y,cur[kk]? = some y→¬ y.a < d[i]!.a)→σ1 0 = slc b 0 d.size c→σ1 3 = σ 3→σ1 4 = x→σ1 5 = iN i→σ1 6 = iN kk→Q (.exit 2) σ1 H) :
  LoopC Tryz.prog con (lpAt Tryz.prog 44 1) σ H Q := by
 obtain ⟨px,hx⟩ := (hs.has Has.vec).shape
 rw [List.length_map] at hx
 refine LoopC.indP (n := 200) (id := 2) (fun σ1 H1 => H1 = H∧∃ kk,kk ≤ cur.length∧(∀ (j : Nat) y,j < kk→cur[j]? = some y→y.a < d[i]!.a)∧(∀ y,cur[kk]? = some y→¬ y.a < d[i]!.a)∧σ1 0 = slc b 0 d.size c∧σ1 3 = σ 3∧σ1 4 = x∧σ1 5 = iN i∧σ1 6 = iN kk) (by kernel_rfl)
  (fun (kk : Nat) σ1 H1 => kk ≤ cur.length∧(∀ (j : Nat) y,j < kk→cur[j]? = some y→y.a < d[i]!.a)∧σ1 0 = slc b 0 d.size c∧σ1 3 = σ 3∧σ1 4 = x∧σ1 5 = iN i∧σ1 6 = iN kk∧H1 = H)
  (fun kk => cur.length - kk) (fun kk σ1 H1 hI => ?_) (fun σ1 H1 hP => ?_) 0 _ _ ⟨Nat.zero_le _,(fun j y hj => by omega),e0,rfl,e4,e5,e6,rfl⟩
 ·obtain ⟨hk,hlo,a0,a3,a4,a5,a6,rfl⟩ := hI
  rw [rPlan29B_W]
  simp only [a0,a4,a5,a6]
  refine AsLen.eq hx ?_
  repeat (refine gO ?_; intros)
  by_cases hlt : kk < cur.length
  ·refine Cd.t (ltZ_t hlt) ?_
   obtain ⟨y,hy⟩ : ∃ y,cur[kk]? = some y := ⟨_,List.getElem?_eq_getElem hlt⟩
   obtain ⟨bx,hx2,_⟩ := (hs.has Has.vec).slot (encMap_get hy)
   rw [List.length_map] at hx2
   refine AsSlc.eq hx2 ?_
   repeat (refine gO ?_; intros)
   refine Must.mk (ltN_t hlt) ?_
   refine ldVec hs Has.vec hx2 (encMap_get hy) (j := 0) (by show 0 + kk * 3 + 0 = _; omega) (by omega) rfl ?_
   repeat (refine gO ?_; intros)
   refine Must.mk (ltN_t hi) (ldEj hs hsrc.skip hi (by omega) rfl ?_)
   repeat (refine gO ?_; intros)
   by_cases c1 : y.a < d[i]!.a
   ·refine Cd.t (ltN_t c1) ?_
    repeat (refine gO ?_; intros)
    try rw [addInt]
    refine inR_nat (by first | omega | (simp only; omega)) ?_
    repeat (refine gO ?_; intros)
    show ∃ y,_∧_
    refine ⟨kk + 1,by omega,hlt,fun j z hj hz => ?_,a0,a3,a4,a5,rfl,rfl⟩
    by_cases h : j = kk
    ·subst h; rw [hy] at hz; cases hz; exact c1
    ·exact hlo j z (by omega) hz
   ·refine Cd.f (ltN_f (by omega)) ?_
    show _ = _∧_
    exact ⟨rfl,rfl,kk,hk,hlo,(fun z hz => by rw [hy] at hz; cases hz; exact c1),a0,a3,a4,a5,a6⟩
  ·refine Cd.f (ltZ_f (by omega)) ?_
   show _ = _∧_
   exact ⟨rfl,rfl,kk,hk,hlo,(fun z hz => by rw [List.getElem?_eq_none (by omega)] at hz; cases hz),a0,a3,a4,a5,a6⟩
 ·obtain ⟨rfl,kk,h1,h2,h3,a0,a3,a4,a5,a6⟩ := hP
  exact k σ1 kk h1 h2 h3 a0 a3 a4 a5 a6
theorem rPlanC_ok (hc : Con con lives) {R : List HP} {H : CH} {kk n : Nat} {x : Value} {cur : List E3} {z : E3} {σ : TF} {Q : KX} (hk : kk ≤ cur.length) (hn : cur.length = n) (hl : n ≤ 16) (hs : Sat (Vec x tEntD 3 ((cur++[z]).map encE)::R) H)
  (e4 : σ 4 = x) (e6 : σ 6 = iN kk) (e7 : σ 7 = iN n)
  (k : ∀ σ1 H1 y,σ1 0 = σ 0→σ1 3 = σ 3→σ1 4 = x→σ1 5 = σ 5→σ1 6 = iN kk→Sat (Vec x tEntD 3 ((cur.take kk++y::cur.drop kk).map encE)::R) H1→Q (.exit 4) σ1 H1) :
  LoopC Tryz.prog con (lpAt Tryz.prog 44 2) σ H Q := by
 refine LoopC.indP (n := 200) (id := 4) (fun σ1 H1 => ∃ y,σ1 0 = σ 0∧σ1 3 = σ 3∧σ1 4 = x∧σ1 5 = σ 5∧σ1 6 = iN kk∧Sat (Vec x tEntD 3 ((cur.take kk++y::cur.drop kk).map encE)::R) H1) (by kernel_rfl)
  (fun (j : Nat) σ1 H1 => kk ≤ j∧j ≤ n∧σ1 0 = σ 0∧σ1 3 = σ 3∧σ1 4 = x∧σ1 5 = σ 5∧σ1 6 = iN kk∧σ1 7 = iN j∧∃ y,Sat (Vec x tEntD 3 ((cur.take j++y::cur.drop j).map encE)::R) H1)
  (fun j => j) (fun j σ1 H1 hI => ?_) (fun σ1 H1 hP => ?_) n _ _ ⟨by omega,Nat.le_refl _,rfl,rfl,e4,rfl,e6,e7,z,by rw [List.take_of_length_le (by omega),List.drop_of_length_le (by omega)]; exact hs⟩
 ·obtain ⟨hkj,hjn,a0,a3,a4,a5,a6,a7,y,hs1⟩ := hI
  rw [rPlan29C_W]
  simp only [a4,a6,a7]
  repeat (refine gO ?_; intros)
  by_cases hlt : kk < j
  ·refine Cd.t (ltZ_t hlt) ?_
   repeat (refine gO ?_; intros)
   rw [subInt (by omega)]
   refine inR_nat (by omega) ?_
   have hmid : ∀ m,(cur.take j++m::cur.drop j).length = n + 1 := fun m => by
    rw [List.length_append,List.length_cons,List.length_take,List.length_drop]; omega
   obtain ⟨w,hw⟩ : ∃ w,cur[j - 1]? = some w := ⟨_,List.getElem?_eq_getElem (by omega)⟩
   have hg : (cur.take j++y::cur.drop j)[j - 1]? = some w := by rw [mid_get cur j (by omega) _ _ _ (by omega)]; exact hw
   have hgj : (cur.take j++y::cur.drop j)[j]? = some y := by
    rw [List.getElem?_append_right (by rw [List.length_take]; omega),List.length_take,Nat.min_eq_left (by omega),Nat.sub_self]; rfl
   obtain ⟨bx,hx2,_⟩ := (hs1.has Has.vec).slot (encMap_get hg)
   rw [List.length_map,hmid] at hx2
   subst hx2
   repeat (refine gO ?_; intros)
   refine Must.mk (ltN_t (by omega)) ?_
   refine ldVec hs1 Has.vec rfl (encMap_get hg) (j := 0) (by show 0 + (j - 1) * 3 + 0 = _; omega) (by omega) rfl ?_
   refine ldVec hs1 Has.vec rfl (encMap_get hg) (j := 1) (by show 0 + (j - 1) * 3 + 1 = _; omega) (by omega) rfl ?_
   refine ldVec hs1 Has.vec rfl (encMap_get hg) (j := 2) (by show 0 + (j - 1) * 3 + 2 = _; omega) (by omega) rfl ?_
   repeat (refine gO ?_; intros)
   refine Must.mk (ltN_t (by omega)) ?_
   refine stVecN hs1 .here (encMap_get hgj) (j := 0) (by show 0 + j * 3 = j * 3 + 0; omega) (by show 0 + 3 ≤ 3; omega) rfl fun H17 h17 => ?_
   repeat (refine gO ?_; intros)
   rw [subInt (by omega)]
   refine inR_nat (by omega) ?_
   show ∃ y,_∧_
   refine ⟨j - 1,by omega,by omega,by omega,a0,a3,a4,a5,a6,rfl,w,?_⟩
   have e1 : ((cur.take j++y::cur.drop j).map encE).set j (ovw [u64 w.a,u64 w.o,u64 w.n] (encE y) 0) = (cur.take (j - 1)++w::cur.drop (j - 1)).map encE := by
    have e2 := mid_down cur (j - 1) (by omega) y w hw
    rw [show j - 1 + 1 = j by omega] at e2
    rw [← e2,← set_mid cur j (by omega) y w,List.map_set]; rfl
   rw [e1] at h17
   exact h17
  ·obtain rfl : j = kk := by omega
   refine Cd.f (ltZ_f (Nat.le_refl _)) ?_
   show _ = _∧_
   exact ⟨rfl,y,a0,a3,a4,a5,a6,hs1⟩
 ·obtain ⟨y,a0,a3,a4,a5,a6,hs1⟩ := hP
  exact k σ1 H1 y a0 a3 a4 a5 a6 hs1
theorem rPlanA_ok (hc : Con con lives) {R : List HP} {H : CH} {b c : Nat} {d : Array E3} {σ : TF} {Q : KX} (hn : d.size ≤ 16) (hsrc : Src R b 0 (rowE d)) (hs : Sat R H)
  (e0 : σ 0 = slc b 0 d.size c) (e4 : σ 4 = snil) (e5 : σ 5 = iN 0)
  (k : ∀ σ1 H1 x,σ1 0 = slc b 0 d.size c→σ1 3 = σ 3→σ1 4 = x→Sat (Vec x tEntD 3 ((srtE d.toList).map encE)::R) H1→Q (.exit 0) σ1 H1) :
  LoopC Tryz.prog con (lpAt Tryz.prog 44 0) σ H Q := by
 refine LoopC.indP (n := 300) (id := 0) (fun σ1 H1 => ∃ x,σ1 0 = slc b 0 d.size c∧σ1 3 = σ 3∧σ1 4 = x∧Sat (Vec x tEntD 3 ((srtE d.toList).map encE)::R) H1) (by kernel_rfl)
  (fun (i : Nat) σ1 H1 => i ≤ d.size∧σ1 0 = slc b 0 d.size c∧σ1 3 = σ 3∧σ1 5 = iN i∧∃ x,σ1 4 = x∧Sat (Vec x tEntD 3 ((srtTo d i).map encE)::R) H1)
  (fun i => d.size - i) (fun i σ1 H1 hI => ?_) (fun σ1 H1 hP => ?_) 0 _ _ ⟨Nat.zero_le _,e0,rfl,e5,snil,e4,hs.nilV⟩
 ·obtain ⟨hi,a0,a3,a5,x,a4,hs1⟩ := hI
  rw [rPlan29A_W]
  simp only [a0,a5]
  repeat (refine gO ?_; intros)
  by_cases hlt : i < d.size
  ·refine Cd.t (ltZ_t hlt) ?_
   have hcl := srtTo_len d i hi
   refine rPlanB_ok hc hlt (by omega) hsrc hs1 a0 a4 a5 rfl fun σ2 kk hk1 hk2 hk3 c0 c3 c4 c5 c6 => ?_
   show Cd _ _ _
   refine Cd.t rfl ?_
   refine nw hs1 fun p6 H7 h7 => ?_
   rw [c4]
   refine app_vec (new := [encE ⟨0,0,0⟩]) h7 pp el_entD (by omega) sl_entD (Src.cell (ys := encE ⟨0,0,0⟩) (n := 3) rfl) rfl (by simp [encE]) (by rw [List.length_map]; omega) rfl fun v8 H9 h9 => ?_
   have h9' : Sat (Vec v8 tEntD 3 ((srtTo d i++[(⟨0,0,0⟩ : E3)]).map encE)::R) H9 := by
    rw [List.map_append]; exact h9.ent ee
   obtain ⟨p8,hv8⟩ := (h9'.has Has.vec).shape
   have hl1 : ((srtTo d i++[(⟨0,0,0⟩ : E3)]).map encE).length = i + 1 := by simp [hcl]
   rw [hl1] at hv8
   refine AsLen.eq hv8 ?_
   rw [sub1]
   refine inR_nat (by omega) ?_
   refine rPlanC_ok hc hk1 hcl (by omega) h9' rfl c6 rfl fun σ3 H3 y g0 g3 g4 g5 g6 h3 => ?_
   show Cd _ _ _
   refine Cd.t rfl ?_
   have g0' : σ3 0 = slc b 0 d.size c := g0.trans c0
   have g5' : σ3 5 = iN i := g5.trans c5
   have g3' : σ3 3 = σ 3 := (g3.trans c3).trans a3
   simp only [g0',g5',g4,g6]
   repeat (refine gO ?_; intros)
   refine Must.mk (ltN_t hlt) ?_
   refine ldEs h3 hsrc.skip hlt ?_
   have hgj : ((srtTo d i).take kk++y::(srtTo d i).drop kk)[kk]? = some y := by
    rw [List.getElem?_append_right (by rw [List.length_take]; omega),List.length_take,Nat.min_eq_left (by omega),Nat.sub_self]; rfl
   obtain ⟨bx,hx2,_⟩ := (h3.has Has.vec).slot (encMap_get hgj)
   have hl2 : (((srtTo d i).take kk++y::(srtTo d i).drop kk).map encE).length = i + 1 := by
    rw [List.length_map,List.length_append,List.length_cons,List.length_take,List.length_drop]; omega
   rw [hl2] at hx2
   subst hx2
   repeat (refine gO ?_; intros)
   refine Must.mk (ltN_t (by omega)) ?_
   refine stVecN h3 .here (encMap_get hgj) (j := 0) (by show 0 + kk * 3 = kk * 3 + 0; omega) (by show 0 + 3 ≤ 3; omega) rfl fun H17 h17 => ?_
   repeat (refine gO ?_; intros)
   try rw [addInt]
   refine inR_nat (by first | omega | (simp only; omega)) ?_
   repeat (refine gO ?_; intros)
   show ∃ y,_∧_
   refine ⟨i + 1,by omega,hlt,g0',g3',rfl,_,g4,?_⟩
   have e1 : (((srtTo d i).take kk++y::(srtTo d i).drop kk).map encE).set kk (ovw [u64 d[i]!.a,u64 d[i]!.o,u64 d[i]!.n] (encE y) 0) = (srtTo d (i + 1)).map encE := by
    rw [srtTo_succ hlt,insE_at hk1 hk2 hk3,← set_mid (srtTo d i) kk hk1 y d[i]!,List.map_set]; rfl
   rw [e1] at h17
   exact h17
  ·obtain rfl : i = d.size := by omega
   refine Cd.f (ltZ_f (Nat.le_refl _)) ?_
   show _ = _∧_
   exact ⟨rfl,x,a0,a3,a4,by rw [← srtTo_all]; exact hs1⟩
 ·obtain ⟨x,a0,a3,a4,hs1⟩ := hP
  exact k σ1 H1 x a0 a3 a4 hs1
theorem rPlanD_ok (hc : Con con lives) {R : List HP} {H : CH} {x pv : Value} {l : Array E3} {σ : TF} {Q : KX} (hn : l.size ≤ 16) (hs : Sat (Vec x tEntD 3 (l.toList.map encE)::plV pv (plE l 0)::R) H)
  (e3 : σ 3 = pv) (e4 : σ 4 = x) (e8 : σ 8 = iN 0)
  (k : ∀ σ1 H1 pv',isCell pv' = true→σ1 3 = pv'→Sat (plV pv' (planE l.toList)::R) H1→Q (.exit 6) σ1 H1) (hpv : isCell pv = true) :
  LoopC Tryz.prog con (lpAt Tryz.prog 44 3) σ H Q := by
 have hlen : (l.toList.map encE).length = l.size := by rw [List.length_map,Array.length_toList]
 obtain ⟨px,hx⟩ := (hs.has Has.vec).shape
 rw [hlen] at hx
 refine LoopC.indP (n := 300) (id := 6) (fun σ1 H1 => ∃ pv',isCell pv' = true∧σ1 3 = pv'∧Sat (plV pv' (planE l.toList)::R) H1) (by kernel_rfl)
  (fun (i : Nat) σ1 H1 => i ≤ l.size∧σ1 4 = x∧σ1 8 = iN i∧∃ pv',isCell pv' = true∧σ1 3 = pv'∧Sat (Vec x tEntD 3 (l.toList.map encE)::plV pv' (plE l i)::R) H1)
  (fun i => l.size - i) (fun i σ1 H1 hI => ?_) (fun σ1 H1 hP => ?_) 0 _ _ ⟨Nat.zero_le _,e4,e8,pv,hpv,e3,hs⟩
 ·obtain ⟨hi,a4,a8,pv',hpc,a3,hs1⟩ := hI
  rw [rPlan29D_W]
  simp only [a3,a4,a8]
  refine AsLen.eq hx ?_
  repeat (refine gO ?_; intros)
  by_cases hlt : i < l.size
  ·refine Cd.t (ltZ_t hlt) ?_
   have hy : l.toList[i]? = some l[i]! := by rw [List.getElem?_eq_getElem (by rw [Array.length_toList]; exact hlt),getA]
   obtain ⟨bx,hx2,_⟩ := (hs1.has Has.vec).slot (encMap_get hy)
   rw [hlen] at hx2
   subst hx2
   repeat (refine gO ?_; intros)
   refine Must.mk (ltN_t hlt) ?_
   refine ldVec hs1 Has.vec rfl (encMap_get hy) (j := 0) (by show 0 + i * 3 + 0 = _; omega) (by omega) rfl ?_
   repeat (refine gO ?_; intros)
   refine Must.mk (ltN_t hlt) ?_
   refine ldVec hs1 Has.vec rfl (encMap_get hy) (j := 1) (by show 0 + i * 3 + 1 = _; omega) (by omega) rfl ?_
   repeat (refine gO ?_; intros)
   refine Must.mk (ltN_t hlt) ?_
   refine ldVec hs1 Has.vec rfl (encMap_get hy) (j := 2) (by show 0 + i * 3 + 2 = _; omega) (by omega) rfl ?_
   repeat (refine gO ?_; intros)
   rename_i p19 H20 h20
   refine app_plV (new := [l[i]!.a,Nat.mod (Nat.mul 4 l[i]!.o) 18446744073709551616,Nat.mod (Nat.mul 4 l[i]!.n) 18446744073709551616]) h20 pp (Src.cell (ys := [u64 l[i]!.a,u64 (Nat.mod (Nat.mul 4 l[i]!.o) 18446744073709551616),u64 (Nat.mod (Nat.mul 4 l[i]!.n) 18446744073709551616)]) (n := 3) rfl) rfl (by omega) (by rw [plE_len l i hi]; omega) fun v' H5 hv' h5 => ?_
   repeat (refine gO ?_; intros)
   try rw [addInt]
   refine inR_nat (by first | omega | (simp only; omega)) ?_
   repeat (refine gO ?_; intros)
   show ∃ y,_∧_
   refine ⟨i + 1,by omega,hlt,a4,rfl,v',hv',rfl,?_⟩
   rw [plE_succ hlt]
   exact h5.ent ee
  ·obtain rfl : i = l.size := by omega
   refine Cd.f (ltZ_f (Nat.le_refl _)) ?_
   show _ = _∧_
   exact ⟨rfl,pv',hpc,a3,by rw [← plE_all]; exact hs1.drop⟩
 ·obtain ⟨pv',hpc,a3,hs1⟩ := hP
  exact k σ1 H1 pv' hpc a3 hs1
theorem rPlan_ok (hc : Con con lives) {L : List HP} {H : CH} {v : Value} {d : Array E3} {K : KP} (hs : Sat L H) (hq : Has L (EntS v d)) (h0 : 0 < d.size) (hn : d.size ≤ 16)
  (k : ∀ v' H1,isCell v' = true→Sat (plV v' (planE (srtE d.toList))::L) H1→K v' H1) : Call1 Tryz.prog con 44 [v] H K := by
 refine call_of (hc _ _ _ rfl) ?_
 rw [rPlan29_W]
 obtain ⟨b,c,hv,hsrc⟩ := EntS.row hs hq h0
 subst hv
 repeat (refine gO ?_; intros)
 refine Must.mk (cv_small (by omega)) ?_
 rw [wrapN_small (by omega)]
 refine nwR hs fun p2 H3 h3 => ?_
 refine rPlanA_ok (R := Row p2 23 0 true _::L) hc hn hsrc.skip h3 rfl rfl rfl fun σ1 H1 x c0 c3 c4 h4 => ?_
 show Cd _ _ _
 refine Cd.t rfl ?_
 have hsl : (srtE d.toList).length = d.size := by rw [(srtE_perm _).length_eq,Array.length_toList]
 have c3' : σ1 3 = slc p2 0 2 2 := c3
 have h5 : Sat (Vec x tEntD 3 ((srtE d.toList).toArray.toList.map encE)::plV (slc p2 0 2 2) (plE (srtE d.toList).toArray 0)::L) H1 := by
  have h6 : Sat (Row p2 23 0 true [u64 0,u64 d.size]::Vec x tEntD 3 ((srtE d.toList).map encE)::L) H1 := h4.ent ee
  have h7 : Sat (plV (slc p2 0 2 2) (plE (srtE d.toList).toArray 0)::Vec x tEntD 3 ((srtE d.toList).map encE)::L) H1 := h6.imp fun g a => .inl ⟨p2,23,rfl,by unfold plE; rw [List.size_toArray,hsl]; exact a⟩
  exact h7.ent ee
 refine rPlanD_ok (l := (srtE d.toList).toArray) hc (by rw [List.size_toArray,hsl]; exact hn) h5 c3' c4 rfl (fun σ2 H2 pv' hpc g3 h8 => ?_) rfl
 show Cd _ _ _
 refine Cd.t rfl ?_
 rw [g3]
 exact k pv' H2 hpc h8
end Go.Proofs.YtnkbmaccgifeoaaGreat

set_option linter.unusedVariables false
set_option linter.unusedSimpArgs false
namespace Go.Proofs.YtnkbmaccgifeoaaGreat
open Go Go.CM
attribute [local irreducible] AsBool AsWant AsNat AsInt AsCnt AsPtr AsSlc AsLen AsStr AsAgg AsTup AsFn AsIfc Nth Sc NotNil IsNil Must Cd codeW funW Sat SatL wrapN subM mkRow ltZ leZ ltN leN
attribute [local irreducible] isFunT
variable {con : CallT}
theorem Own.opn {p : Nat} {cs : List Value} {R : List HP} {H : CH} (hs : Sat (Own p cs::R) H) : ∃ e s,Sat (Row p e s true cs::R) H := by
 obtain ⟨h1,h2,s1,s2,dj,⟨e,s,a⟩,y⟩ := hs.opens Pull.here
 exact ⟨e,s,Sat.merge (L1 := [_]) s1 s2 dj (SatL.one a) y⟩
theorem Own.cls {p e s : Nat} {cs : List Value} {R : List HP} {H : CH} (hs : Sat (Row p e s true cs::R) H) : Sat (Own p cs::R) H := hs.imp fun _ a => a.obj
def mdC (y : MuD) (lv xv : Value) : List Value := [iN y.at_,lv,u64 y.d,xv,.bool y.done,iN y.err]
def MuDAt (p : Nat) (lv : Value) (y : MuD) : HP := fun h => (y.at_ = 1∧∃ xv,SatL [Own p (mdC y lv xv),Stk xv tFrD 16 (frsD y.stk)] h) ∨ (y.at_ ≠ 1∧∃ xv,Own p (mdC y lv xv) h)
def StkOkD (l : List FrD) : Prop := ∃ g r,l = g::r∧g.Ok∧r.length < 100000000
structure MuD.Ok (y : MuD) : Prop where
 at_ : y.at_ ≤ 3
 stk : y.at_ = 1→StkOkD y.stk
 err : y.at_ = 1 ∨ y.at_ = 2→y.err = 0
theorem rMultiStep_ok (hc : Con con lives) {y : MuD} {d : Array E3} {lv : Value} {L R1 R2 : List HP} {H : CH} {p m : Nat} {th : Int} {M : Mem} {K : KP} (hdl : d.toList = y.l) (hs : Sat L H) (hm : Pull L (RefP m M) R1) (hp : Pull R1 (MuDAt p lv y) R2) (hq : Has R2 (EntS lv d))
  (ht : M.tr.length < 1000000000) (hb : M.Bd) (ok : y.Ok)
  (k : ∀ H1,Sat (MuDAt p lv (y.go M th).1::RefP m (y.go M th).2::R2) H1→K (.bool (decide ((y.go M th).1.at_ = 3))) H1) : Call1 Tryz.prog con 13 [ptr p 0,ptr m 0,i64 th] H K := by
 refine call_of (hc _ _ _ rfl) ?_
 rw [rMultiStep_W]
 have hs0 := hs.takes (.cons hm (.cons hp .nil))
 simp only [List.cons_append,List.nil_append] at hs0
 clear hs hm hp
 have hs1 : Sat (MuDAt p lv y::RefP m M::R2) H := hs0.ent ee
 clear hs0
 obtain ⟨h1,h2,s1,s2,dj,a,yy⟩ := hs1.opens Pull.here
 clear hs1
 have hat := ok.at_
 have hst := ok.stk
 have her := ok.err
 clear ok
 obtain ⟨l,at_,dd,stk,done,err⟩ := y
 simp only at hat hst her hdl
 subst hdl
 rcases a with ⟨e0,xv,a⟩ | ⟨e0,xv,a⟩
 ·simp only at e0
  subst e0
  have hs2 := Sat.merge s1 s2 dj a yy
  simp only [List.cons_append,List.nil_append] at hs2
  clear a yy s1 s2 dj
  obtain ⟨g,r,rfl,hg,hr⟩ := hst rfl
  repeat (refine gO ?_; intros)
  refine rHelpStep_ok (pre := [iN 1,lv,u64 dd]) (post := [.bool done,iN err]) hc rfl hs2 pp .here .here ht hb hg hr fun x' H40 h40 => ?_
  have ek : MuD.go ⟨d.toList,1,dd,g::r,done,err⟩ M th = (⟨d.toList,if (stkD (g::r) M th).1 = [] then 2 else 1,dd,(stkD (g::r) M th).1,done,err⟩,(stkD (g::r) M th).2) := rfl
  rw [ek] at k
  generalize (stkD (g::r) M th).1 = s' at *
  generalize (stkD (g::r) M th).2 = M' at *
  have h41 : Sat (Own p [iN 1,lv,u64 dd,x',.bool done,iN err]::Stk x' tFrD 16 (frsD s')::RefP m M'::R2) H40 := h40
  clear h40
  repeat (refine gO ?_; intros)
  by_cases h0 : s' = []
  ·rw [if_pos h0] at k
   refine Cd.t (by rw [h0]; rfl) ?_
   repeat (refine gO ?_; intros)
   rename_i hlast
   have h6 : Sat (Own p (mdC ⟨d.toList,2,dd,s',done,err⟩ lv x')::RefP m M'::R2) _ := Sat.ent hlast ee
   exact k _ (h6.imp fun g a => .inr ⟨by show ¬ 2 = 1; omega,_,a⟩)
  ·rw [if_neg h0] at k
   refine Cd.f (decide_eq_false fun h => h0 (List.eq_nil_of_length_eq_zero h)) ?_
   repeat (refine gO ?_; intros)
   exact k _ (Sat.close (L1 := [Own p (mdC ⟨d.toList,1,dd,s',done,err⟩ lv x'),Stk x' tFrD 16 (frsD s')]) h41 fun g a => .inl ⟨rfl,x',a⟩)
 ·have hs2 : Sat (Own p (mdC ⟨d.toList,at_,dd,stk,done,err⟩ lv xv)::RefP m M::R2) H := Sat.merge (L1 := [_]) s1 s2 dj (SatL.one a) yy
  clear a yy s1 s2 dj
  simp only at e0
  have hlen : d.toList.length = d.size := Array.length_toList
  rcases (by omega : at_ = 0 ∨ at_ = 2 ∨ at_ = 3) with rfl | rfl | rfl
  ·obtain ⟨pl,cl,hlv⟩ := (hs2.has (Has.skip (Has.skip hq))).len
   repeat (refine gO ?_; intros)
   refine rWrong_ok hc hs2 (Has.skip (Has.skip hq)) ?_
   repeat (refine gO ?_; intros)
   by_cases he : errE d.toList = 0
   ·rw [he]
    refine Cd.f (by rw [eqZ_self]; rfl) ?_
    repeat (refine gO ?_; intros)
    rename_i H6 h6
    rw [he] at h6
    refine AsLen.eq hlv ?_
    by_cases h0 : d.size = 0
    ·refine Cd.t (eqZ_t h0) ?_
     have hnil : d.toList = [] := List.eq_nil_of_length_eq_zero (by rw [hlen]; exact h0)
     have ek : MuD.go ⟨d.toList,0,dd,stk,done,err⟩ M th = (⟨d.toList,3,dd,stk,decide (errE d.toList = 0),errE d.toList⟩,M) := Eq.trans (if_pos rfl) (if_pos (.inr hnil))
     rw [ek,he] at k
     repeat (refine gO ?_; intros)
     rename_i hlast
     have h7 : Sat (Own p (mdC ⟨d.toList,3,dd,stk,true,0⟩ lv xv)::RefP m M::R2) _ := Sat.ent hlast ee
     exact k _ (h7.imp fun g a => .inr ⟨by show ¬ 3 = 1; omega,_,a⟩)
    ·refine Cd.f (eqZ_f h0) ?_
     have hne : ¬ (errE d.toList ≠ 0 ∨ d.toList = []) := by
      rintro (h | h)
      ·exact h he
      ·rw [h] at hlen; exact h0 hlen.symm
     have ek : MuD.go ⟨d.toList,0,dd,stk,done,err⟩ M th = (⟨d.toList,if M.room (planE (srtE d.toList)) = 0 then 3 else 1,M.room (planE (srtE d.toList)),[frD0 (M.room (planE (srtE d.toList)))],done,if M.room (planE (srtE d.toList)) = 0 then 30 else 0⟩,M.alloc th (planE (srtE d.toList))) := Eq.trans (if_pos rfl) (if_neg hne)
     rw [ek] at k
     have hd16 : d.size ≤ 16 := by have := (errE_zero he).1; omega
     have hsl : (srtE d.toList).length = d.size := by rw [(srtE_perm _).length_eq,hlen]
     repeat (refine gO ?_; intros)
     refine rPlan_ok hc h6 (Has.skip (Has.skip hq)) (by omega) hd16 fun v' H21 hv' h21 => ?_
     refine refAlloc_ok (vals := planE (srtE d.toList)) hc h21 pp Has.plV (by rw [planE_len]; omega) ht fun H23 h23 => ?_
     generalize M.room (planE (srtE d.toList)) = rm at *
     refine Sc.mk rfl ?_
     refine sa rfl fun H24 h24 => ?_
     refine la rfl ?_
     refine Sc.mk rfl ?_
     refine nwR h24 fun p26 H27 h27 => ?_
     repeat (refine gO ?_; intros)
     rename_i hlast
     have h28 : Sat (Row p26 tFrD 0 true (fdC (frD0 rm))::Own p [iN 1,lv,u64 rm,slc p26 0 1 1,.bool done,iN 0]::RefP m (M.alloc th (planE (srtE d.toList)))::R2) _ := Sat.ent hlast ee
     have h29 : Sat (Stk (slc p26 0 1 1) tFrD 16 (frsD [frD0 rm])::Own p [iN 1,lv,u64 rm,slc p26 0 1 1,.bool done,iN 0]::RefP m (M.alloc th (planE (srtE d.toList)))::R2) _ := h28.imp fun g a => a.stk rfl (by simp [fdC,fdA,sdC]) (by omega) rfl
     by_cases hr : rm = 0
     ·simp only [hr,if_true] at k
      refine Cd.t (eqN_t hr) ?_
      have h30 : Sat (Own p [iN 1,lv,u64 rm,slc p26 0 1 1,.bool done,iN 0]::RefP m (M.alloc th (planE (srtE d.toList)))::R2) _ := h29.drop
      clear hlast h28 h29
      repeat (refine gO ?_; intros)
      rename_i hlast
      rw [hr] at hlast
      have h7 : Sat (Own p (mdC ⟨d.toList,3,0,[frD0 0],done,30⟩ lv (slc p26 0 1 1))::RefP m (M.alloc th (planE (srtE d.toList)))::R2) _ := Sat.ent hlast ee
      exact k _ (h7.imp fun g a => .inr ⟨by show ¬ 3 = 1; omega,_,a⟩)
     ·simp only [hr,if_false] at k
      refine Cd.f (eqN_f hr) ?_
      repeat (refine gO ?_; intros)
      exact k _ (Sat.close (L1 := [Own p (mdC ⟨d.toList,1,rm,[frD0 rm],done,0⟩ lv (slc p26 0 1 1)),Stk (slc p26 0 1 1) tFrD 16 (frsD [frD0 rm])]) (Sat.ent h29 ee) fun g a => .inl ⟨rfl,_,a⟩)
   ·have ek : MuD.go ⟨d.toList,0,dd,stk,done,err⟩ M th = (⟨d.toList,3,dd,stk,decide (errE d.toList = 0),errE d.toList⟩,M) := Eq.trans (if_pos rfl) (if_pos (.inl he))
    rw [ek,decide_eq_false he] at k
    refine Cd.t (by rw [eqZ_f he]; rfl) ?_
    repeat (refine gO ?_; intros)
    rename_i hlast
    rw [eqZ_f he] at hlast
    have h7 : Sat (Own p (mdC ⟨d.toList,3,dd,stk,false,errE d.toList⟩ lv xv)::RefP m M::R2) _ := Sat.ent hlast ee
    exact k _ (h7.imp fun g a => .inr ⟨by show ¬ 3 = 1; omega,_,a⟩)
  ·have e2 : err = 0 := her (.inr rfl)
   subst e2
   repeat (refine gO ?_; intros)
   refine refLoad_ok hc hs2 pp ht fun H50 h50 => ?_
   have ek : MuD.go ⟨d.toList,2,dd,stk,done,0⟩ M th = (⟨d.toList,3,dd,stk,decide (M.peek dd = 1),if M.peek dd = 3 then 30 else 0⟩,M.load th dd) := rfl
   rw [ek] at k
   have e1 : eqN (M.peek dd) 1 = decide (M.peek dd = 1) := by
    by_cases c : M.peek dd = 1
    ·rw [eqN_t c,decide_eq_true c]
    ·rw [eqN_f c,decide_eq_false c]
   repeat (refine gO ?_; intros)
   by_cases c3 : M.peek dd = 3
   ·rw [if_pos c3] at k
    refine Cd.t (eqN_t c3) ?_
    repeat (refine gO ?_; intros)
    rename_i hlast
    rw [e1] at hlast
    have h7 : Sat (Own p (mdC ⟨d.toList,3,dd,stk,decide (M.peek dd = 1),30⟩ lv xv)::RefP m (M.load th dd)::R2) _ := Sat.ent hlast ee
    exact k _ (h7.imp fun g a => .inr ⟨by show ¬ 3 = 1; omega,_,a⟩)
   ·rw [if_neg c3] at k
    refine Cd.f (eqN_f c3) ?_
    repeat (refine gO ?_; intros)
    rename_i hlast
    rw [e1] at hlast
    have h7 : Sat (Own p (mdC ⟨d.toList,3,dd,stk,decide (M.peek dd = 1),0⟩ lv xv)::RefP m (M.load th dd)::R2) _ := Sat.ent hlast ee
    exact k _ (h7.imp fun g a => .inr ⟨by show ¬ 3 = 1; omega,_,a⟩)
  ·repeat (refine gO ?_; intros)
   exact k _ (hs2.imp fun g a => .inr ⟨by show ¬ 3 = 1; omega,_,a⟩)
def rdDC (y : RdD) (xv : Value) : List Value := [iN y.kind,u64 y.addr]++(sdC y.st++[xv,u64 y.val])
def RdDAt (p : Nat) (y : RdD) : HP := fun h => (y.kind = 2∧∃ xv,SatL [Own p (rdDC y xv),Stk xv tFrD 16 (frsD y.stk)] h) ∨ (y.kind ≠ 2∧∃ xv,Own p (rdDC y xv) h)
structure RdD.Ok (y : RdD) : Prop where
 kind : y.kind ≤ 3
 st : y.kind = 1→y.st.r < 18446744073709551616∧y.st.at_ < 6
 stk : y.kind = 2→StkOkD y.stk
theorem rReadStep_ok (hc : Con con lives) {y : RdD} {L R1 R2 : List HP} {H : CH} {p m : Nat} {th : Int} {M : Mem} {K : KP} (hs : Sat L H) (hm : Pull L (RefP m M) R1) (hp : Pull R1 (RdDAt p y) R2)
  (ht : M.tr.length < 1000000000) (hb : M.Bd) (ok : y.Ok)
  (k : ∀ H1,Sat (RdDAt p (y.go M th).1::RefP m (y.go M th).2::R2) H1→K (.bool (decide ((y.go M th).1.kind = 3))) H1) : Call1 Tryz.prog con 12 [ptr p 0,ptr m 0,i64 th] H K := by
 refine call_of (hc _ _ _ rfl) ?_
 rw [rReadStep_W]
 have hs0 := hs.takes (.cons hm (.cons hp .nil))
 simp only [List.cons_append,List.nil_append] at hs0
 clear hs hm hp
 have hs1 : Sat (RdDAt p y::RefP m M::R2) H := hs0.ent ee
 clear hs0
 obtain ⟨h1,h2,s1,s2,dj,a,yy⟩ := hs1.opens Pull.here
 clear hs1
 have hat := ok.kind
 have hst := ok.st
 have hstk := ok.stk
 clear ok
 obtain ⟨addr,kind,st,stk,val⟩ := y
 simp only at hat hst hstk
 rcases a with ⟨e0,xv,a⟩ | ⟨e0,xv,a⟩
 ·simp only at e0
  subst e0
  have hs2 := Sat.merge s1 s2 dj a yy
  simp only [List.cons_append,List.nil_append] at hs2
  clear a yy s1 s2 dj
  obtain ⟨g,r,rfl,hg,hr⟩ := hstk rfl
  repeat (refine gO ?_; intros)
  refine rHelpStep_ok (pre := [iN 2,u64 addr]++sdC st) (post := [u64 val]) hc rfl hs2 pp .here .here ht hb hg hr fun x' H40 h40 => ?_
  have ek : RdD.go ⟨addr,2,st,g::r,val⟩ M th = (⟨addr,if (stkD (g::r) M th).1 = [] then 0 else 2,st,(stkD (g::r) M th).1,val⟩,(stkD (g::r) M th).2) := rfl
  rw [ek] at k
  generalize (stkD (g::r) M th).1 = s' at *
  generalize (stkD (g::r) M th).2 = M' at *
  have h41 : Sat (Own p (rdDC ⟨addr,2,st,s',val⟩ x')::Stk x' tFrD 16 (frsD s')::RefP m M'::R2) H40 := h40
  clear h40
  repeat (refine gO ?_; intros)
  by_cases h0 : s' = []
  ·rw [if_pos h0] at k
   refine Cd.t (by rw [h0]; rfl) ?_
   repeat (refine gO ?_; intros)
   rename_i hlast
   have h6 : Sat (Own p (rdDC ⟨addr,0,st,s',val⟩ x')::RefP m M'::R2) _ := Sat.ent hlast ee
   exact k _ (h6.imp fun g a => .inr ⟨by show ¬ 0 = 2; omega,_,a⟩)
  ·rw [if_neg h0] at k
   refine Cd.f (decide_eq_false fun h => h0 (List.eq_nil_of_length_eq_zero h)) ?_
   repeat (refine gO ?_; intros)
   exact k _ (Sat.close (L1 := [Own p (rdDC ⟨addr,2,st,s',val⟩ x'),Stk x' tFrD 16 (frsD s')]) h41 fun g a => .inl ⟨rfl,x',a⟩)
 ·have hs2 : Sat (Own p (rdDC ⟨addr,kind,st,stk,val⟩ xv)::RefP m M::R2) H := Sat.merge (L1 := [_]) s1 s2 dj (SatL.one a) yy
  clear a yy s1 s2 dj
  simp only at e0
  rcases (by omega : kind = 0 ∨ kind = 1 ∨ kind = 3) with rfl | rfl | rfl
  ·repeat (refine gO ?_; intros)
   refine refLoad_ok hc hs2 pp ht fun H5 h5 => ?_
   have hr := hb.peek addr
   have ek : RdD.go ⟨addr,0,st,stk,val⟩ M th = (if M.peek addr % 4 = 1 then ⟨addr,1,settD0 (M.peek addr),stk,val⟩ else if M.peek addr % 4 = 2 then ⟨addr,2,st,[frD0 (M.peek addr / 4)],val⟩ else ⟨addr,3,st,stk,M.peek addr / 4⟩,M.load th addr) := rfl
   rw [ek] at k
   generalize M.peek addr = r at *
   generalize M.load th addr = M' at *
   refine isLock_ok hc ?_
   repeat (refine gO ?_; intros)
   by_cases c1 : r % 4 = 1
   ·rw [if_pos c1] at k
    refine Cd.t (eqN_t c1) ?_
    repeat (refine gO ?_; intros)
    refine stN h5 (Nat.le_of_ble_eq_true rfl) rfl fun H9 h9 => ?_
    repeat (refine gO ?_; intros)
    rename_i hlast
    have h6 : Sat (Own p (rdDC ⟨addr,1,settD0 r,stk,val⟩ xv)::RefP m M'::R2) _ := Sat.ent hlast ee
    exact k _ (h6.imp fun g a => .inr ⟨by show ¬ 1 = 2; omega,_,a⟩)
   ·rw [if_neg c1] at k
    refine Cd.f (eqN_f c1) ?_
    refine isPlan_ok hc ?_
    repeat (refine gO ?_; intros)
    by_cases c2 : r % 4 = 2
    ·rw [if_pos c2] at k
     refine Cd.t (eqN_t c2) ?_
     refine AsNat.mk ?_
     rw [md4 hr]
     refine nwR h5 fun p17 H18 h18 => ?_
     repeat (refine gO ?_; intros)
     rename_i hlast
     have h28 : Sat (Row p17 tFrD 0 true (fdC (frD0 (r / 4)))::Own p (rdDC ⟨addr,2,st,[frD0 (r / 4)],val⟩ (slc p17 0 1 1))::RefP m M'::R2) _ := Sat.ent hlast ee
     have h29 : Sat (Stk (slc p17 0 1 1) tFrD 16 (frsD [frD0 (r / 4)])::Own p (rdDC ⟨addr,2,st,[frD0 (r / 4)],val⟩ (slc p17 0 1 1))::RefP m M'::R2) _ := h28.imp fun g a => a.stk rfl (by simp [fdC,fdA,sdC]) (by omega) rfl
     exact k _ (Sat.close (L1 := [Own p (rdDC ⟨addr,2,st,[frD0 (r / 4)],val⟩ (slc p17 0 1 1)),Stk (slc p17 0 1 1) tFrD 16 (frsD [frD0 (r / 4)])]) (Sat.ent h29 ee) fun g a => .inl ⟨rfl,_,a⟩)
    ·rw [if_neg c2] at k
     refine Cd.f (eqN_f c2) ?_
     repeat (refine gO ?_; intros)
     rename_i hlast
     rw [md4 hr] at hlast
     have h6 : Sat (Own p (rdDC ⟨addr,3,st,stk,r / 4⟩ xv)::RefP m M'::R2) _ := Sat.ent hlast ee
     exact k _ (h6.imp fun g a => .inr ⟨by show ¬ 3 = 2; omega,_,a⟩)
  ·obtain ⟨hr,hx⟩ := hst rfl
   repeat (refine gO ?_; intros)
   obtain ⟨e,s,hs3⟩ := Own.opn hs2
   refine rSettleStep_ok (x := st) (pre := [iN 1,u64 addr]) (post := [xv,u64 val]) hc rfl hs3 pp .here ht hr hx fun H30 h30 => ?_
   have ek : RdD.go ⟨addr,1,st,stk,val⟩ M th = (⟨addr,if (st.go M th).2.2 then 0 else 1,(st.go M th).1,stk,val⟩,(st.go M th).2.1) := rfl
   rw [ek] at k
   have h31 : Sat (Own p (rdDC ⟨addr,1,(st.go M th).1,stk,val⟩ xv)::RefP m (st.go M th).2.1::R2) H30 := Own.cls h30
   clear h30 hs3
   generalize (st.go M th).1 = s' at *
   generalize (st.go M th).2.1 = M' at *
   repeat (refine gO ?_; intros)
   cases c : (st.go M th).2.2 with
   | true =>
    rw [c] at k
    refine Cd.t rfl ?_
    repeat (refine gO ?_; intros)
    rename_i hlast
    have h6 : Sat (Own p (rdDC ⟨addr,0,s',stk,val⟩ xv)::RefP m M'::R2) _ := Sat.ent hlast ee
    exact k _ (h6.imp fun g a => .inr ⟨by show ¬ 0 = 2; omega,_,a⟩)
   | false =>
    rw [c] at k
    refine Cd.f rfl ?_
    repeat (refine gO ?_; intros)
    exact k _ (h31.imp fun g a => .inr ⟨by show ¬ 1 = 2; omega,_,a⟩)
  ·repeat (refine gO ?_; intros)
   exact k _ (hs2.imp fun g a => .inr ⟨by show ¬ 3 = 2; omega,_,a⟩)
end Go.Proofs.YtnkbmaccgifeoaaGreat

set_option linter.unusedVariables false
set_option linter.unusedSimpArgs false
namespace Go.Proofs.YtnkbmaccgifeoaaGreat
open Go Go.CM
attribute [local irreducible] AsBool AsWant AsNat AsInt AsCnt AsPtr AsSlc AsLen AsStr AsAgg AsTup AsFn AsIfc Nth Sc NotNil IsNil Must Cd codeW funW Sat SatL wrapN subM mkRow ltZ leZ ltN leN
variable {con : CallT}
theorem el_int : elemOk Tryz.prog 70 3 1 8 = true := by kernel_rfl
theorem el_ev : elemOk Tryz.prog 160 182 4 32 = true := by kernel_rfl
theorem el_thr : elemOk Tryz.prog 158 179 3 40 = true := by kernel_rfl
theorem el_pr : elemOk Tryz.prog 151 43 1 16 = true := by kernel_rfl
theorem sl_int : ∃ e,Tryz.prog.underlying 70 = some (.slice e) := ⟨3,by kernel_rfl⟩
theorem sl_ev : ∃ e,Tryz.prog.underlying 160 = some (.slice e) := ⟨182,by kernel_rfl⟩
theorem sl_thr : ∃ e,Tryz.prog.underlying 158 = some (.slice e) := ⟨179,by kernel_rfl⟩
theorem sl_pr : ∃ e,Tryz.prog.underlying 151 = some (.slice e) := ⟨43,by kernel_rfl⟩
def runC (m : Nat) (tv : Value) (vws : List Value) (steps : Nat) (ev av : Value) : List Value := ptr m 0::tv::(vws++[iN steps,ev,av])
theorem runC_len {m : Nat} {tv : Value} {vws : List Value} {s : Nat} {ev av : Value} (h : vws.length = 64) : (runC m tv vws s ev av).length = 69 := by simp [runC,h]
theorem run66 {m : Nat} {tv : Value} {vws : List Value} {s : Nat} {ev av : Value} (h : vws.length = 64) : (runC m tv vws s ev av)[66]? = some (iN s) := by
 show (vws++[iN s,ev,av])[64]? = _
 rw [List.getElem?_append_right (by omega),h]; rfl
theorem run67 {m : Nat} {tv : Value} {vws : List Value} {s : Nat} {ev av : Value} (h : vws.length = 64) : (runC m tv vws s ev av)[67]? = some ev := by
 show (vws++[iN s,ev,av])[65]? = _
 rw [List.getElem?_append_right (by omega),h]; rfl
theorem run68 {m : Nat} {tv : Value} {vws : List Value} {s : Nat} {ev av : Value} (h : vws.length = 64) : (runC m tv vws s ev av)[68]? = some av := by
 show (vws++[iN s,ev,av])[66]? = _
 rw [List.getElem?_append_right (by omega),h]; rfl
theorem runV {m n : Nat} {tv : Value} {vws : List Value} {s : Nat} {ev av : Value} (h : n < vws.length) : (runC m tv vws s ev av)[Nat.add 2 (Nat.mul n 1)]? = vws[n]? := by
 rw [show Nat.add 2 (Nat.mul n 1) = n + 1 + 1 from by show 2 + n * 1 = _; omega]
 show (vws++[iN s,ev,av])[n]? = _
 rw [List.getElem?_append_left h]
theorem set66 {m : Nat} {tv : Value} {vws : List Value} {s s' : Nat} {ev av : Value} (h : vws.length = 64) : (runC m tv vws s ev av).set 66 (iN s') = runC m tv vws s' ev av := by
 show ptr m 0::tv::(vws++[iN s,ev,av]).set 64 (iN s') = _
 rw [List.set_append_right _ _ (by omega),h]; rfl
theorem set67 {m : Nat} {tv : Value} {vws : List Value} {s : Nat} {ev ev' av : Value} (h : vws.length = 64) : (runC m tv vws s ev av).set 67 ev' = runC m tv vws s ev' av := by
 show ptr m 0::tv::(vws++[iN s,ev,av]).set 65 ev' = _
 rw [List.set_append_right _ _ (by omega),h]; rfl
theorem set68 {m : Nat} {tv : Value} {vws : List Value} {s : Nat} {ev av av' : Value} (h : vws.length = 64) : (runC m tv vws s ev av).set 68 av' = runC m tv vws s ev av' := by
 show ptr m 0::tv::(vws++[iN s,ev,av]).set 66 av' = _
 rw [List.set_append_right _ _ (by omega),h]; rfl
theorem setV {m n : Nat} {tv : Value} {vws : List Value} {s : Nat} {ev av v : Value} (h : n < vws.length) : (runC m tv vws s ev av).set (Nat.add 2 (Nat.mul n 1)) v = runC m tv (vws.set n v) s ev av := by
 rw [show Nat.add 2 (Nat.mul n 1) = n + 1 + 1 from by show 2 + n * 1 = _; omega]
 show ptr m 0::tv::(vws++[iN s,ev,av]).set n v = _
 rw [List.set_append_left _ _ h]; rfl
def thrRows (pv : List Value) (ths : List (Nat × Bool)) : List (List Value) := List.zipWith (fun p t => [p,iN t.1,.bool t.2]) pv ths
def procsL (pv : List Value) (prs : List (List Value)) : List HP := List.zipWith (fun p l => Vec p 43 1 (l.map fun x => [x])) pv prs
def RunAt (r m : Nat) (tv : Value) (pv : List Value) (prs : List (List Value)) (ths : List (Nat × Bool)) (vws : List Value) (steps T : Nat) : HP := fun h => ∃ (ev av : Value) (evs ats : List (List Value)),
 (evs.length ≤ 2 * steps∧ats.length ≤ T∧vws.length = 64∧pv.length = ths.length∧prs.length = ths.length) ∧
 SatL [Own r (runC m tv vws steps ev av),Vec tv 179 3 (thrRows pv ths),Vec ev 182 4 evs,Vec av 3 1 ats,SatL (procsL pv prs)] h
theorem thr_get {pv : List Value} {ths : List (Nat × Bool)} {i : Nat} {p : Value} {t : Nat × Bool} (h1 : pv[i]? = some p) (h2 : ths[i]? = some t) : (thrRows pv ths)[i]? = some [p,iN t.1,.bool t.2] := by
 unfold thrRows; rw [List.getElem?_zipWith,h1,h2]
theorem procs_get {pv : List Value} {prs : List (List Value)} {i : Nat} {p : Value} {l : List Value} (h1 : pv[i]? = some p) (h2 : prs[i]? = some l) : (procsL pv prs)[i]? = some (Vec p 43 1 (l.map fun x => [x])) := by
 unfold procsL; rw [List.getElem?_zipWith,h1,h2]
theorem thr_set {pv : List Value} {ths : List (Nat × Bool)} {i : Nat} {p : Value} {t : Nat × Bool} (h1 : pv[i]? = some p) : (thrRows pv ths).set i [p,iN t.1,.bool t.2] = thrRows pv (ths.set i t) := by
 unfold thrRows
 apply List.ext_getElem?
 intro j
 rw [List.getElem?_set,List.getElem?_zipWith,List.getElem?_zipWith,List.getElem?_set,List.length_zipWith]
 by_cases hj : i = j
 ·subst hj
  rw [h1]
  have := (List.getElem?_eq_some_iff.1 h1).1
  simp only [if_true]
  by_cases hl : i < ths.length
  ·rw [if_pos hl,if_pos (by omega)]
  ·rw [if_neg hl,if_neg (by omega)]
 ·simp only [hj,if_false]
theorem stepNote_ok (hc : Con con lives) {L R1 R2 : List HP} {H : CH} {r m steps : Nat} {step : Int} {tv ev av : Value} {vws : List Value} {ats : List (List Value)} {ahead now : Nat} {K : KP} (hs : Sat L H) (hp : Pull L (Own r (runC m tv vws steps ev av)) R1) (hq : Pull R1 (Vec av 3 1 ats) R2)
  (hv : vws.length = 64) (h1 : ats.length ≤ ahead) (h2 : ahead ≤ now) (h3 : now ≤ 1000000000) (k : ∀ av' ats' H1,ats'.length ≤ now→Sat (Own r (runC m tv vws steps ev av')::Vec av' 3 1 ats'::R2) H1→K unit H1) :
  Call1 Tryz.prog con 70 [ptr r 0,i64 step,iN ahead,iN now] H K := by
 refine call_of (hc _ _ _ rfl) ?_
 rw [stepNote_W]
 have hs0 := hs.takes (.cons hp (.cons hq .nil))
 simp only [List.cons_append,List.nil_append] at hs0
 refine LoopC.indP (n := 100) (id := 0) (fun σ H => σ 0 = ptr r 0∧σ 1 = i64 step∧σ 3 = iN now∧∃ av ats,ats.length ≤ now∧Sat (Own r (runC m tv vws steps ev av)::Vec av 3 1 ats::R2) H) (by kernel_rfl)
  (fun (i : Nat) σ H => σ 0 = ptr r 0∧σ 1 = i64 step∧σ 2 = iN ahead∧σ 3 = iN now∧i ≤ ahead∧∃ av ats,ats.length = i∧Sat (Own r (runC m tv vws steps ev av)::Vec av 3 1 ats::R2) H) (fun i => ahead - i) (fun i σ H hI => ?_) (fun σ H hP => ?_) ats.length _ _
  ⟨rfl,rfl,rfl,rfl,h1,av,ats,rfl,hs0⟩
 ·obtain ⟨e0,e1,e2,e3,hi,av,ats,hats,hs1⟩ := hI
  rw [stepNoteA_W]
  simp only [e0,e1,e2,e3]
  refine NotNil.ptr (AsPtr.mk (ld hs1 (run68 hv) ?_))
  obtain ⟨pa,ea⟩ := (hs1.has (Has.skip Has.vec)).shape
  subst ea
  repeat (refine gO ?_; intros)
  by_cases hlt : i < ahead
  ·refine Cd.t (by rw [hats]; exact ltZ_t hlt) ?_
   refine NotNil.ptr (AsPtr.mk (ld hs1 (run68 hv) ?_))
   refine nw hs1 fun b H1 h1 => ?_
   refine app_vec (new := [[.int .i64 (Int.negSucc 0)]]) h1 pp el_int (by omega) sl_int (Src.cell (n := 1) (by rfl)) rfl (by simp) (by simp; omega) rfl fun v H2 h2 => ?_
   obtain ⟨pv,ev'⟩ := (h2.has Has.vec).shape
   subst ev'
   refine NotNil.ptr (AsPtr.mk (Sc.mk rfl (st h2 (by rw [runC_len hv]; show 68 < 69; omega) rfl fun H3 h3 => ?_)))
   rw [show Nat.add 0 68 = 68 from rfl,set68 hv] at h3
   show ∃ y,_∧_
   exact ⟨i + 1,by omega,e0,e1,e2,e3,hlt,_,ats++[[.int .i64 (Int.negSucc 0)]],by simp [hats],h3.ent ee⟩
  ·refine Cd.f (by rw [hats]; exact ltZ_f (by omega)) ?_
   show _ = _∧_
   exact ⟨rfl,e0,e1,e3,_,ats,by omega,hs1⟩
 ·obtain ⟨e0,e1,e3,av,ats,hats,hs1⟩ := hP
  show Cd _ _ _
  refine Cd.t (eqN_self 0) ?_
  refine LoopC.indP (n := 100) (id := 2) (fun σ H => ∃ av ats,ats.length ≤ now∧Sat (Own r (runC m tv vws steps ev av)::Vec av 3 1 ats::R2) H) (by kernel_rfl)
   (fun (i : Nat) σ H => σ 0 = ptr r 0∧σ 1 = i64 step∧σ 3 = iN now∧i ≤ now∧∃ av ats,ats.length = i∧Sat (Own r (runC m tv vws steps ev av)::Vec av 3 1 ats::R2) H) (fun i => now - i) (fun i σ H hI => ?_) (fun σ H hP => ?_) ats.length _ _
   ⟨e0,e1,e3,hats,av,ats,rfl,hs1⟩
  ·obtain ⟨e0,e1,e3,hi,av,ats,hats,hs1⟩ := hI
   rw [stepNoteB_W]
   simp only [e0,e1,e3]
   refine NotNil.ptr (AsPtr.mk (ld hs1 (run68 hv) ?_))
   obtain ⟨pa,ea⟩ := (hs1.has (Has.skip Has.vec)).shape
   subst ea
   repeat (refine gO ?_; intros)
   by_cases hlt : i < now
   ·refine Cd.t (by rw [hats]; exact ltZ_t hlt) ?_
    refine NotNil.ptr (AsPtr.mk (ld hs1 (run68 hv) ?_))
    refine Sc.mk rfl (nw hs1 fun b H1 h1 => ?_)
    refine app_vec (new := [[i64 step]]) h1 pp el_int (by omega) sl_int (Src.cell (n := 1) (by rfl)) rfl (by simp) (by simp; omega) rfl fun v H2 h2 => ?_
    obtain ⟨pv,ev'⟩ := (h2.has Has.vec).shape
    subst ev'
    refine NotNil.ptr (AsPtr.mk (Sc.mk rfl (st h2 (by rw [runC_len hv]; show 68 < 69; omega) rfl fun H3 h3 => ?_)))
    rw [show Nat.add 0 68 = 68 from rfl,set68 hv] at h3
    show ∃ y,_∧_
    exact ⟨i + 1,by omega,e0,e1,e3,hlt,_,ats++[[i64 step]],by simp [hats],h3.ent ee⟩
   ·refine Cd.f (by rw [hats]; exact ltZ_f (by omega)) ?_
    show _ = _∧_
    exact ⟨rfl,_,ats,by omega,hs1⟩
  ·obtain ⟨av,ats,hats,hs1⟩ := hP
   show Cd _ _ _
   refine Cd.t (eqN_self 2) ?_
   exact k _ _ _ hats hs1
end Go.Proofs.YtnkbmaccgifeoaaGreat

set_option linter.unusedVariables false
set_option linter.unusedSimpArgs false
namespace Go.Proofs.YtnkbmaccgifeoaaGreat
open Go Go.CM
attribute [local irreducible] AsBool AsWant AsNat AsInt AsCnt AsPtr AsSlc AsLen AsStr AsAgg AsTup AsFn AsIfc Nth Sc NotNil IsNil Must Cd codeW funW Sat SatL wrapN subM mkRow ltZ leZ ltN leN
variable {con : CallT}
theorem memMade_ok (hc : Con con lives) {L R : List HP} {H : CH} {m : Nat} {M : Mem} {K : KP} (hs : Sat L H) (hp : Pull L (MemP m M) R) (k : K (iN M.tr.length) H) : Call1 Tryz.prog con 69 [ptr m 0] H K := by
 refine call_of (hc _ _ _ rfl) ?_
 rw [memMade_W]
 obtain ⟨h1,h2,s1,s2,d,⟨bp,bl,tr,⟨hn,hf⟩,hin⟩,hR⟩ := hs.opens hp
 have hs1 := Sat.merge s1 s2 d hin hR
 simp only [List.cons_append,List.nil_append] at hs1
 obtain ⟨g1,g2,t1,t2,d2,hT,_⟩ := hs1.opens (.there (.there (.there .here)))
 obtain ⟨q,rfl⟩ := hT.shape
 repeat (refine gO ?_; intros)
 exact k
end Go.Proofs.YtnkbmaccgifeoaaGreat

set_option linter.unusedVariables false
set_option linter.unusedSimpArgs false
namespace Go.Proofs.YtnkbmaccgifeoaaGreat
open Go Go.CM
attribute [local irreducible] AsBool AsWant AsNat AsInt AsCnt AsPtr AsSlc AsLen AsStr AsAgg AsTup AsFn AsIfc Nth Sc NotNil IsNil Must Cd codeW funW Sat SatL wrapN subM mkRow ltZ leZ ltN leN
variable {con : CallT}
def idleB (prs : List (List Value)) (ths : List (Nat × Bool)) (t : Int) : Bool :=
 match t with
 | .ofNat i => (match ths[i]?,prs[i]? with | some t,some l => decide (l.length ≤ t.1) | _,_ => true)
 | .negSucc _ => true
theorem rows_len (pv : List Value) (ths : List (Nat × Bool)) (h : pv.length = ths.length) : (thrRows pv ths).length = ths.length := by unfold thrRows; rw [List.length_zipWith,h,Nat.min_self]
theorem stepIdle_ok (hc : Con con lives) {L : List HP} {H : CH} {r m steps : Nat} {t : Int} {tv ev av : Value} {pv vws : List Value} {prs : List (List Value)} {ths : List (Nat × Bool)} {K : KP} (hs : Sat L H) [HasCell L r (runC m tv vws steps ev av)] (hV : Has L (Vec tv 179 3 (thrRows pv ths))) (hA : Has L (SatL (procsL pv prs)))
  (h1 : pv.length = ths.length) (h2 : prs.length = ths.length) (k : K (.bool (idleB prs ths t)) H) : Call1 Tryz.prog con 56 [ptr r 0,i64 t] H K := by
 refine call_of (hc _ _ _ rfl) ?_
 rw [stepIdle_W]
 cases t with
 | negSucc n => exact Cd.t ltZ_neg k
 | ofNat i =>
  refine Cd.f (ltZ_f (Nat.zero_le _)) ?_
  have hl := rows_len pv ths h1
  refine ld hs rfl ?_
  obtain ⟨pt,et⟩ := (hs.has hV).shape
  rw [hl] at et
  rw [et]
  refine AsLen.mk ?_
  by_cases hlt : i < ths.length
  ·refine Cd.f (leZ_f hlt) ?_
   obtain ⟨⟨a,o⟩,e1⟩ : ∃ x,ths[i]? = some x := ⟨_,List.getElem?_eq_getElem hlt⟩
   obtain ⟨p,e2⟩ : ∃ x,pv[i]? = some x := ⟨_,List.getElem?_eq_getElem (by omega)⟩
   obtain ⟨l,e3⟩ : ∃ x,prs[i]? = some x := ⟨_,List.getElem?_eq_getElem (by omega)⟩
   obtain ⟨b,eb,_⟩ := (hs.has hV).slot (thr_get e2 e1)
   rw [hl,et] at eb
   injection eb with eb _ _
   subst eb
   obtain ⟨pp,ep⟩ := (hs.has (hA.all (procs_get e2 e3) fun a s => a.mono s)).shape
   simp only [List.length_map] at ep
   rw [show idleB prs ths (.ofNat i) = decide (l.length ≤ a) by simp only [idleB,e1,e3]] at k
   refine ld hs (by rw [et]; rfl) ?_
   repeat (refine gO ?_; intros)
   refine Must.mk (ltN_t hlt) ?_
   refine ldVec hs hV et (thr_get e2 e1) (j := 1) (by show 0 + i * 3 + 1 = _; omega) (by omega) rfl ?_
   refine ld hs (by rw [et]; rfl) ?_
   repeat (refine gO ?_; intros)
   refine Must.mk (ltN_t hlt) ?_
   refine ldVec hs hV et (thr_get e2 e1) (j := 0) (by show 0 + i * 3 + 0 = _; omega) (by omega) rfl ?_
   rw [ep]
   repeat (refine gO ?_; intros)
   have e : leZ (Int.ofNat l.length) (Int.ofNat a) = decide (l.length ≤ a) := by
    by_cases h : l.length ≤ a
    ·rw [leZ_t h,decide_eq_true h]
    ·rw [leZ_f (by omega),decide_eq_false h]
   rw [e]
   exact k
  ·refine Cd.t (leZ_t (by omega)) ?_
   rw [show idleB prs ths (.ofNat i) = true by simp only [idleB,List.getElem?_eq_none (Nat.le_of_not_lt hlt)]] at k
   exact k
theorem set_get_self {α : Type} {l : List α} {i : Nat} {x : α} (h : l[i]? = some x) : l.set i x = l := by
 obtain ⟨hi,rfl⟩ := List.getElem?_eq_some_iff.1 h
 exact List.set_getElem_self hi
theorem stepPick_idle (hc : Con con lives) {L R : List HP} {H : CH} {r m steps T : Nat} {t : Int} {tv : Value} {pv vws : List Value} {prs : List (List Value)} {ths : List (Nat × Bool)} {K : KP} (hs : Sat L H) (hp : Pull L (RunAt r m tv pv prs ths vws steps T) R)
  (hi : idleB prs ths t = true) (hst : steps < 300000000) (k : ∀ H1,Sat (RunAt r m tv pv prs ths vws (steps + 1) T::R) H1→K (.bool false) H1) : Call1 Tryz.prog con 57 [ptr r 0,i64 t] H K := by
 refine call_of (hc _ _ _ rfl) ?_
 rw [stepPick_W]
 obtain ⟨h1,h2,s1,s2,d,⟨ev,av,evs,ats,⟨b1,b2,b3,b4,b5⟩,hin⟩,hR⟩ := hs.opens hp
 have hs1 := Sat.merge s1 s2 d hin hR
 simp only [List.cons_append,List.nil_append] at hs1
 refine ld hs1 (run66 b3) (ld hs1 (run66 b3) (AsInt.mk ?_))
 rw [addInt]
 refine inR_nat (by omega) ?_
 refine st hs1 (by rw [runC_len b3]; omega) rfl fun H4 h4 => ?_
 rw [set66 b3] at h4
 refine stepIdle_ok hc h4 (Has.skip Has.vec) (Has.skip (Has.skip (Has.skip (Has.skip Has.sat)))) b4 b5 ?_
 rw [hi]
 refine AsBool.mk (Cd.t rfl (k _ ?_))
 exact Sat.close (L1 := [_,_,_,_,_]) (h4.ent ee) fun g a => ⟨ev,av,evs,ats,⟨by omega,b2,b3,b4,b5⟩,a⟩
theorem stepPick_ok (hc : Con con lives) {L R0 R R' : List HP} {H : CH} {r m steps T i a q : Nat} {o b : Bool} {tv v : Value} {pv vws l : List Value} {prs : List (List Value)} {ths : List (Nat × Bool)} {M M' : Mem} {K : KP} (hs : Sat L H) (hp : Pull L (RunAt r m tv pv prs ths vws steps T) R0) (hm : Pull R0 (MemP m M) R)
  (e1 : ths[i]? = some (a,o)) (e3 : prs[i]? = some l) (e4 : l[a]? = some v) (e5 : vws[i]? = some (ptr q 0)) (hifc : ∃ t x,v = .iface t x) (hT : T ≤ M.tr.length) (hM : M.tr.length ≤ M'.tr.length) (hM' : M'.tr.length ≤ 1000000000) (hst : steps < 300000000) (ha : a < 1000000000)
  (hmeth : ∀ Q : Prop, Q → MethOk Tryz.prog "Step" [v] Q)
  (hstep : ∀ (F : HP) (H1 : CH) (K' : KP), Sat (F :: MemP m M :: R) H1 → (∀ H2, Sat (F :: MemP m M' :: R') H2 → K' (.bool b) H2) → Mth Tryz.prog con v "Step" [ptr q 0] H1 K')
  (k : ∀ H1,Sat (RunAt r m tv pv prs (ths.set i (if b then (a + 1,false) else (a,true))) vws (steps + 1) M'.tr.length::MemP m M'::R') H1→K (.bool true) H1) : Call1 Tryz.prog con 57 [ptr r 0,i64 (Int.ofNat i)] H K := by
 refine call_of (hc _ _ _ rfl) ?_
 rw [stepPick_W]
 have hs0 := hs.takes (.cons hp (.cons hm .nil))
 simp only [List.cons_append,List.nil_append] at hs0
 obtain ⟨h1,h2,s1,s2,d,⟨ev,av,evs,ats,⟨b1,b2,b3,b4,b5⟩,hin⟩,hR⟩ := hs0.opens Pull.here
 have hs1 := Sat.merge s1 s2 d hin hR
 simp only [List.cons_append,List.nil_append] at hs1
 have hi : i < ths.length := (List.getElem?_eq_some_iff.1 e1).1
 have hal : a < l.length := (List.getElem?_eq_some_iff.1 e4).1
 have hi64 : i < 64 := by have := (List.getElem?_eq_some_iff.1 e5).1; omega
 have hl := rows_len pv ths b4
 have hl2 : ∀ x,(thrRows pv (ths.set i x)).length = ths.length := fun x => by rw [rows_len pv _ (by rw [List.length_set]; exact b4),List.length_set]
 have e1' : ∀ x,(ths.set i x)[i]? = some x := fun x => by rw [List.getElem?_set_self hi]
 obtain ⟨p,e2⟩ : ∃ x,pv[i]? = some x := ⟨_,List.getElem?_eq_getElem (by omega)⟩
 obtain ⟨tb,et,_⟩ := (hs1.has (Has.skip Has.vec)).slot (thr_get e2 e1)
 rw [hl] at et
 subst et
 obtain ⟨pb,ep,_⟩ := (hs1.has ((Has.skip (Has.skip (Has.skip (Has.skip Has.sat)))).all (procs_get e2 e3) fun a s => a.mono s)).slot (show (l.map fun x => [x])[a]? = some [v] by rw [List.getElem?_map,e4]; rfl)
 rw [List.length_map] at ep
 subst ep
 have hid : idleB prs ths (.ofNat i) = false := by simp only [idleB,e1,e3]; exact decide_eq_false (by omega)
 have hSt : ∀ x : Nat × Bool,(thrRows pv ths).set i [slc pb 0 l.length l.length,iN x.1,.bool x.2] = thrRows pv (ths.set i x) := fun x => thr_set e2
 have hSt2 : ∀ x y : Nat × Bool,(thrRows pv (ths.set i y)).set i [slc pb 0 l.length l.length,iN x.1,.bool x.2] = thrRows pv (ths.set i x) := fun x y => by rw [thr_set e2,List.set_set]
 refine ld hs1 (run66 b3) (ld hs1 (run66 b3) (AsInt.mk ?_))
 rw [addInt]
 refine inR_nat (by omega) ?_
 refine st hs1 (by rw [runC_len b3]; omega) rfl fun H4 h4 => ?_
 rw [set66 b3] at h4
 refine stepIdle_ok hc h4 (Has.skip Has.vec) (Has.skip (Has.skip (Has.skip (Has.skip Has.sat)))) b4 b5 ?_
 rw [hid]
 refine AsBool.mk (Cd.f rfl (ld h4 rfl (AsSlc.mk (AsCnt.mk (Must.mk (ltN_t hi) ?_)))))
 refine ldVec h4 (Has.skip Has.vec) rfl (thr_get e2 e1) (j := 2) (by show 0 + i * 3 + 2 = _; omega) (by omega) rfl (AsBool.mk ?_)
 cases o with
 | false =>
  refine Cd.t rfl ?_
  refine stVec h4 pp (thr_get e2 e1) (j := 2) (by show 0 + i * 3 + 2 = _; omega) (by omega) rfl fun H5 h5 => ?_
  have h5 := hSt (a,true) ▸ h5
  refine ld h5 (run67 b3) ?_
  refine ldVec h5 Has.vec rfl (thr_get e2 (e1' _)) (j := 1) (by show 0 + i * 3 + 1 = _; omega) (by omega) rfl (Sc.mk rfl (Sc.mk rfl ?_))
  refine nw h5 fun eb H6 h6 => ?_
  refine app_vec (new := [[iN steps,i64 (Int.ofNat i),iN a,.bool false]]) h6 pp el_ev (by omega) sl_ev (Src.cell (n := 4) (by rfl)) rfl (by simp) (by simp; omega) rfl fun ev' H7 h7 => ?_
  obtain ⟨pe,hee⟩ := (h7.has Has.vec).shape
  refine Sc.mk (by rw [hee]; rfl) (st h7 (by rw [runC_len b3]; omega) (by rw [hee]; rfl) fun H8 h8 => ?_)
  rw [set67 b3] at h8
  obtain ⟨pe0,ee0⟩ := (h5.has (Has.skip (Has.skip Has.vec))).shape
  refine ld h5 (run67 b3) ?_
  rw [ee0]
  refine Same.slc ?_
  refine ld h6 (by rw [run67 b3,ee0]) ?_
  refine Same.slc ?_
  have hA : Sat (Own r (runC m (slc tb 0 ths.length ths.length) vws (steps + 1) ev' av)::Vec (slc tb 0 ths.length ths.length) 179 3 (thrRows pv (ths.set i (a,true)))::Vec ev' 182 4 (evs++[[iN steps,i64 (Int.ofNat i),iN a,.bool false]])::Vec av 3 1 ats::SatL (procsL pv prs)::MemP m M::R) H8 := h8.ent ee
  generalize hEv : (ev') = evX at hA
  generalize hEs : (evs++[[iN steps,i64 (Int.ofNat i),iN a,.bool false]]) = evsX at hA
  have hE : evsX.length ≤ 2 * steps + 1 := by (rw [← hEs]; first | omega | (simp only [List.length_append,List.length_cons,List.length_nil]; omega))
  clear hEv hEs
  refine ld hA rfl ?_
  refine memMade_ok hc hA pp ?_
  refine ldVec hA (Has.skip Has.vec) rfl (thr_get e2 (e1' _)) (j := 0) (by show 0 + i * 3 + 0 = _; omega) (by omega) rfl ?_
  refine ldVec hA (Has.skip Has.vec) rfl (thr_get e2 (e1' _)) (j := 1) (by show 0 + i * 3 + 1 = _; omega) (by omega) rfl ?_
  refine AsSlc.mk (AsCnt.mk (Must.mk (ltN_t hal) ?_))
  refine ldVec hA ((Has.skip (Has.skip (Has.skip (Has.skip Has.sat)))).all (procs_get e2 e3) fun a s => a.mono s) rfl (row := [v]) (by rw [List.getElem?_map,e4]; rfl) (j := 0) (by show 0 + a * 1 = _; omega) (by omega) rfl ?_
  obtain ⟨tt,xx,rfl⟩ := hifc
  refine IsNil.ifc (Cd.f rfl (AsCnt.mk (Must.mk (ltN_t hi64) ?_)))
  refine ld hA (by rw [runV (by omega)]; exact e5) ?_
  refine hmeth _ ?_
  refine hstep _ _ _ (Sat.close (L1 := [_,_,_,_,_]) hA fun g a => a) fun H9 h9 => ?_
  obtain ⟨f1,f2,u1,u2,d2,hin2,hR2⟩ := h9.opens Pull.here
  have hB := Sat.merge u1 u2 d2 hin2 hR2
  simp only [List.cons_append,List.nil_append] at hB
  clear hin2 hR2 u1 u2 d2
  refine AsBool.mk ?_
  cases b with
  | true =>
   refine Cd.t rfl ?_
   obtain ⟨pe1,ee1⟩ := (hB.has (Has.skip (Has.skip Has.vec))).shape
   refine ld hB (run67 b3) ?_
   refine ldVec hB (Has.skip Has.vec) rfl (thr_get e2 (e1' _)) (j := 1) (by show 0 + i * 3 + 1 = _; omega) (by omega) rfl (Sc.mk rfl (Sc.mk rfl ?_))
   refine nw hB fun eb2 H10 h10 => ?_
   refine app_vec (new := [[iN steps,i64 (Int.ofNat i),iN a,.bool true]]) h10 pp el_ev (by omega) sl_ev (Src.cell (n := 4) (by rfl)) rfl (by simp) (by simp; omega) rfl fun ev'' H11 h11 => ?_
   obtain ⟨pe2,ee2⟩ := (h11.has Has.vec).shape
   refine Sc.mk (by rw [ee2]; rfl) (st h11 (by rw [runC_len b3]; omega) (by rw [ee2]; rfl) fun H12 h12 => ?_)
   rw [set67 b3] at h12
   refine ld hB (run67 b3) ?_
   rw [ee1]
   refine Same.slc ?_
   refine ld h10 (by rw [run67 b3,ee1]) ?_
   refine Same.slc ?_
   refine stVec h12 pp (thr_get e2 (e1' _)) (j := 2) (by show 0 + i * 3 + 2 = _; omega) (by omega) rfl fun H13 h13 => ?_
   have h13 := hSt2 (a,false) (a,true) ▸ h13
   refine ldVec h13 Has.vec rfl (thr_get e2 (e1' _)) (j := 1) (by show 0 + i * 3 + 1 = _; omega) (by omega) rfl (AsInt.mk ?_)
   rw [addInt]
   refine inR_nat (by omega) ?_
   refine stVec h13 Pull.here (thr_get e2 (e1' _)) (j := 1) (by show 0 + i * 3 + 1 = _; omega) (by omega) rfl fun H14 h14 => ?_
   have h14 := hSt2 (a + 1,false) (a,false) ▸ h14
   refine ld h14 rfl ?_
   refine memMade_ok hc h14 pp ?_
   refine stepNote_ok hc h14 pp pp b3 (by omega) hM hM' fun av' ats' H15 hlen h15 => ?_
   refine k _ ?_
   exact Sat.close (L1 := [_,_,_,_,_]) (h15.ent ee) fun g a => ⟨_,av',_,ats',⟨by simp; omega,hlen,b3,by rw [List.length_set]; exact b4,by rw [List.length_set]; exact b5⟩,a⟩
  | false =>
   refine Cd.f rfl ?_
   refine ld hB rfl ?_
   refine memMade_ok hc hB pp ?_
   refine stepNote_ok hc hB pp pp b3 (by omega) hM hM' fun av' ats' H15 hlen h15 => ?_
   refine k _ ?_
   exact Sat.close (L1 := [_,_,_,_,_]) (h15.ent ee) fun g a => ⟨_,av',_,ats',⟨by omega,hlen,b3,by rw [List.length_set]; exact b4,by rw [List.length_set]; exact b5⟩,a⟩
 | true =>
  refine Cd.f rfl ?_
  have hA : Sat (Own r (runC m (slc tb 0 ths.length ths.length) vws (steps + 1) ev av)::Vec (slc tb 0 ths.length ths.length) 179 3 (thrRows pv (ths.set i (a,true)))::Vec ev 182 4 evs::Vec av 3 1 ats::SatL (procsL pv prs)::MemP m M::R) H4 := by
   rw [set_get_self e1]; exact h4
  generalize hEv : (ev) = evX at hA
  generalize hEs : (evs) = evsX at hA
  have hE : evsX.length ≤ 2 * steps + 1 := by (rw [← hEs]; first | omega | (simp only [List.length_append,List.length_cons,List.length_nil]; omega))
  clear hEv hEs
  refine ld hA rfl ?_
  refine memMade_ok hc hA pp ?_
  refine ldVec hA (Has.skip Has.vec) rfl (thr_get e2 (e1' _)) (j := 0) (by show 0 + i * 3 + 0 = _; omega) (by omega) rfl ?_
  refine ldVec hA (Has.skip Has.vec) rfl (thr_get e2 (e1' _)) (j := 1) (by show 0 + i * 3 + 1 = _; omega) (by omega) rfl ?_
  refine AsSlc.mk (AsCnt.mk (Must.mk (ltN_t hal) ?_))
  refine ldVec hA ((Has.skip (Has.skip (Has.skip (Has.skip Has.sat)))).all (procs_get e2 e3) fun a s => a.mono s) rfl (row := [v]) (by rw [List.getElem?_map,e4]; rfl) (j := 0) (by show 0 + a * 1 = _; omega) (by omega) rfl ?_
  obtain ⟨tt,xx,rfl⟩ := hifc
  refine IsNil.ifc (Cd.f rfl (AsCnt.mk (Must.mk (ltN_t hi64) ?_)))
  refine ld hA (by rw [runV (by omega)]; exact e5) ?_
  refine hmeth _ ?_
  refine hstep _ _ _ (Sat.close (L1 := [_,_,_,_,_]) hA fun g a => a) fun H9 h9 => ?_
  obtain ⟨f1,f2,u1,u2,d2,hin2,hR2⟩ := h9.opens Pull.here
  have hB := Sat.merge u1 u2 d2 hin2 hR2
  simp only [List.cons_append,List.nil_append] at hB
  clear hin2 hR2 u1 u2 d2
  refine AsBool.mk ?_
  cases b with
  | true =>
   refine Cd.t rfl ?_
   obtain ⟨pe1,ee1⟩ := (hB.has (Has.skip (Has.skip Has.vec))).shape
   refine ld hB (run67 b3) ?_
   refine ldVec hB (Has.skip Has.vec) rfl (thr_get e2 (e1' _)) (j := 1) (by show 0 + i * 3 + 1 = _; omega) (by omega) rfl (Sc.mk rfl (Sc.mk rfl ?_))
   refine nw hB fun eb2 H10 h10 => ?_
   refine app_vec (new := [[iN steps,i64 (Int.ofNat i),iN a,.bool true]]) h10 pp el_ev (by omega) sl_ev (Src.cell (n := 4) (by rfl)) rfl (by simp) (by simp; omega) rfl fun ev'' H11 h11 => ?_
   obtain ⟨pe2,ee2⟩ := (h11.has Has.vec).shape
   refine Sc.mk (by rw [ee2]; rfl) (st h11 (by rw [runC_len b3]; omega) (by rw [ee2]; rfl) fun H12 h12 => ?_)
   rw [set67 b3] at h12
   refine ld hB (run67 b3) ?_
   rw [ee1]
   refine Same.slc ?_
   refine ld h10 (by rw [run67 b3,ee1]) ?_
   refine Same.slc ?_
   refine stVec h12 pp (thr_get e2 (e1' _)) (j := 2) (by show 0 + i * 3 + 2 = _; omega) (by omega) rfl fun H13 h13 => ?_
   have h13 := hSt2 (a,false) (a,true) ▸ h13
   refine ldVec h13 Has.vec rfl (thr_get e2 (e1' _)) (j := 1) (by show 0 + i * 3 + 1 = _; omega) (by omega) rfl (AsInt.mk ?_)
   rw [addInt]
   refine inR_nat (by omega) ?_
   refine stVec h13 Pull.here (thr_get e2 (e1' _)) (j := 1) (by show 0 + i * 3 + 1 = _; omega) (by omega) rfl fun H14 h14 => ?_
   have h14 := hSt2 (a + 1,false) (a,false) ▸ h14
   refine ld h14 rfl ?_
   refine memMade_ok hc h14 pp ?_
   refine stepNote_ok hc h14 pp pp b3 (by omega) hM hM' fun av' ats' H15 hlen h15 => ?_
   refine k _ ?_
   exact Sat.close (L1 := [_,_,_,_,_]) (h15.ent ee) fun g a => ⟨_,av',_,ats',⟨by simp; omega,hlen,b3,by rw [List.length_set]; exact b4,by rw [List.length_set]; exact b5⟩,a⟩
  | false =>
   refine Cd.f rfl ?_
   refine ld hB rfl ?_
   refine memMade_ok hc hB pp ?_
   refine stepNote_ok hc hB pp pp b3 (by omega) hM hM' fun av' ats' H15 hlen h15 => ?_
   refine k _ ?_
   exact Sat.close (L1 := [_,_,_,_,_]) (h15.ent ee) fun g a => ⟨_,av',_,ats',⟨by omega,hlen,b3,by rw [List.length_set]; exact b4,by rw [List.length_set]; exact b5⟩,a⟩
end Go.Proofs.YtnkbmaccgifeoaaGreat

set_option linter.unusedVariables false
set_option linter.unusedSimpArgs false
namespace Go.Proofs.YtnkbmaccgifeoaaGreat
open Go Go.CM
attribute [local irreducible] AsBool AsWant AsNat AsInt AsCnt AsPtr AsSlc AsLen AsStr AsAgg AsTup AsFn AsIfc Nth Sc NotNil IsNil Must Cd codeW funW Sat SatL wrapN subM mkRow ltZ leZ ltN leN
variable {con : CallT}
def longB (prs : List (List Value)) : Bool := prs.any fun l => decide (4096 < l.length)
set_option maxRecDepth 4000 in
theorem containsP_ok (hc : Con con lives) {L : List HP} {H : CH} {v : Value} {lvs : List Value} {prs : List (List Value)} {K : KP} (hs : Sat L H) (hq : Has L (Vec v 151 1 (lvs.map fun x => [x]))) (hA : Has L (SatL (procsL lvs prs))) (hlen : lvs.length = prs.length) (hl : lvs.length ≤ 1000000000)
  (k : K (.bool (longB prs)) H) : Call1 Tryz.prog con 66 [v,.func (.func 67) ⟨[]⟩ ⟨[]⟩] H K := by
 refine call_of (hc _ _ _ rfl) ?_
 rw [containsP_W]
 refine call_of (hc _ _ _ rfl) ?_
 rw [indexP_W]
 obtain ⟨pv,ev⟩ := (hs.has hq).shape
 rw [List.length_map] at ev
 subst ev
 repeat (refine gO ?_; intros)
 refine LoopC.ind (n := 100) (by kernel_rfl) (fun (i : Nat) σ H1 => σ 0 = .slice pv lvs.length lvs.length∧σ 1 = .func (.func 67) ⟨[]⟩ ⟨[]⟩∧σ 7 = iN lvs.length∧σ 8 = iN i∧i ≤ lvs.length∧(prs.take i).any (fun l => decide (4096 < l.length)) = false∧H1 = H) (fun i => lvs.length - i) (fun i σ H1 hI => ?_) 0 _ _ ⟨rfl,rfl,rfl,rfl,Nat.zero_le _,rfl,rfl⟩
 obtain ⟨e0,e1,e7,e8,hi,hno,rfl⟩ := hI
 rw [indexPL_W]
 simp only [e0,e1,e7,e8]
 repeat (refine gO ?_; intros)
 rcases Nat.lt_or_ge i lvs.length with hlt | hge
 ·refine Cd.t (ltZ_t (by omega)) ?_
  obtain ⟨x,hx⟩ : ∃ x,lvs[i]? = some x := ⟨_,List.getElem?_eq_getElem hlt⟩
  obtain ⟨l,hl'⟩ : ∃ x,prs[i]? = some x := ⟨_,List.getElem?_eq_getElem (by omega)⟩
  have hr : (lvs.map fun x => [x])[i]? = some [x] := by rw [List.getElem?_map,hx]; rfl
  obtain ⟨b,eb,_⟩ := (hs.has hq).slot hr
  rw [List.length_map] at eb
  injection eb with eb _ _
  subst eb
  obtain ⟨px,ex⟩ := (hs.has (hA.all (procs_get hx hl') fun a s => a.mono s)).shape
  rw [List.length_map] at ex
  subst ex
  repeat (refine gO ?_; intros)
  refine Must.mk (ltN_t hlt) ?_
  refine ldVec hs hq rfl hr (j := 0) (by show 0 + i * 1 = _; omega) (by omega) rfl ?_
  repeat (refine gO ?_; intros)
  try refine Must.mk (by kernel_rfl) ?_
  refine call_of (hc _ _ _ rfl) ?_
  show funW Tryz.prog con 67 [.slice px l.length l.length] _ _
  rw [stepNewC_W]
  repeat (refine gO ?_; intros)
  refine Cd.of (fun hy => ?_) (fun hn => ?_)
  ·show AsInt _ _ _
   refine AsInt.mk ?_
   have : longB prs = true := by exact List.any_eq_true.2 ⟨l,List.mem_of_getElem? hl',decide_eq_true (ltZ_e hy)⟩
   rw [this] at k
   show K (.bool (leZ (Int.ofNat 0) (Int.ofNat i))) _
   rw [leZ_t (Nat.zero_le i)]
   exact k
  ·repeat (refine gO ?_; intros)
   refine inR_nat (n := i + 1) (by omega) ?_
   show ∃ y,_∧_
   refine ⟨i + 1,by omega,e0,e1,e7,rfl,hlt,?_,rfl⟩
   rw [List.take_add_one,hl',List.any_append,hno]
   simp
   have := ltZ_n hn
   omega
 ·refine Cd.f (ltZ_f (by omega)) ?_
  show Cd _ _ _
  refine Cd.t (eqN_self 0) ?_
  refine AsInt.mk ?_
  rw [List.take_of_length_le (by omega)] at hno
  have : longB prs = false := hno
  rw [this] at k
  rw [show leZ (Int.ofNat 0) (Int.negSucc 0) = false by decide +kernel]
  exact k
theorem cloneP_ok (hc : Con con lives) {L : List HP} {H : CH} {v : Value} {e : Nat} {l : List (List Value)} {K : KP} (hs : Sat L H) (hq : Has L (Vec v e 1 l)) (hl : l.length ≤ 1000000000) (hcell : l.flatten.all isCell = true) (k : ∀ v' H1,Sat (Vec v' 43 1 l::L) H1→K v' H1) : Call1 Tryz.prog con 68 [v] H K := by
 refine call_of (hc _ _ _ rfl) ?_
 rw [cloneP_W]
 rcases (hs.has hq) with ⟨h8,⟨rfl,rfl⟩ | ⟨b,h1,rfl,h3⟩⟩
 ·repeat (refine gO ?_; intros)
  exact k _ _ (hs.nilV)
 ·refine IsNil.slc (Cd.f rfl ?_)
  refine nwR hs fun p H1 h1 => ?_
  have hpos : 0 < l.length := by cases l with | nil => contradiction | cons _ _ => simp
  exact app_clone (new := l) h1 el_pr (by omega) sl_pr (hq.vecSrc rfl) rfl h8 hl hpos k
def viewsL (m : Nat) : Nat→List (Nat × Nat)→List HP
 | _,[] => []
 | i,(q,n)::r => ViewAt q m (Int.ofNat i) n::viewsL m (i + 1) r
theorem viewsL_app {m : Nat} : ∀ {i0 : Nat} {qs : List (Nat × Nat)} {q n : Nat},viewsL m i0 (qs++[(q,n)]) = viewsL m i0 qs++[ViewAt q m (Int.ofNat (i0 + qs.length)) n]
 | i0,[],q,n => rfl
 | i0,x::r,q,n => by
  show _::viewsL m (i0 + 1) (r++[(q,n)]) = _::(viewsL m (i0 + 1) r++_)
  rw [viewsL_app,show i0 + 1 + r.length = i0 + (r.length + 1) by omega]; rfl
def vwsOf (qs : List Nat) : List Value := qs.map (fun q => ptr q 0)++List.replicate (64 - qs.length) (.pointer none)
theorem vwsOf_len {qs : List Nat} (h : qs.length ≤ 64) : (vwsOf qs).length = 64 := by simp [vwsOf]; omega
theorem vwsOf_snoc {qs : List Nat} {q : Nat} (h : qs.length < 64) : (vwsOf qs).set qs.length (ptr q 0) = vwsOf (qs++[q]) := by
 unfold vwsOf
 rw [List.set_append_right _ _ (by simp),List.length_map,Nat.sub_self,List.map_append,List.length_append]
 obtain ⟨k,hk⟩ : ∃ k,64 - qs.length = k + 1 := ⟨63 - qs.length,by omega⟩
 rw [hk,show 64 - (qs.length + [q].length) = k by simp; omega,List.replicate_succ,List.set_cons_zero]
 simp
theorem vwsOf_get {qs : List Nat} {i q : Nat} (h : qs[i]? = some q) : (vwsOf qs)[i]? = some (ptr q 0) := by
 unfold vwsOf
 have := (List.getElem?_eq_some_iff.1 h).1
 rw [List.getElem?_append_left (by simpa using this),List.getElem?_map,h]; rfl
theorem procsL_snoc {pv : List Value} {prs : List (List Value)} {p : Value} {l : List Value} (h : pv.length = prs.length) : procsL (pv++[p]) (prs++[l]) = procsL pv prs++[Vec p 43 1 (l.map fun x => [x])] := by
 unfold procsL; rw [List.zipWith_append h]; rfl
theorem thrRows_snoc {pv : List Value} {ths : List (Nat × Bool)} {p : Value} {t : Nat × Bool} (h : pv.length = ths.length) : thrRows (pv++[p]) (ths++[t]) = thrRows pv ths++[[p,iN t.1,.bool t.2]] := by
 unfold thrRows; rw [List.zipWith_append h]; rfl
theorem flat1v (l : List Value) : (l.map fun x => [x]).flatten = l := by
 induction l with
 | nil => rfl
 | cons a l ih => rw [List.map_cons,List.flatten_cons,ih]; rfl
theorem stepNew_ok (hc : Con con lives) {L : List HP} {H : CH} {m : Nat} {v : Value} {lvs : List Value} {prs : List (List Value)} {K : KP} (hs : Sat L H) (hq : Has L (Vec v 151 1 (lvs.map fun x => [x]))) (hA : Has L (SatL (procsL lvs prs))) (hlen : lvs.length = prs.length) (hl : lvs.length ≤ 1000000000)
  (hcell : ∀ l ∈ prs,l.all isCell = true)
  (kbad : 64 < prs.length ∨ longB prs = true→K (.tuple ⟨[.pointer none,iN 6]⟩) H)
  (k : prs.length ≤ 64→longB prs = false→∀ r tv pv qs H1,qs.length = prs.length→Sat (RunAt r m tv pv prs (List.replicate prs.length (0,false)) (vwsOf qs) 0 0::SatL (viewsL m 0 (qs.map fun q => (q,0)))::L) H1→K (.tuple ⟨[ptr r 0,iN 0]⟩) H1) :
  Call1 Tryz.prog con 51 [ptr m 0,v] H K := by
 refine call_of (hc _ _ _ rfl) ?_
 rw [stepNew_W]
 obtain ⟨pv0,ev⟩ := (hs.has hq).shape
 rw [List.length_map] at ev
 subst ev
 repeat (refine gO ?_; intros)
 refine Cd.of (fun h => ?_) (fun h => ?_)
 ·exact kbad (.inl (by have := ltZ_e h; omega))
 have h64 : prs.length ≤ 64 := by have := ltZ_n h; omega
 refine containsP_ok hc hs hq hA hlen hl ?_
 repeat (refine gO ?_; intros)
 cases hlong : longB prs with
 | true => exact Cd.t rfl (kbad (.inr hlong))
 | false =>
  refine Cd.f rfl ?_
  refine nw hs fun r H1 h1 => ?_
  repeat (refine gO ?_; intros)
  refine LoopC.indP (n := 100) (id := 0) (fun σ H => ∃ tv pv qs,σ 6 = ptr r 0∧pv.length = prs.length∧qs.length = prs.length∧Sat (Own r (runC m tv (vwsOf qs) 0 snil snil)::Vec tv 179 3 (thrRows pv (List.replicate prs.length (0,false)))::SatL (procsL pv prs)::SatL (viewsL m 0 (qs.map fun q => (q,0)))::L) H) (by kernel_rfl)
   (fun (i : Nat) σ H => σ 0 = ptr m 0∧σ 6 = ptr r 0∧σ 21 = .slice pv0 lvs.length lvs.length∧σ 22 = iN lvs.length∧σ 23 = iN i∧i ≤ prs.length∧∃ tv pv qs,pv.length = i∧qs.length = i ∧
    Sat (Own r (runC m tv (vwsOf qs) 0 snil snil)::Vec tv 179 3 (thrRows pv (List.replicate i (0,false)))::SatL (procsL pv (prs.take i))::SatL (viewsL m 0 (qs.map fun q => (q,0)))::L) H) (fun i => prs.length - i) (fun i σ H hI => ?_) (fun σ H hP => ?_) 0 _ _
   ⟨rfl,rfl,rfl,rfl,rfl,Nat.zero_le _,snil,[],[],rfl,rfl,?_⟩
  ·obtain ⟨e0,e6,e21,e22,e23,hi,tv,pv,qs,hpv,hqs,hs1⟩ := hI
   rw [stepNewL_W]
   simp only [e0,e6,e21,e22,e23]
   repeat (refine gO ?_; intros)
   by_cases hlt : i < prs.length
   ·refine Cd.t (ltZ_t (by omega)) ?_
    have hqL : Has (Own r (runC m tv (vwsOf qs) 0 snil snil)::Vec tv 179 3 (thrRows pv (List.replicate i (0,false)))::SatL (procsL pv (prs.take i))::SatL (viewsL m 0 (qs.map fun q => (q,0)))::L) (Vec (.slice pv0 lvs.length lvs.length) 151 1 (lvs.map fun x => [x])) := Has.skip (Has.skip (Has.skip (Has.skip hq)))
    obtain ⟨x,hx⟩ : ∃ x,lvs[i]? = some x := ⟨_,List.getElem?_eq_getElem (by omega)⟩
    obtain ⟨l,hl'⟩ : ∃ x,prs[i]? = some x := ⟨_,List.getElem?_eq_getElem hlt⟩
    have hr : (lvs.map fun x => [x])[i]? = some [x] := by rw [List.getElem?_map,hx]; rfl
    obtain ⟨b,eb,_⟩ := (hs1.has hqL).slot hr
    rw [List.length_map] at eb
    injection eb with eb _ _
    subst eb
    have hv64 : (vwsOf qs).length = 64 := vwsOf_len (by omega)
    repeat (refine gO ?_; intros)
    refine Must.mk (ltN_t (by omega)) ?_
    refine ldVec hs1 hqL rfl hr (j := 0) (by show 0 + i * 1 = _; omega) (by omega) rfl ?_
    refine NotNil.ptr (AsPtr.mk (ld hs1 rfl ?_))
    have hll : l.length ≤ 4096 := by
     have h1 : ¬ (4096 < l.length) := fun h => by
      have : longB prs = true := List.any_eq_true.2 ⟨l,List.mem_of_getElem? hl',decide_eq_true h⟩
      rw [hlong] at this; cases this
     omega
    refine cloneP_ok hc hs1 (Has.skip (Has.skip (Has.skip (Has.skip (hA.all (procs_get hx hl') fun a s => a.mono s))))) (by simp; omega) (by rw [flat1v]; exact hcell l (List.mem_of_getElem? hl')) fun v' H2 h2 => ?_
    obtain ⟨pv',ev'⟩ := (h2.has Has.vec).shape
    rw [List.length_map] at ev'
    refine Sc.mk (by rw [ev']; rfl) ?_
    refine nw h2 fun pb H3 h3 => ?_
    have hth : (thrRows pv (List.replicate i (0,false))).length = i := by rw [rows_len _ _ (by simp [hpv]),List.length_replicate]
    refine app_vec (new := [[v',iN 0,.bool false]]) h3 pp el_thr (by omega) sl_thr (Src.cell (n := 3) (by rfl)) rfl (by simp) (by rw [hth]; omega) (by rw [ev']; rfl) fun tv' H4 h4 => ?_
    obtain ⟨pt,et⟩ := (h4.has Has.vec).shape
    refine NotNil.ptr (AsPtr.mk (Sc.mk (by rw [et]; rfl) (stB h4 rfl (by rw [et]; rfl) fun H5 h5 => ?_)))
    obtain ⟨pt0,et0⟩ := (hs1.has (Has.skip Has.vec)).shape
    refine ld hs1 rfl ?_
    rw [et0]
    refine Same.slc ?_
    refine ld h2 (by rw [et0]; rfl) ?_
    refine Same.slc ?_
    refine ld h3 (by rw [et0]; rfl) ?_
    refine Same.slc ?_
    refine memView_ok hc h5 fun q H6 h6 => ?_
    refine NotNil.ptr (AsPtr.mk (AsCnt.mk (Must.mk (ltN_t (by omega)) ?_)))
    have h6 : Sat (ViewAt q m (Int.ofNat i) 0::Vec tv' 179 3 (thrRows pv (List.replicate i (0,false))++[[v',iN 0,.bool false]])::Own r (runC m tv' (vwsOf qs) 0 snil snil)::Vec v' 43 1 (l.map fun x => [x])::SatL (procsL pv (prs.take i))::SatL (viewsL m 0 (qs.map fun q => (q,0)))::L) H6 := h6.ent ee
    refine Sc.mk rfl (st h6 (by rw [runC_len hv64]; show 2 + i * 1 < 69; omega) rfl fun H7 h7 => ?_)
    rw [show (Nat.add (Nat.add 0 2) (Nat.mul i 1)) = Nat.add 2 (Nat.mul i 1) from rfl,setV (by omega),show (vwsOf qs).set i (ptr q 0) = vwsOf (qs++[q]) by rw [← hqs]; exact vwsOf_snoc (by omega)] at h7
    repeat (refine gO ?_; intros)
    rw [addInt]
    refine inR_nat (n := i + 1) (by omega) ?_
    show ∃ y,_∧_
    refine ⟨i + 1,by omega,e0,e6,e21,e22,rfl,hlt,tv',pv++[v'],qs++[q],by simp [hpv],by simp [hqs],?_⟩
    have hv' : thrRows pv (List.replicate i (0,false))++[[v',iN 0,.bool false]] = thrRows (pv++[v']) (List.replicate (i + 1) (0,false)) := by
     rw [List.replicate_succ',thrRows_snoc (by simp [hpv])]
    have hp' : procsL pv (prs.take i)++[Vec v' 43 1 (l.map fun x => [x])] = procsL (pv++[v']) (prs.take (i + 1)) := by
     rw [List.take_add_one,hl']
     show _ = procsL (pv++[v']) (prs.take i++[l])
     rw [procsL_snoc (by simp [hpv]; omega)]
    have hw' : viewsL m 0 (qs.map fun q => (q,0))++[ViewAt q m (Int.ofNat i) 0] = viewsL m 0 ((qs++[q]).map fun q => (q,0)) := by
     rw [List.map_append,List.map_singleton,viewsL_app,List.length_map,Nat.zero_add,hqs]
    rw [hv'] at h7
    have h8 : Sat (ViewAt q m (Int.ofNat i) 0::SatL (viewsL m 0 (qs.map fun q => (q,0)))::Vec v' 43 1 (l.map fun x => [x])::SatL (procsL pv (prs.take i))::Vec tv' 179 3 (thrRows (pv++[v']) (List.replicate (i + 1) (0,false)))::Own r (runC m tv' (vwsOf (qs++[q])) 0 snil snil)::L) H7 := h7.ent ee
    have h9 := h8.snoc
    rw [hw'] at h9
    have h10 : Sat (Vec v' 43 1 (l.map fun x => [x])::SatL (procsL pv (prs.take i))::SatL (viewsL m 0 ((qs++[q]).map fun q => (q,0)))::Vec tv' 179 3 (thrRows (pv++[v']) (List.replicate (i + 1) (0,false)))::Own r (runC m tv' (vwsOf (qs++[q])) 0 snil snil)::L) H7 := h9.ent ee
    have h11 := h10.snoc
    rw [hp'] at h11
    exact h11.ent ee
   ·refine Cd.f (ltZ_f (by omega)) ?_
    show _ = _∧_
    have : i = prs.length := by omega
    subst this
    rw [List.take_of_length_le (Nat.le_refl _)] at hs1
    exact ⟨rfl,tv,pv,qs,e6,hpv,hqs,hs1⟩
  ·obtain ⟨tv,pv,qs,e6,hpv,hqs,hs1⟩ := hP
   show Cd _ _ _
   refine Cd.t (eqN_self 0) ?_
   rw [e6]
   refine k h64 hlong r tv pv qs _ hqs ?_
   have h2 : Sat (Vec snil 3 1 []::Vec snil 182 4 []::Own r (runC m tv (vwsOf qs) 0 snil snil)::Vec tv 179 3 (thrRows pv (List.replicate prs.length (0,false)))::SatL (procsL pv prs)::SatL (viewsL m 0 (qs.map fun q => (q,0)))::L) H := hs1.nilV.nilV
   exact Sat.close (L1 := [Own r (runC m tv (vwsOf qs) 0 snil snil),Vec tv 179 3 (thrRows pv (List.replicate prs.length (0,false))),Vec snil 182 4 [],Vec snil 3 1 [],SatL (procsL pv prs)]) (h2.ent ee) fun g a => ⟨snil,snil,[],[],⟨Nat.zero_le _,Nat.zero_le _,vwsOf_len (by omega),by simp [hpv],by simp⟩,a⟩
  ·exact (Sat.none (Sat.none (Sat.nilV (by assumption)))).ent ee
end Go.Proofs.YtnkbmaccgifeoaaGreat

set_option linter.unusedVariables false
set_option linter.unusedSimpArgs false
namespace Go.Proofs.YtnkbmaccgifeoaaGreat
open Go Go.CM
attribute [local irreducible] AsBool AsWant AsNat AsInt AsCnt AsPtr AsSlc AsLen AsStr AsAgg AsTup AsFn AsIfc Nth Sc NotNil IsNil Must Cd codeW funW Sat SatL wrapN subM mkRow ltZ leZ ltN leN
attribute [local irreducible] isFunT
variable {con : CallT}
inductive Nx1 (M : Mem) : Mem→Prop where
 | same : Nx1 M M
 | load (th : Int) (a : Nat) : Nx1 M (M.load th a)
 | cas (th : Int) (a x y : Nat) : Nx1 M (M.cas th a x y)
 | alloc (th : Int) (vals : List Nat) (h : vals.length ≤ 1000) : Nx1 M (M.alloc th vals)
theorem sett_nx (x : SettP) (M : Mem) (th : Int) : Nx1 M (x.go M th).2.1 := by
 unfold SettP.go
 split
 ·exact .load _ _
 split
 ·exact .load _ _
 split
 ·exact .load _ _
 split
 ·exact .load _ _
 split
 ·exact .load _ _
 ·exact .cas _ _ _ _
theorem ite_nx {α : Type} {c : Prop} [Decidable c] {M : Mem} {a b : α × Mem} (h1 : Nx1 M a.2) (h2 : Nx1 M b.2) : Nx1 M (if c then a else b).2 := by
 by_cases h : c
 ·rw [if_pos h]; exact h1
 ·rw [if_neg h]; exact h2
theorem fr_nx (f : FrP) (M : Mem) (th : Int) : Nx1 M (f.go M th).2 := by
 unfold FrP.go
 exact ite_nx (.load _ _) (ite_nx (.load _ _) (ite_nx (.load _ _) (ite_nx (.load _ _) (ite_nx (.alloc _ _ (by simp)) (ite_nx (.cas _ _ _ _) (ite_nx (.load _ _) (ite_nx (.cas _ _ _ _) (ite_nx (.load _ _) (ite_nx (sett_nx _ _ _) (ite_nx (.cas _ _ _ _) (ite_nx (.load _ _) (ite_nx (.load _ _) (ite_nx (.load _ _) (.cas _ _ _ _))))))))))))))
theorem stk_nx (l : List FrP) (M : Mem) (th : Int) : Nx1 M (stkP l M th).2 := by
 cases l with
 | nil => exact .same
 | cons f r => exact fr_nx f M th
theorem rd_nx (x : RdP) (M : Mem) (th : Int) : Nx1 M (x.go M th).2 := by
 unfold RdP.go
 split
 ·exact .load _ _
 split
 ·exact sett_nx _ _ _
 split
 ·exact stk_nx _ _ _
 ·exact .same
theorem mu_nx (x : MuP) (M : Mem) (th : Int) : Nx1 M (x.go M th).2 := by
 unfold MuP.go
 split
 ·split
  ·exact .same
  ·rename_i h
   have he : errE x.l = 0 := Classical.byContradiction fun q => h (.inl q)
   exact .alloc _ _ (by rw [planE_len,(srtE_perm _).length_eq]; have := (errE_zero he).1; omega)
 split
 ·exact stk_nx _ _ _
 split
 ·exact .load _ _
 ·exact .same
structure Fin29 (M : Mem) : Prop where
 bd : M.Bd
 free : M.free ≤ M.cells.length
 len : M.cells.length ≤ 4194304
theorem Nx1.tr {M M' : Mem} (h : Nx1 M M') : M.tr.length ≤ M'.tr.length∧M'.tr.length ≤ M.tr.length + 1 := by
 cases h with
 | same => exact ⟨Nat.le_refl _,Nat.le_succ _⟩
 | load th a => simp [Mem.load,Mem.note]
 | cas th a x y =>
  simp only [Mem.cas,Mem.note]
  split <;> simp [Mem.put]
 | alloc th vals h =>
  simp only [Mem.alloc,Mem.note]
  split <;> simp
theorem Nx1.lim {M M' : Mem} (h : Nx1 M M') (hf : M.free ≤ M.cells.length) (hl : M.cells.length ≤ 4194304) : M'.free ≤ M'.cells.length∧M'.cells.length ≤ 4194304 := by
 cases h with
 | same => exact ⟨hf,hl⟩
 | load th a => exact ⟨hf,hl⟩
 | cas th a x y =>
  unfold Mem.cas
  split
  ·show M.free ≤ (M.put a y).cells.length∧(M.put a y).cells.length ≤ _
   rw [put_len]; exact ⟨hf,hl⟩
  ·exact ⟨hf,hl⟩
 | alloc th vals h =>
  unfold Mem.alloc
  split
  ·rename_i q
   show M.free + vals.length ≤ (ovN vals M.cells M.free).length∧(ovN vals M.cells M.free).length ≤ _
   rw [ovN_len]; exact ⟨by omega,hl⟩
  ·exact ⟨hf,hl⟩
def CalmV (M : Mem) : Prop := ∀ a ∈ M.tr,a.vals.length ≤ 1000000000
theorem CalmV.note {M : Mem} {c : Acs} (h : CalmV M) (hc : c.vals.length ≤ 1000000000) : CalmV (M.note c) := fun a ha => by
 simp only [Mem.note,List.mem_append,List.mem_singleton] at ha
 rcases ha with ha | rfl
 ·exact h a ha
 ·exact hc
theorem Nx1.calm {M M' : Mem} (q : Nx1 M M') (h : CalmV M) : CalmV M' := by
 cases q with
 | same => exact h
 | load th a => exact h.note (by simp [accLd])
 | cas th a x y =>
  unfold Mem.cas
  split
  ·exact CalmV.note (M := M.put a y) h (by simp [accCas])
  ·exact CalmV.note h (by simp [accCas])
 | alloc th l hl =>
  unfold Mem.alloc
  split
  ·exact CalmV.note (M := { M with cells := _,free := _ }) h (by show l.length ≤ _; omega)
  ·exact CalmV.note h (by show l.length ≤ _; omega)
inductive PrS where
 | mu (x : MuP)
 | rd (x : RdP)
def PrS.step (s : PrS) (M : Mem) (th : Int) : PrS × Mem :=
 match s with
 | .mu x => (.mu (x.go M th).1,(x.go M th).2)
 | .rd x => (.rd (x.go M th).1,(x.go M th).2)
def PrS.over (s : PrS) : Bool :=
 match s with
 | .mu x => decide (x.at_ = 3)
 | .rd x => decide (x.kind = 3)
def PrS.Ok (s : PrS) (c : Nat) : Prop :=
 match s with
 | .mu x => x.Ok c
 | .rd x => x.Ok c
theorem step_nx (s : PrS) (M : Mem) (th : Int) : Nx1 M (s.step M th).2 := by
 cases s with
 | mu x => exact mu_nx x M th
 | rd x => exact rd_nx x M th
theorem step_ok {s : PrS} {c : Nat} (h : s.Ok c) {M : Mem} (hf : Fin29 M) (hc1 : 1 ≤ c) (th : Int) : Fin29 (s.step M th).2∧(s.step M th).1.Ok (c + 1) := by
 have hl := (step_nx s M th).lim hf.free hf.len
 cases s with
 | mu x =>
  obtain ⟨h1,h2⟩ := MuP.Ok.go (x := x) h hf.bd (by have := hf.free; have := hf.len; omega) hc1 th
  exact ⟨⟨h1,hl.1,hl.2⟩,h2⟩
 | rd x =>
  obtain ⟨h1,h2⟩ := RdP.Ok.go (x := x) h hf.bd th
  exact ⟨⟨h1,hl.1,hl.2⟩,h2⟩
theorem PrS.Ok.up {s : PrS} {c c' : Nat} (h : s.Ok c) (hc : c ≤ c') : s.Ok c' := by
 cases s with
 | mu x =>
  have h : x.Ok c := h
  exact ⟨h.at_,h.l,fun q => by obtain ⟨a,b,e⟩ := h.stk q; exact ⟨a,b,by omega⟩,h.d⟩
 | rd x =>
  have h : x.Ok c := h
  exact ⟨h.kind,h.st,fun q => by obtain ⟨a,b,e⟩ := h.stk q; exact ⟨a,b,by omega⟩⟩
structure CallS where
 rd : Bool
 addr : Nat
 l : List E3
def CallS.fresh (c : CallS) : PrS := if c.rd = true then .rd ⟨c.addr,0,sett0 0,[],0⟩ else .mu ⟨c.l,0,0,[],false,0⟩
theorem CallS.freshOk (c : CallS) (h : ∀ e ∈ c.l,e.a < 18446744073709551616) (n : Nat) : c.fresh.Ok n := by
 unfold CallS.fresh
 split
 ·exact ⟨by show 0 ≤ 3; omega,fun q => absurd q (by show ¬ 0 = 1; omega),fun q => absurd q (by show ¬ 0 = 2; omega)⟩
 ·exact ⟨by show 0 ≤ 3; omega,h,fun q => absurd q (by show ¬ 0 = 1; omega),by show 0 < _; omega⟩
def PrcAt (v : Value) (s : PrS) : HP := fun h =>
 match s with
 | .mu x => ∃ p,v = .iface 38 (ptr p 0)∧MuAt p x h
 | .rd x => ∃ p,v = .iface 39 (ptr p 0)∧RdAt p x h
def IfcOk (v : Value) : Prop := ∃ t p,v = .iface t (ptr p 0)∧(t = 38 ∨ t = 39)
theorem PrcAt.ifc {v : Value} {s : PrS} {h : PH} (a : PrcAt v s h) : IfcOk v := by
 cases s with
 | mu s => obtain ⟨p,rfl,_⟩ := a; exact ⟨_,p,rfl,.inl rfl⟩
 | rd s => obtain ⟨p,rfl,_⟩ := a; exact ⟨_,p,rfl,.inr rfl⟩
theorem MuAt.mono {p : Nat} {x : MuP} {g h : PH} (a : MuAt p x g) (t : Subh g h) : MuAt p x h := by
 rcases a with ⟨e0,e1,e2,e3,lv,d,hd,a⟩ | ⟨e0,lv,q,a⟩ | ⟨e0,lv,po,a⟩
 ·exact .inl ⟨e0,e1,e2,e3,lv,d,hd,a.mono t⟩
 ·exact .inr (.inl ⟨e0,lv,q,a.mono t⟩)
 ·exact .inr (.inr ⟨e0,lv,po,a.mono t⟩)
theorem RdAt.mono {p : Nat} {x : RdP} {g h : PH} (a : RdAt p x g) (t : Subh g h) : RdAt p x h := by
 rcases a with ⟨e0,a⟩ | ⟨e0,q,a⟩ | ⟨e0,q,a⟩ | ⟨e0,a⟩
 ·exact .inl ⟨e0,a.mono t⟩
 ·exact .inr (.inl ⟨e0,q,a.mono t⟩)
 ·exact .inr (.inr (.inl ⟨e0,q,a.mono t⟩))
 ·exact .inr (.inr (.inr ⟨e0,a.mono t⟩))
theorem prc_mono {v : Value} {s : PrS} {g h : PH} (a : PrcAt v s g) (t : Subh g h) : PrcAt v s h := by
 cases s with
 | mu s => obtain ⟨p,rfl,a⟩ := a; exact ⟨p,rfl,a.mono t⟩
 | rd s => obtain ⟨p,rfl,a⟩ := a; exact ⟨p,rfl,a.mono t⟩
theorem IfcOk.meth {v : Value} (h : IfcOk v) (Q : Prop) (q : Q) : MethOk Tryz.prog "Step" [v] Q := by
 obtain ⟨t,p,rfl,rfl | rfl⟩ := h
 ·exact MethOk.mk' (q := (92,ptr p 0)) (by kernel_rfl) q
 ·exact MethOk.mk' (q := (129,ptr p 0)) (by kernel_rfl) q
theorem IfcOk.cell {v : Value} (h : IfcOk v) : isCell v = true := by
 obtain ⟨t,p,rfl,_⟩ := h; rfl
def VwB (q m : Nat) (th : Int) (n : Nat) : HP := fun h => ∃ n',n' ≤ n∧ViewAt q m th n' h
theorem prcStep_ok (hc : Con con lives) (s : PrS) {c : Nat} {L R1 R2 R3 : List HP} {H : CH} {v : Value} {q m n : Nat} {th : Int} {M : Mem} {K : KP} (hs : Sat L H) (hm : Pull L (MemP m M) R1) (hv : Pull R1 (VwB q m th n) R2) (hp : Pull R2 (PrcAt v s) R3)
  (hn : n < 1000000000) (ht : M.tr.length < 1000000000) (hb : M.Bd) (hok : s.Ok c) (hcc : c < 100000000) (k : ∀ H1,Sat (PrcAt v (s.step M th).1::MemP m (s.step M th).2::VwB q m th (n + 1)::R3) H1→K (.bool (s.step M th).1.over) H1) :
  Mth Tryz.prog con v "Step" [ptr q 0] H K := by
 have hs0 := hs.takes (.cons hm (.cons hv (.cons hp .nil)))
 simp only [List.cons_append,List.nil_append] at hs0
 clear hs hm hv hp
 have hsv : Sat (VwB q m th n::PrcAt v s::MemP m M::R3) H := hs0.ent ee
 obtain ⟨h1,h2,s1,s2,d,⟨n',hn',hin⟩,hR⟩ := hsv.opens .here
 have hs1 : Sat (ViewAt q m th n'::PrcAt v s::MemP m M::R3) H := Sat.merge (L1 := [_]) s1 s2 d (SatL.one hin) hR
 clear hs0 hsv hin hR s1 s2 d
 have hs2 : Sat (PrcAt v s::ViewAt q m th n'::MemP m M::R3) H := hs1.ent ee
 clear hs1
 obtain ⟨h1,h2,s1,s2,d,hin,hR⟩ := hs2.opens .here
 cases s with
 | mu x =>
  obtain ⟨p,rfl,hin⟩ := hin
  have hs1 : Sat (MuAt p x::ViewAt q m th n'::MemP m M::R3) H := Sat.merge (L1 := [_]) s1 s2 d (SatL.one hin) hR
  refine Mth.of (f := 92) (rc := ptr p 0) (by kernel_rfl) (by kernel_rfl) ?_
  refine multiStep_ok hc hs1 pp pp pp (by omega) ht hb hok hcc fun n2 H1 hn2 h1 => k _ ?_
  have h2 : Sat (ViewAt q m th n2::MuAt p (x.go M th).1::MemP m (x.go M th).2::R3) H1 := h1.ent ee
  have h3 : Sat (VwB q m th (n + 1)::MuAt p (x.go M th).1::MemP m (x.go M th).2::R3) H1 := h2.imp fun g a => ⟨n2,by omega,a⟩
  have h4 : Sat (MuAt p (x.go M th).1::MemP m (x.go M th).2::VwB q m th (n + 1)::R3) H1 := h3.ent ee
  exact h4.imp fun g a => ⟨p,rfl,a⟩
 | rd x =>
  obtain ⟨p,rfl,hin⟩ := hin
  have hs1 : Sat (RdAt p x::ViewAt q m th n'::MemP m M::R3) H := Sat.merge (L1 := [_]) s1 s2 d (SatL.one hin) hR
  refine Mth.of (f := 129) (rc := ptr p 0) (by kernel_rfl) (by kernel_rfl) ?_
  refine readStep_ok hc hs1 pp pp pp (by omega) ht hb hok hcc fun n2 H1 hn2 h1 => k _ ?_
  have h2 : Sat (ViewAt q m th n2::RdAt p (x.go M th).1::MemP m (x.go M th).2::R3) H1 := h1.ent ee
  have h3 : Sat (VwB q m th (n + 1)::RdAt p (x.go M th).1::MemP m (x.go M th).2::R3) H1 := h2.imp fun g a => ⟨n2,by omega,a⟩
  have h4 : Sat (RdAt p (x.go M th).1::MemP m (x.go M th).2::VwB q m th (n + 1)::R3) H1 := h3.ent ee
  exact h4.imp fun g a => ⟨p,rfl,a⟩
structure G where
 M : Mem
 ths : List (Nat × Bool)
 st : List (List PrS)
def G.pick (g : G) (t : Int) : G :=
 match t with
 | .negSucc _ => g
 | .ofNat i =>
  match g.ths[i]?,g.st[i]? with
  | some (a,_),some ss =>
   match ss[a]? with
   | some s => { M := (s.step g.M (Int.ofNat i)).2,ths := g.ths.set i (if (s.step g.M (Int.ofNat i)).1.over then (a + 1,false) else (a,true)),st := g.st.set i (ss.set a (s.step g.M (Int.ofNat i)).1) }
   | none => g
  | _,_ => g
def viewsB (m : Nat) : Nat→List (Nat × Nat)→List HP
 | _,[] => []
 | i,(q,n)::r => VwB q m (Int.ofNat i) n::viewsB m (i + 1) r
theorem viewsB_get {m : Nat} : ∀ {i0 j : Nat} {qs : List (Nat × Nat)} {q n : Nat},qs[j]? = some (q,n)→(viewsB m i0 qs)[j]? = some (VwB q m (Int.ofNat (i0 + j)) n)
 | i0,j,[],q,n,h => by simp at h
 | i0,0,x::r,q,n,h => by simp at h; subst h; rfl
 | i0,j + 1,x::r,q,n,h => by
  show (viewsB m (i0 + 1) r)[j]? = _
  rw [viewsB_get (by simpa using h),show i0 + 1 + j = i0 + (j + 1) by omega]
theorem viewsB_set {m : Nat} : ∀ {i0 j : Nat} {qs : List (Nat × Nat)} {q n : Nat},(viewsB m i0 qs).set j (VwB q m (Int.ofNat (i0 + j)) n) = viewsB m i0 (qs.set j (q,n))
 | i0,j,[],q,n => rfl
 | i0,0,x::r,q,n => rfl
 | i0,j + 1,x::r,q,n => by
  show VwB _ _ _ _::(viewsB m (i0 + 1) r).set j _ = VwB _ _ _ _::viewsB m (i0 + 1) (r.set j (q,n))
  rw [show i0 + (j + 1) = i0 + 1 + j by omega,viewsB_set]
theorem viewsB_len {m : Nat} : ∀ {i0 : Nat} {qs : List (Nat × Nat)},(viewsB m i0 qs).length = qs.length
 | i0,[] => rfl
 | i0,x::r => by show (viewsB m (i0 + 1) r).length + 1 = r.length + 1; rw [viewsB_len]
theorem viewsB_of {m : Nat} : ∀ {i0 : Nat} {qs : List (Nat × Nat)} {h : PH},SatL (viewsL m i0 qs) h→SatL (viewsB m i0 qs) h
 | i0,[],h,a => a
 | i0,(q,n)::r,h,a => SatL.under (fun g b => viewsB_of b) (SatL.imp (fun g b => ⟨n,Nat.le_refl _,b⟩) a)
def Good (calls : List (List CallS)) (c0 : Nat) (g : G) : Prop :=
 g.ths.length = calls.length∧g.st.length = calls.length∧∀ (i : Nat) (cs : List CallS) (a : Nat) (o : Bool) (ss : List PrS),calls[i]? = some cs→g.ths[i]? = some (a,o)→g.st[i]? = some ss →
  ss.length = cs.length∧∀ (k : Nat) (c : CallS),cs[k]? = some c→(a < k ∨ k = a∧o = false→ss[k]? = some c.fresh)∧(k = a→∃ s,ss[k]? = some s∧s.Ok c0)
def Short (calls : List (List CallS)) : Prop := ∀ cs ∈ calls,cs.length ≤ 4096∧∀ c ∈ cs,∀ e ∈ c.l,e.a < 18446744073709551616
def g0 (M : Mem) (calls : List (List CallS)) : G := { M := M,ths := List.replicate calls.length (0,false),st := calls.map fun cs => cs.map CallS.fresh }
theorem good0 (M : Mem) {calls : List (List CallS)} (hs : Short calls) (c0 : Nat) : Good calls c0 (g0 M calls) := by
 refine ⟨by simp [g0],by simp [g0],fun i cs a o ss h1 h2 h3 => ?_⟩
 simp only [g0,List.getElem?_replicate] at h2
 split at h2
 ·cases h2
  simp only [g0,List.getElem?_map,h1,Option.map_some,Option.some.injEq] at h3
  subst h3
  refine ⟨by simp,fun k c hk => ⟨fun _ => by rw [List.getElem?_map,hk]; rfl,fun _ => ⟨c.fresh,by rw [List.getElem?_map,hk]; rfl,c.freshOk ?_ c0⟩⟩⟩
  exact (hs cs (List.mem_of_getElem? h1)).2 c (List.mem_of_getElem? hk)
 ·cases h2
theorem Good.up {calls : List (List CallS)} {g : G} {c0 : Nat} (h : Good calls c0 g) : Good calls (c0 + 1) g :=
 ⟨h.1,h.2.1,fun i cs a o ss h1 h2 h3 => ⟨(h.2.2 i cs a o ss h1 h2 h3).1,fun k c hk => ⟨((h.2.2 i cs a o ss h1 h2 h3).2 k c hk).1,fun e => by
  obtain ⟨s,q1,q2⟩ := ((h.2.2 i cs a o ss h1 h2 h3).2 k c hk).2 e
  exact ⟨s,q1,q2.up (Nat.le_succ _)⟩⟩⟩⟩
theorem good_pick {calls : List (List CallS)} {g : G} {c0 : Nat} (hs : Short calls) (hf : Fin29 g.M) (hc1 : 1 ≤ c0) (h : Good calls c0 g) (t : Int) : Good calls (c0 + 1) (g.pick t) := by
 unfold G.pick
 split
 ·exact h.up
 ·rename_i i
  split
  ·rename_i a o' ss e1 e2
   split
   ·rename_i s e3
    obtain ⟨l1,l2,l3⟩ := h
    refine ⟨by simp [l1],by simp [l2],fun j cs a' o'' ss' h1 h2 h3 => ?_⟩
    simp only at h2 h3
    by_cases hj : i = j
    ·subst hj
     have hi1 : i < g.ths.length := (List.getElem?_eq_some_iff.1 e1).1
     have hi2 : i < g.st.length := (List.getElem?_eq_some_iff.1 e2).1
     rw [List.getElem?_set_self hi1] at h2
     rw [List.getElem?_set_self hi2] at h3
     cases h3
     obtain ⟨g1,g2⟩ := l3 i cs a o' ss h1 e1 e2
     have hal : a < ss.length := (List.getElem?_eq_some_iff.1 e3).1
     refine ⟨by rw [List.length_set]; exact g1,fun k c hk => ?_⟩
     obtain ⟨f1,f2⟩ := g2 k c hk
     obtain ⟨s0,hs0,hok⟩ : ∃ s,ss[a]? = some s∧s.Ok c0 := (g2 a (cs[a]'(by omega)) (List.getElem?_eq_getElem (by omega))).2 rfl
     rw [e3] at hs0
     cases hs0
     cases hov : (s.step g.M (Int.ofNat i)).1.over with
     | true =>
      rw [hov] at h2
      simp only [if_true,Option.some.injEq,Prod.mk.injEq] at h2
      obtain ⟨rfl,rfl⟩ := h2
      refine ⟨fun hh => ?_,fun hh => ?_⟩
      ·rw [List.getElem?_set_ne (by omega)]
       exact f1 (by omega)
      ·rw [List.getElem?_set_ne (by omega)]
       exact ⟨c.fresh,f1 (by omega),c.freshOk ((hs cs (List.mem_of_getElem? h1)).2 c (List.mem_of_getElem? hk)) _⟩
     | false =>
      rw [hov] at h2
      simp only [Bool.false_eq_true,if_false,Option.some.injEq,Prod.mk.injEq] at h2
      obtain ⟨rfl,rfl⟩ := h2
      refine ⟨fun hh => ?_,fun hh => ?_⟩
      ·rcases hh with hh | ⟨_,hh⟩
       ·rw [List.getElem?_set_ne (by omega)]
        exact f1 (.inl hh)
       ·cases hh
      ·subst hh
       rw [List.getElem?_set_self hal]
       exact ⟨_,rfl,(step_ok hok hf hc1 _).2⟩
    ·rw [List.getElem?_set_ne hj] at h2 h3
     exact (Good.up ⟨l1,l2,l3⟩).2.2 j cs a' o'' ss' h1 h2 h3
   ·exact h.up
  ·exact h.up
theorem pick_nx (g : G) (t : Int) : Nx1 g.M (g.pick t).M := by
 unfold G.pick
 split
 ·exact .same
 ·split
  ·split
   ·exact step_nx _ _ _
   ·exact .same
  ·exact .same
theorem pick_fin {calls : List (List CallS)} {g : G} {c0 : Nat} (hf : Fin29 g.M) (hc1 : 1 ≤ c0) (hsh : Short calls) (h : Good calls c0 g) (t : Int) : Fin29 (g.pick t).M := by
 unfold G.pick
 split
 ·exact hf
 ·rename_i i
  split
  ·rename_i a o' ss e1 e2
   split
   ·rename_i s e3
    obtain ⟨l1,l2,l3⟩ := h
    have hi : i < calls.length := by rw [← l1]; exact (List.getElem?_eq_some_iff.1 e1).1
    obtain ⟨g1,g2⟩ := l3 i calls[i] a o' ss (List.getElem?_eq_getElem hi) e1 e2
    have ha : a < calls[i].length := by rw [← g1]; exact (List.getElem?_eq_some_iff.1 e3).1
    obtain ⟨s0,q1,q2⟩ := (g2 a calls[i][a] (List.getElem?_eq_getElem ha)).2 rfl
    rw [e3] at q1
    cases q1
    exact (step_ok q2 hf hc1 _).1
   ·exact hf
  ·exact hf
def objsL (prs : List (List Value)) (st : List (List PrS)) : List HP := List.zipWith (fun l ss => SatL (List.zipWith PrcAt l ss)) prs st
theorem objs_get {prs : List (List Value)} {st : List (List PrS)} {i : Nat} {l : List Value} {ss : List PrS} (h1 : prs[i]? = some l) (h2 : st[i]? = some ss) : (objsL prs st)[i]? = some (SatL (List.zipWith PrcAt l ss)) := by
 unfold objsL; rw [List.getElem?_zipWith,h1,h2]
theorem zip_set {α β γ : Type} (f : α→β→γ) {l : List α} {m : List β} {i : Nat} {x : α} {y : β} (h : l[i]? = some x) : (List.zipWith f l m).set i (f x y) = List.zipWith f l (m.set i y) := by
 apply List.ext_getElem?
 intro j
 rw [List.getElem?_set,List.getElem?_zipWith,List.getElem?_zipWith,List.getElem?_set,List.length_zipWith]
 by_cases hj : i = j
 ·subst hj
  rw [h]
  have := (List.getElem?_eq_some_iff.1 h).1
  simp only [if_true]
  by_cases hl : i < m.length
  ·rw [if_pos hl,if_pos (by omega)]
  ·rw [if_neg hl,if_neg (by omega)]
 ·simp only [hj,if_false]
theorem run_pick (hc : Con con lives) {calls : List (List CallS)} (hsh : Short calls) {g : G} {c0 : Nat} (hg : Good calls c0 g) (hf : Fin29 g.M) (hcc : c0 < 100000000) {L R : List HP} {H : CH} {r m n T : Nat} {t : Int} {tv : Value} {pv : List Value} {prs : List (List Value)} {q0 : List Nat} {qs : List (Nat × Nat)} {K : KP}
  (hs : Sat (RunAt r m tv pv prs g.ths (vwsOf q0) n T::MemP m g.M::SatL (viewsB m 0 qs)::SatL (objsL prs g.st)::R) H)
  (hq : qs.map Prod.fst = q0) (hql : q0.length = calls.length) (hpl : prs.map List.length = calls.map List.length) (hn : n < 100000000) (hqn : ∀ x ∈ qs,x.2 ≤ n) (hT : T ≤ g.M.tr.length) (htr : g.M.tr.length ≤ n + 10)
  (k : ∀ b H1 T' qs',qs'.map Prod.fst = q0→(∀ x ∈ qs',x.2 ≤ n + 1)→T' ≤ (g.pick t).M.tr.length→Sat (RunAt r m tv pv prs (g.pick t).ths (vwsOf q0) (n + 1) T'::MemP m (g.pick t).M::SatL (viewsB m 0 qs')::SatL (objsL prs (g.pick t).st)::R) H1→K (.bool b) H1) :
  Call1 Tryz.prog con 57 [ptr r 0,i64 t] H K := by
 obtain ⟨l1,l2,l3⟩ := hg
 have hpr : prs.length = calls.length := by have := congrArg List.length hpl; simpa using this
 have same : ∀ {b : Bool},idleB prs g.ths t = true→g.pick t = g→Call1 Tryz.prog con 57 [ptr r 0,i64 t] H K := fun {b} hid hp => by
  rw [hp] at k
  exact stepPick_idle hc hs pp hid (by omega) fun H1 h1 => k _ _ T qs hq (fun x hx => Nat.le_succ_of_le (hqn x hx)) hT (h1.ent ee)
 cases t with
 | negSucc z => exact same (b := true) rfl rfl
 | ofNat i =>
  by_cases hi : i < calls.length
  ·obtain ⟨cs,ec⟩ : ∃ x,calls[i]? = some x := ⟨_,List.getElem?_eq_getElem hi⟩
   obtain ⟨⟨a,o⟩,e1⟩ : ∃ x,g.ths[i]? = some x := ⟨_,List.getElem?_eq_getElem (by omega)⟩
   obtain ⟨ss,e2⟩ : ∃ x,g.st[i]? = some x := ⟨_,List.getElem?_eq_getElem (by omega)⟩
   obtain ⟨l,e3⟩ : ∃ x,prs[i]? = some x := ⟨_,List.getElem?_eq_getElem (by omega)⟩
   obtain ⟨⟨q,nq⟩,e5⟩ : ∃ x,qs[i]? = some x := ⟨_,List.getElem?_eq_getElem (by rw [← List.length_map (f := Prod.fst),hq]; omega)⟩
   have ell : l.length = cs.length := by
    have h1 : (prs.map List.length)[i]? = (calls.map List.length)[i]? := by rw [hpl]
    rw [List.getElem?_map,List.getElem?_map,e3,ec] at h1
    simpa using h1
   obtain ⟨f1,f2⟩ := l3 i cs a o ss ec e1 e2
   have eq0 : q0[i]? = some q := by rw [← hq,List.getElem?_map,e5]; rfl
   by_cases ha : a < cs.length
   ·obtain ⟨s,es,hok⟩ := (f2 a cs[a] (List.getElem?_eq_getElem ha)).2 rfl
    obtain ⟨v,ev⟩ : ∃ x,l[a]? = some x := ⟨_,List.getElem?_eq_getElem (by omega)⟩
    have hp : g.pick (.ofNat i) = { M := (s.step g.M (Int.ofNat i)).2,ths := g.ths.set i (if (s.step g.M (Int.ofNat i)).1.over then (a + 1,false) else (a,true)),st := g.st.set i (ss.set a (s.step g.M (Int.ofNat i)).1) } := by
     simp only [G.pick,e1,e2,es]
    rw [hp] at k
    have hov : (objsL prs g.st)[i]? = some (SatL (List.zipWith PrcAt l ss)) := objs_get e3 e2
    have hzv : (List.zipWith PrcAt l ss)[a]? = some (PrcAt v s) := by rw [List.getElem?_zipWith,ev,es]
    have hifc : IfcOk v := (hs.has (Has.all (Has.all (l := objsL prs g.st) (Has.skip (Has.skip (Has.skip Has.sat))) hov fun a t => SatL.mono t a) hzv fun {g h} a t => prc_mono a t)).ifc
    refine stepPick_ok (R' := SatL (viewsB m 0 (qs.set i (q,nq + 1)))::SatL (objsL prs (g.st.set i (ss.set a (s.step g.M (Int.ofNat i)).1)))::R) (b := (s.step g.M (Int.ofNat i)).1.over) (M' := (s.step g.M (Int.ofNat i)).2) hc hs pp pp e1 e3 ev (vwsOf_get eq0) (by obtain ⟨t,p,rfl,_⟩ := hifc; exact ⟨_,_,rfl⟩) hT ((step_nx s g.M (Int.ofNat i)).tr).1 (by have := ((step_nx s g.M (Int.ofNat i)).tr).2; omega) (by omega) (by have := (hsh cs (List.mem_of_getElem? ec)).1; omega) (fun Q q => hifc.meth Q q) ?_ (fun H1 h1 => ?_)
    ·intro F H1 K' hF k'
     have h1 : Sat (SatL (viewsB m 0 qs)::F::MemP m g.M::SatL (objsL prs g.st)::R) H1 := hF.ent ee
     have h2 := h1.pull (pull_all Pull.here (viewsB_get (m := m) (i0 := 0) e5))
     rw [Nat.zero_add] at h2
     have h3 : Sat (SatL (objsL prs g.st)::VwB q m (Int.ofNat i) nq::SatL ((viewsB m 0 qs).set i Emp)::F::MemP m g.M::R) H1 := h2.ent ee
     have h4 := h3.pull (pull_all Pull.here hov)
     have h5 := h4.pull (pull_all Pull.here hzv)
     refine prcStep_ok hc s h5 pp pp pp (by have := hqn _ (List.mem_of_getElem? e5); simp only at this; omega) (by omega) hf.bd hok hcc fun H6 h6 => k' _ ?_
     have h7 : Sat (PrcAt v (s.step g.M (Int.ofNat i)).1::SatL ((List.zipWith PrcAt l ss).set a Emp)::SatL ((objsL prs g.st).set i Emp)::VwB q m (Int.ofNat i) (nq + 1)::SatL ((viewsB m 0 qs).set i Emp)::F::MemP m (s.step g.M (Int.ofNat i)).2::R) H6 := h6.ent ee
     have h8 := h7.putAll ((List.getElem?_eq_some_iff.1 hzv).1)
     rw [zip_set PrcAt ev] at h8
     have h9 := h8.putAll ((List.getElem?_eq_some_iff.1 hov).1)
     have e9 : (objsL prs g.st).set i (SatL (List.zipWith PrcAt l (ss.set a (s.step g.M (Int.ofNat i)).1))) = objsL prs (g.st.set i (ss.set a (s.step g.M (Int.ofNat i)).1)) := zip_set (fun l ss => SatL (List.zipWith PrcAt l ss)) e3
     rw [e9] at h9
     have h10 : Sat (VwB q m (Int.ofNat i) (nq + 1)::SatL ((viewsB m 0 qs).set i Emp)::F::MemP m (s.step g.M (Int.ofNat i)).2::SatL (objsL prs (g.st.set i (ss.set a (s.step g.M (Int.ofNat i)).1)))::R) H6 := h9.ent ee
     have h11 := h10.putAll (by rw [viewsB_len]; exact (List.getElem?_eq_some_iff.1 e5).1)
     have e11 := viewsB_set (m := m) (i0 := 0) (j := i) (qs := qs) (q := q) (n := nq + 1)
     rw [Nat.zero_add] at e11
     rw [e11] at h11
     exact h11.ent ee
    ·refine k _ _ _ (qs.set i (q,nq + 1)) ?_ ?_ (Nat.le_refl _) h1
     ·rw [List.map_set,hq]
      exact set_get_self eq0
     ·intro x hx
      rcases List.mem_or_eq_of_mem_set hx with h | rfl
      ·exact Nat.le_succ_of_le (hqn x h)
      ·have := hqn _ (List.mem_of_getElem? e5)
       simp only at this ⊢
       omega
   ·refine same (b := true) ?_ ?_
    ·simp only [idleB,e1,e3]; exact decide_eq_true (by omega)
    ·simp only [G.pick,e1,e2,List.getElem?_eq_none (show ss.length ≤ a by omega)]
  ·refine same (b := true) ?_ ?_
   ·simp only [idleB,List.getElem?_eq_none (show g.ths.length ≤ i by omega)]
   ·simp only [G.pick,List.getElem?_eq_none (show g.ths.length ≤ i by omega)]
end Go.Proofs.YtnkbmaccgifeoaaGreat

set_option linter.unusedVariables false
set_option linter.unusedSimpArgs false
namespace Go.Proofs.YtnkbmaccgifeoaaGreat
open Go Go.CM
attribute [local irreducible] AsBool AsWant AsNat AsInt AsCnt AsPtr AsSlc AsLen AsStr AsAgg AsTup AsFn AsIfc Nth Sc NotNil IsNil Must Cd codeW funW Sat SatL wrapN subM mkRow ltZ leZ ltN leN
attribute [local irreducible] isFunT
variable {con : CallT}
abbrev tCl : Nat := 26
abbrev tCls : Nat := 94
theorem el_cl : elemOk Tryz.prog tCls tCl 3 40 = true := by kernel_rfl
theorem sl_cl : ∃ e,Tryz.prog.underlying tCls = some (.slice e) := ⟨_,(elemOk.out el_cl).1⟩
theorem el_cls : elemOk Tryz.prog 69 tCls 1 24 = true := by kernel_rfl
theorem sl_cls : ∃ e,Tryz.prog.underlying 69 = some (.slice e) := ⟨_,(elemOk.out el_cls).1⟩
def callRow (c : CallS × Value) : List Value := [.bool c.1.rd,u64 c.1.addr,c.2]
def CallsW (v : Value) (cd : List (CallS × Value)) : HP := fun h => SatL [Vec v tCl 3 (cd.map callRow),SatL (cd.map fun c => EntS c.2 c.1.l.toArray)] h
def ThrW (v : Value) (td : List (Value × List (CallS × Value))) : HP := fun h => SatL [Vec v tCls 1 (td.map fun t => [t.1]),SatL (td.map fun t => CallsW t.1 t.2)] h
theorem CallsW.mono {v : Value} {cd : List (CallS × Value)} {g h : PH} (a : CallsW v cd g) (t : Subh g h) : CallsW v cd h := SatL.mono t a
theorem ThrW.mono {v : Value} {td : List (Value × List (CallS × Value))} {g h : PH} (a : ThrW v td g) (t : Subh g h) : ThrW v td h := SatL.mono t a
theorem Has.thrW {v : Value} {td : List (Value × List (CallS × Value))} {L : List HP} : Has (ThrW v td::L) (ThrW v td) := Has.here fun a t => ThrW.mono a t
theorem satL_fst {A : HP} {L : List HP} {h : PH} (a : SatL (A::L) h) (m : ∀ {g h : PH},A g→Subh g h→A h) : A h := SatL.first a fun g a s => m a s
theorem satL_at {l : List HP} {A B : HP} {i : Nat} {h : PH} (a : SatL [A,SatL l] h) (hi : l[i]? = some B) (m : ∀ {g h : PH},B g→Subh g h→B h) : B h :=
 (Has.all (l := l) (L := [A,SatL l]) (Has.skip Has.sat) hi m) h a
theorem thr_vec {v : Value} {td : List (Value × List (CallS × Value))} {L : List HP} (h : Has L (ThrW v td)) : Has L (Vec v tCls 1 (td.map fun t => [t.1])) := fun g a => satL_fst (h g a) fun a t => a.mono t
theorem thr_at {v : Value} {td : List (Value × List (CallS × Value))} {L : List HP} {i : Nat} {t : Value × List (CallS × Value)} (h : Has L (ThrW v td)) (hi : td[i]? = some t) : Has L (CallsW t.1 t.2) := fun g a => satL_at (h g a) (i := i) (by rw [List.getElem?_map,hi]; rfl) fun a t => CallsW.mono a t
theorem calls_vec {v : Value} {cd : List (CallS × Value)} {L : List HP} (h : Has L (CallsW v cd)) : Has L (Vec v tCl 3 (cd.map callRow)) := fun g a => satL_fst (h g a) fun a t => a.mono t
theorem calls_at {v : Value} {cd : List (CallS × Value)} {L : List HP} {i : Nat} {c : CallS × Value} (h : Has L (CallsW v cd)) (hi : cd[i]? = some c) : Has L (EntS c.2 c.1.l.toArray) := fun g a => satL_at (h g a) (i := i) (by rw [List.getElem?_map,hi]; rfl) fun a t => EntS.mono a t
theorem EntS.cell {v : Value} {d : Array E3} {h : PH} (a : EntS v d h) : isCell v = true := by
 obtain ⟨p,c,rfl⟩ := a.len; rfl
theorem Vec.entS {v : Value} {e : Nat} {l : List E3} {h : PH} (a : Vec v e 3 (l.map encE) h) : EntS v l.toArray h := by
 obtain ⟨a1,⟨rfl,a2⟩ | ⟨b,h1,rfl,h3⟩⟩ := a
 ·rw [List.map_eq_nil_iff.1 a2]
  exact .inl ⟨rfl,none,0,rfl⟩
 ·refine .inr ⟨?_,b,(l.map encE).length,e,3,true,(l.map encE).flatten,by rw [List.length_map,List.size_toArray],h3,fun j _ => rfl⟩
  rw [List.size_toArray]
  cases l with
  | nil => exact absurd rfl h1
  | cons x r => simp
def ad5 (a : Nat) : Nat := Nat.mod (Nat.add (Nat.mod a 5) 1) 18446744073709551616
def plcE (e : E3) : E3 := ⟨ad5 e.a,e.o,e.n⟩
def plc (c : CallS) : CallS := ⟨c.rd,ad5 c.addr,c.l.map plcE⟩
def EntPE (e : E3) (cs : List Value) : HP := fun _ => cs = encE e
def EntsR : Value→List E3→HP := RowsR 3 EntPE
def CallPE (c : CallS) (cs : List Value) : HP := fun h => ∃ xl,cs = [.bool c.rd,u64 c.addr,xl]∧EntsR xl c.l h
def CallsR : Value→List CallS→HP := RowsR 3 CallPE
def ThrPE (l : List CallS) (cs : List Value) : HP := fun h => ∃ xv,cs = [xv]∧CallsR xv l h
def ThrR : Value→List (List CallS)→HP := RowsR 1 ThrPE
theorem EntsR.mono {v : Value} {l : List E3} {g h : PH} (a : EntsR v l g) (t : Subh g h) : EntsR v l h := RowsR.mono (fun a _ => a) a t
theorem CallsR.mono {v : Value} {l : List CallS} {g h : PH} (a : CallsR v l g) (t : Subh g h) : CallsR v l h := RowsR.mono (fun ⟨x,e,a⟩ t => ⟨x,e,EntsR.mono a t⟩) a t
theorem ThrR.mono {v : Value} {l : List (List CallS)} {g h : PH} (a : ThrR v l g) (t : Subh g h) : ThrR v l h := RowsR.mono (fun ⟨x,e,a⟩ t => ⟨x,e,CallsR.mono a t⟩) a t
theorem placedC_ok (hc : Con con lives) {R : List HP} {H : CH} {pc ad : Nat} {rd : Bool} {xl : Value} {l : List E3} {σ : TF} {Q : KX} (hll : l.length < 1000000000) (hs : Sat (EntsR xl l::Own pc [.bool rd,u64 ad,xl]::R) H)
  (e7 : σ 7 = ptr pc 0) (e8 : σ 8 = snil) (e9 : σ 9 = iN 0)
  (k : ∀ σ1 H1 x,σ1 0 = σ 0→σ1 3 = σ 3→σ1 4 = σ 4→σ1 5 = σ 5→σ1 6 = σ 6→σ1 7 = ptr pc 0→σ1 8 = x→Sat (Vec x tEntD 3 ((l.map plcE).map encE)::EntsR xl l::Own pc [.bool rd,u64 ad,xl]::R) H1→Q (.exit 4) σ1 H1) :
  LoopC Tryz.prog con (lpAt Tryz.prog 21 2) σ H Q := by
 refine LoopC.indP (n := 200) (id := 4) (fun σ1 H1 => ∃ x,σ1 0 = σ 0∧σ1 3 = σ 3∧σ1 4 = σ 4∧σ1 5 = σ 5∧σ1 6 = σ 6∧σ1 7 = ptr pc 0∧σ1 8 = x∧Sat (Vec x tEntD 3 ((l.map plcE).map encE)::EntsR xl l::Own pc [.bool rd,u64 ad,xl]::R) H1) (by kernel_rfl)
  (fun (i : Nat) σ1 H1 => i ≤ l.length∧σ1 0 = σ 0∧σ1 3 = σ 3∧σ1 4 = σ 4∧σ1 5 = σ 5∧σ1 6 = σ 6∧σ1 7 = ptr pc 0∧σ1 9 = iN i∧∃ x,σ1 8 = x∧Sat (Vec x tEntD 3 (((l.take i).map plcE).map encE)::EntsR xl l::Own pc [.bool rd,u64 ad,xl]::R) H1)
  (fun i => l.length - i) (fun i σ1 H1 hI => ?_) (fun σ1 H1 hP => ?_) 0 _ _ ⟨Nat.zero_le _,rfl,rfl,rfl,rfl,rfl,e7,e9,snil,e8,hs.nilV⟩
 ·obtain ⟨hi,a0,a3,a4,a5,a6,a7,a9,x,a8,hs1⟩ := hI
  rw [l29placedC_W]
  simp only [a7,a8,a9]
  have hE : Has (Vec x tEntD 3 (((l.take i).map plcE).map encE)::EntsR xl l::Own pc [.bool rd,u64 ad,xl]::R) (EntsR xl l) := Has.skip (Has.here fun a t => EntsR.mono a t)
  obtain ⟨px,cx,ex⟩ := RowsR.len (hs1.has hE)
  repeat (refine gO ?_; intros)
  refine AsLen.eq ex ?_
  repeat (refine gO ?_; intros)
  by_cases hlt : i < l.length
  ·refine Cd.t (ltZ_t hlt) ?_
   obtain ⟨e,ee'⟩ : ∃ e,l[i]? = some e := ⟨_,List.getElem?_eq_getElem hlt⟩
   obtain ⟨b,c,cs,hb,_,hcs,hld⟩ := rows_at hs1 hE ee'
   have hcs : cs = encE e := hcs
   subst hcs
   repeat (refine gO ?_; intros)
   refine AsSlc.eq hb ?_
   repeat (refine gO ?_; intros)
   refine Must.mk (ltN_t hlt) ?_
   refine hld _ 0 _ _ (by show 0 + i * 3 + 0 = _; omega) rfl ?_
   refine hld _ 1 _ _ (by show 0 + i * 3 + 1 = _; omega) rfl ?_
   refine hld _ 2 _ _ (by show 0 + i * 3 + 2 = _; omega) rfl ?_
   repeat (refine gO ?_; intros)
   refine stN (by assumption) (Nat.le_of_ble_eq_true rfl) rfl fun H19 h19 => ?_
   repeat (refine gO ?_; intros)
   rename_i p26 H27 h27
   have hlen : (((l.take i).map plcE).map encE).length = i := by simp; omega
   refine app_vec (new := [encE (plcE e)]) h27 pp el_entD (by omega) sl_entD (Src.cell (ys := encE (plcE e)) (n := 3) rfl) rfl (by simp [encE]) (by rw [hlen]; omega) rfl fun v H29 h29 => ?_
   repeat (refine gO ?_; intros)
   try rw [addInt]
   refine inR_nat (by first | omega | (simp only; omega)) ?_
   repeat (refine gO ?_; intros)
   show ∃ y,_∧_
   refine ⟨i + 1,by omega,hlt,a0,a3,a4,a5,a6,a7,rfl,v,rfl,?_⟩
   have e1 : ((l.take (i + 1)).map plcE).map encE = ((l.take i).map plcE).map encE++[encE (plcE e)] := by rw [List.take_add_one,ee']; simp
   rw [e1]
   exact h29.ent ee
  ·obtain rfl : i = l.length := by omega
   refine Cd.f (ltZ_f (Nat.le_refl _)) ?_
   show _ = _∧_
   rw [List.take_length] at hs1
   exact ⟨rfl,x,a0,a3,a4,a5,a6,a7,a8,hs1⟩
 ·obtain ⟨x,a0,a3,a4,a5,a6,a7,a8,hs1⟩ := hP
  exact k σ1 H1 x a0 a3 a4 a5 a6 a7 a8 hs1
theorem EntsR.ro {v : Value} {l : List E3} : RoP (EntsR v l) := fun h a => by
 rcases a with a | ⟨b,c,te,cells,h1,h2,h3,h4,h5⟩
 ·exact ⟨fun _ => none,(fun _ _ e => nomatch e),(fun _ _ e => nomatch e),.inl a⟩
 ·obtain ⟨k,k1,k2,k3,k4,k5,kf,k6,k7⟩ := h2
  refine ⟨fun x => if x = b then some k else none,fun x q hq => ?_,fun x q hq => ?_,.inr ⟨b,c,te,cells,h1,⟨k,by simp,k2,k3,k4,k5,kf,k6,k7⟩,h3,h4,h5⟩⟩
  ·simp only at hq
   split at hq
   ·rename_i hx; subst hx; cases hq; exact k1
   ·cases hq
  ·simp only at hq
   split at hq
   ·cases hq; exact k4
   ·cases hq
theorem placedB_ok (hc : Con con lives) {R : List HP} {H : CH} {i : Nat} {xv : Value} {threads : List (List CallS)} {cs : List CallS} {σ : TF} {Q : KX} (hlt : i < threads.length) (ec : threads[i]? = some cs) (hcl : cs.length < 1000000000) (hll : ∀ c ∈ cs,c.l.length < 1000000000) (hR : Has R (ThrR xv threads)) (hs : Sat R H)
  (e0 : σ 0 = xv) (e4 : σ 4 = iN i) (e5 : σ 5 = snil) (e6 : σ 6 = iN 0)
  (k : ∀ σ1 H1 v cd,σ1 0 = xv→σ1 3 = σ 3→σ1 4 = iN i→σ1 5 = v→cd.map Prod.fst = cs.map plc→Sat (CallsW v cd::R) H1→Q (.exit 2) σ1 H1) :
  LoopC Tryz.prog con (lpAt Tryz.prog 21 1) σ H Q := by
 refine LoopC.indP (n := 200) (id := 2) (fun σ1 H1 => ∃ v cd,σ1 0 = xv∧σ1 3 = σ 3∧σ1 4 = iN i∧σ1 5 = v∧cd.map Prod.fst = cs.map plc∧Sat (CallsW v cd::R) H1) (by kernel_rfl)
  (fun (j : Nat) σ1 H1 => j ≤ cs.length∧σ1 0 = xv∧σ1 3 = σ 3∧σ1 4 = iN i∧σ1 6 = iN j∧∃ v cd,σ1 5 = v∧cd.map Prod.fst = (cs.take j).map plc∧Sat (Vec v tCl 3 (cd.map callRow)::SatL (cd.map fun c => EntS c.2 c.1.l.toArray)::R) H1)
  (fun j => cs.length - j) (fun j σ1 H1 hI => ?_) (fun σ1 H1 hP => ?_) 0 _ _ ⟨Nat.zero_le _,e0,rfl,e4,e6,snil,[],e5,rfl,(Sat.none hs).nilV⟩
 ·obtain ⟨hj,a0,a3,a4,a6,v,cd,a5,hcd,hs1⟩ := hI
  rw [l29placedB_W]
  simp only [a0,a4,a6]
  have hT : Has (Vec v tCl 3 (cd.map callRow)::SatL (cd.map fun c => EntS c.2 c.1.l.toArray)::R) (ThrR xv threads) := Has.skip (Has.skip hR)
  obtain ⟨b,c,cs1,rfl,_,⟨xl,rfl,hcl'⟩,hld⟩ := rows_at hs1 hT ec
  obtain ⟨pl,cl',exl⟩ := RowsR.len hcl'
  repeat (refine gO ?_; intros)
  refine Must.mk (ltN_t hlt) (hld _ 0 _ _ (by show 0 + i * 1 = _; omega) rfl ?_)
  refine AsLen.eq exl ?_
  repeat (refine gO ?_; intros)
  by_cases hjl : j < cs.length
  ·refine Cd.t (ltZ_t hjl) ?_
   obtain ⟨cl,ecl⟩ : ∃ x,cs[j]? = some x := ⟨_,List.getElem?_eq_getElem hjl⟩
   repeat (refine gO ?_; intros)
   refine Must.mk (ltN_t hlt) (hld _ 0 _ _ (by show 0 + i * 1 = _; omega) rfl ?_)
   obtain ⟨bi,ci',cc,rfl,_,⟨xb,rfl,hent⟩,hldc⟩ := rows_at' hcl' ecl
   repeat (refine gO ?_; intros)
   refine Must.mk (ltN_t hjl) ?_
   refine hldc _ 0 _ _ (by show 0 + j * 3 + 0 = _; omega) rfl ?_
   refine hldc _ 1 _ _ (by show 0 + j * 3 + 1 = _; omega) rfl ?_
   refine hldc _ 2 _ _ (by show 0 + j * 3 + 2 = _; omega) rfl ?_
   have hd := Sat.dup' hs1 hent EntsR.ro
   obtain ⟨pb,cb,exb⟩ := RowsR.len hent
   have hcb : isCell xb = true := by rw [exb]; rfl
   refine nw hd fun p23 H24 h24 => ?_
   refine stN h24 (Nat.le_of_ble_eq_true rfl) (by rw [List.all_cons,List.all_cons,List.all_cons,hcb]; rfl) fun H25 h25 => ?_
   repeat (refine gO ?_; intros)
   rename_i H28 h28
   have h29 : Sat (EntsR xb cl.l::Own p23 [.bool cl.rd,u64 (ad5 cl.addr),xb]::Vec v tCl 3 (cd.map callRow)::SatL (cd.map fun c => EntS c.2 c.1.l.toArray)::R) H28 := h28.ent ee
   refine placedC_ok hc (hll cl (List.mem_of_getElem? ecl)) h29 rfl rfl rfl fun σ2 H2 x c0 c3 c4 c5 c6 c7 c8 h2 => ?_
   show Cd _ _ _
   refine Cd.t rfl ?_
   have c0' : σ2 0 = slc b 0 threads.length c := c0.trans a0
   have c3' : σ2 3 = σ 3 := c3.trans a3
   have c4' : σ2 4 = iN i := c4.trans a4
   have c5' : σ2 5 = v := c5.trans a5
   have c6' : σ2 6 = iN j := c6.trans a6
   have hx : isCell x = true := by obtain ⟨q,rfl⟩ := (h2.has Has.vec).shape; rfl
   simp only [c5',c6',c7,c8]
   refine AsPtr.mk (Sc.mk hx (st h2 (by show 2 < 3; omega) hx fun H34 h34 => ?_))
   repeat (refine gO ?_; intros)
   rename_i p40 H41 h41
   refine app_vec (new := [callRow (plc cl,x)]) h41 pp el_cl (by omega) sl_cl (Src.cell (ys := callRow (plc cl,x)) (n := 3) rfl) rfl (by simp [callRow]) (by rw [List.length_map]; have := congrArg List.length hcd; simp at this; omega) (by rw [List.flatten_cons,List.flatten_nil,List.append_nil]; show [Value.bool _,u64 _,x].all isCell = true; rw [List.all_cons,List.all_cons,List.all_cons,hx]; rfl) fun v' H43 h43 => ?_
   repeat (refine gO ?_; intros)
   try rw [addInt]
   refine inR_nat (by first | omega | (simp only; omega)) ?_
   repeat (refine gO ?_; intros)
   show ∃ y,_∧_
   refine ⟨j + 1,by omega,hjl,c0',c3',c4',rfl,v',cd++[(plc cl,x)],rfl,?_,?_⟩
   ·rw [List.take_add_one,ecl]; simp [hcd]
   ·have e1 : cd.map callRow++[callRow (plc cl,x)] = (cd++[(plc cl,x)]).map callRow := by simp
    rw [e1] at h43
    have h44 : Sat (Vec x tEntD 3 ((cl.l.map plcE).map encE)::SatL (cd.map fun c => EntS c.2 c.1.l.toArray)::Vec v' tCl 3 ((cd++[(plc cl,x)]).map callRow)::R) H43 := h43.ent ee
    have h45 : Sat (EntS x (plc cl).l.toArray::SatL (cd.map fun c => EntS c.2 c.1.l.toArray)::Vec v' tCl 3 ((cd++[(plc cl,x)]).map callRow)::R) H43 := h44.imp fun g a => Vec.entS a
    have h46 := h45.snoc
    have e2 : (cd.map fun c => EntS c.2 c.1.l.toArray)++[EntS x (plc cl).l.toArray] = (cd++[(plc cl,x)]).map fun c => EntS c.2 c.1.l.toArray := by simp
    rw [e2] at h46
    exact h46.ent ee
  ·obtain rfl : j = cs.length := by omega
   refine Cd.f (ltZ_f (Nat.le_refl _)) ?_
   show _ = _∧_
   rw [List.take_length] at hcd
   exact ⟨rfl,v,cd,a0,a3,a4,a5,hcd,Sat.close (L1 := [_,_]) hs1 fun g a => a⟩
 ·obtain ⟨v,cd,a0,a3,a4,a5,hcd,hs1⟩ := hP
  exact k σ1 H1 v cd a0 a3 a4 a5 hcd hs1
theorem placed_ok (hc : Con con lives) {L : List HP} {H : CH} {xv : Value} {threads : List (List CallS)} {K : KP} (htl : threads.length < 1000000000) (hcl : ∀ cs ∈ threads,cs.length < 1000000000∧∀ c ∈ cs,c.l.length < 1000000000) (hq : Has L (ThrR xv threads)) (hs : Sat L H)
  (k : ∀ v td H1,(td.map fun t => t.2.map Prod.fst) = threads.map (fun cs => cs.map plc)→isCell v = true→Sat (ThrW v td::L) H1→K v H1) : Call1 Tryz.prog con 21 [xv] H K := by
 refine call_of (hc _ _ _ rfl) ?_
 rw [l29placed_W]
 obtain ⟨px,cx,ex⟩ := RowsR.len (hs.has hq)
 refine LoopC.indP (n := 200) (id := 0) (fun σ1 H1 => ∃ (v : Value) (td : List (Value × List (CallS × Value))),σ1 3 = v∧(td.map fun t => t.2.map Prod.fst) = threads.map (fun cs => cs.map plc)∧Sat (ThrW v td::L) H1) (by kernel_rfl)
  (fun (i : Nat) σ1 H1 => i ≤ threads.length∧σ1 0 = xv∧σ1 4 = iN i∧∃ (v : Value) (td : List (Value × List (CallS × Value))),σ1 3 = v∧(td.map fun t => t.2.map Prod.fst) = (threads.take i).map (fun cs => cs.map plc)∧Sat (Vec v tCls 1 (td.map fun t => [t.1])::SatL (td.map fun t => CallsW t.1 t.2)::L) H1)
  (fun i => threads.length - i) (fun i σ1 H1 hI => ?_) (fun σ1 H1 hP => ?_) 0 _ _ ⟨Nat.zero_le _,rfl,rfl,snil,[],rfl,rfl,(Sat.none hs).nilV⟩
 ·obtain ⟨hi,a0,a4,v,td,a3,htd,hs1⟩ := hI
  rw [l29placedA_W]
  simp only [a0,a4]
  refine AsLen.eq ex ?_
  repeat (refine gO ?_; intros)
  by_cases hlt : i < threads.length
  ·refine Cd.t (ltZ_t hlt) ?_
   obtain ⟨cs,ec⟩ : ∃ x,threads[i]? = some x := ⟨_,List.getElem?_eq_getElem hlt⟩
   obtain ⟨g1,g2⟩ := hcl cs (List.mem_of_getElem? ec)
   refine placedB_ok hc hlt ec g1 g2 (Has.skip (Has.skip hq)) hs1 a0 a4 rfl rfl fun σ2 H2 v2 cd c0 c3 c4 c5 hcd h2 => ?_
   show Cd _ _ _
   refine Cd.t rfl ?_
   have c3' : σ2 3 = v := c3.trans a3
   have hv2 : isCell v2 = true := by
    obtain ⟨q,rfl⟩ := (h2.has (calls_vec (Has.here fun a t => CallsW.mono a t))).shape; rfl
   simp only [c3',c4,c5]
   refine Sc.mk hv2 (nw h2 fun p6 H7 h7 => ?_)
   have hlen : (td.map fun t => [t.1]).length = i := by
    have := congrArg List.length htd
    simp at this ⊢
    omega
   refine app_vec (new := [[v2]]) h7 pp el_cls (by omega) sl_cls (Src.cell (ys := [v2]) (n := 1) rfl) rfl (by simp) (by rw [hlen]; omega) (by simp [hv2]) fun v' H9 h9 => ?_
   repeat (refine gO ?_; intros)
   try rw [addInt]
   refine inR_nat (by first | omega | (simp only; omega)) ?_
   repeat (refine gO ?_; intros)
   show ∃ y,_∧_
   refine ⟨i + 1,by omega,hlt,c0,rfl,v',td++[(v2,cd)],rfl,?_,?_⟩
   ·rw [List.take_add_one,ec]; simp [htd,hcd]
   ·have e1 : (td.map fun t => [t.1])++[[v2]] = (td++[(v2,cd)]).map fun t => [t.1] := by simp
    rw [e1] at h9
    have h10 : Sat (CallsW v2 cd::SatL (td.map fun t => CallsW t.1 t.2)::Vec v' tCls 1 ((td++[(v2,cd)]).map fun t => [t.1])::L) H9 := h9.ent ee
    have h11 := h10.snoc
    have e2 : (td.map fun t => CallsW t.1 t.2)++[CallsW v2 cd] = (td++[(v2,cd)]).map fun t => CallsW t.1 t.2 := by simp
    rw [e2] at h11
    exact h11.ent ee
  ·obtain rfl : i = threads.length := by omega
   refine Cd.f (ltZ_f (Nat.le_refl _)) ?_
   show _ = _∧_
   rw [List.take_length] at htd
   exact ⟨rfl,v,td,a3,htd,Sat.close (L1 := [_,_]) hs1 fun g a => a⟩
 ·obtain ⟨v,td,a3,htd,hs1⟩ := hP
  show Cd _ _ _
  refine Cd.t rfl ?_
  rw [a3]
  refine k v td H1 htd ?_ hs1
  obtain ⟨q,rfl⟩ := (hs1.has (thr_vec Has.thrW)).shape; rfl
end Go.Proofs.YtnkbmaccgifeoaaGreat

set_option linter.unusedVariables false
set_option linter.unusedSimpArgs false
namespace Go.Proofs.YtnkbmaccgifeoaaGreat
open Go Go.CM
attribute [local irreducible] AsBool AsWant AsNat AsInt AsCnt AsPtr AsSlc AsLen AsStr AsAgg AsTup AsFn AsIfc Nth Sc NotNil IsNil Must Cd codeW funW Sat SatL wrapN subM mkRow ltZ leZ ltN leN
attribute [local irreducible] isFunT
variable {con : CallT}
def gAt (g : G) (picks : List Int) (j : Nat) : G := (picks.take j).foldl G.pick g
theorem gAt_succ {g : G} {picks : List Int} {j : Nat} {t : Int} (h : picks[j]? = some t) : gAt g picks (j + 1) = (gAt g picks j).pick t := by
 unfold gAt
 rw [List.take_add_one,h,List.foldl_append]; rfl
theorem gAt_over {g : G} {picks : List Int} {j : Nat} (h : picks[j]? = none) : gAt g picks (j + 1) = gAt g picks j := by
 unfold gAt
 rw [List.take_add_one,h]
 simp
theorem gAt_good {calls : List (List CallS)} (hs : Short calls) {g : G} {c0 : Nat} (hc1 : 1 ≤ c0) (hf : Fin29 g.M) (h : Good calls c0 g) (picks : List Int) : ∀ j,Good calls (c0 + j) (gAt g picks j)∧Fin29 (gAt g picks j).M
 | 0 => ⟨h,hf⟩
 | j + 1 => by
  obtain ⟨h1,h2⟩ := gAt_good hs hc1 hf h picks j
  cases e : picks[j]? with
  | none => rw [gAt_over e]; exact ⟨h1.up,h2⟩
  | some t => rw [gAt_succ e]; exact ⟨good_pick hs h2 (by omega) h1 t,pick_fin h2 (by omega) hs h1 t⟩
theorem gAt_calm {g : G} (h : CalmV g.M) (picks : List Int) : ∀ j,CalmV (gAt g picks j).M
 | 0 => h
 | j + 1 => by
  have := gAt_calm h picks j
  cases e : picks[j]? with
  | none => rw [gAt_over e]; exact this
  | some t => rw [gAt_succ e]; exact (pick_nx _ t).calm this
theorem gAt_tr {g : G} (picks : List Int) : ∀ (j : Nat),(gAt g picks j).M.tr.length ≤ g.M.tr.length + j
 | 0 => Nat.le_refl _
 | j + 1 => by
  have h1 := gAt_tr (g := g) picks j
  cases h : picks[j]? with
  | none => rw [gAt_over h]; omega
  | some t =>
   rw [gAt_succ h]
   have h2 := (pick_nx (gAt g picks j) t).tr.2
   omega
theorem stepRun_ok (hc : Con con lives) {picks : List Int} {calls : List (List CallS)} (hsh : Short calls) {g : G} {c0 : Nat} (hc1 : 1 ≤ c0) (hg : Good calls c0 g) (hf : Fin29 g.M) (hcc : c0 + picks.length < 100000000) {L R : List HP} {H : CH} {r m : Nat} {xw tv : Value} {pv : List Value} {prs : List (List Value)} {q0 : List Nat} {qs : List (Nat × Nat)} {K : KP}
  (hs : Sat (RunAt r m tv pv prs g.ths (vwsOf q0) 0 0::MemP m g.M::SatL (viewsB m 0 qs)::SatL (objsL prs g.st)::IntsR xw picks::R) H)
  (hq : qs.map Prod.fst = q0) (hql : q0.length = calls.length) (hpl : prs.map List.length = calls.map List.length) (hqn : ∀ x ∈ qs,x.2 ≤ 0) (htr : g.M.tr.length ≤ 10) (hpk : picks.length < 100000000)
  (k : ∀ H1,Sat (MemP m (gAt g picks picks.length).M::SatL (objsL prs (gAt g picks picks.length).st)::IntsR xw picks::R) H1→K unit H1) : Call1 Tryz.prog con 52 [ptr r 0,xw] H K := by
 refine call_of (hc _ _ _ rfl) ?_
 rw [stepRun_W]
 obtain ⟨px,cx,ex⟩ := (hs.has (Has.skip (Has.skip (Has.skip (Has.skip (Has.here fun a t => IntsR.mono a t)))))).len
 subst ex
 repeat (refine gO ?_; intros)
 refine LoopC.indP (n := 100) (id := 0) (fun σ H => Sat (MemP m (gAt g picks picks.length).M::SatL (objsL prs (gAt g picks picks.length).st)::IntsR (.slice px picks.length cx) picks::R) H) (by kernel_rfl)
  (fun (j : Nat) σ H => σ 0 = ptr r 0∧σ 6 = .slice px picks.length cx∧σ 7 = iN picks.length∧σ 8 = iN j∧j ≤ picks.length∧∃ T qs,qs.map Prod.fst = q0∧(∀ x ∈ qs,x.2 ≤ j)∧T ≤ (gAt g picks j).M.tr.length ∧
   Sat (RunAt r m tv pv prs (gAt g picks j).ths (vwsOf q0) j T::MemP m (gAt g picks j).M::SatL (viewsB m 0 qs)::SatL (objsL prs (gAt g picks j).st)::IntsR (.slice px picks.length cx) picks::R) H) (fun j => picks.length - j) (fun j σ H hI => ?_) (fun σ H hP => ?_) 0 _ _
  ⟨rfl,rfl,rfl,rfl,Nat.zero_le _,0,qs,hq,hqn,Nat.zero_le _,hs⟩
 ·obtain ⟨e0,e6,e7,e8,hj,T,qs,hq,hqn,hT,hs1⟩ := hI
  rw [stepRunL_W]
  simp only [e0,e6,e7,e8]
  repeat (refine gO ?_; intros)
  by_cases hlt : j < picks.length
  ·refine Cd.t (ltZ_t hlt) ?_
   obtain ⟨t,et⟩ : ∃ x,picks[j]? = some x := ⟨_,List.getElem?_eq_getElem hlt⟩
   obtain ⟨b,c,cs,eb,_,ecs,hld⟩ := rows_at hs1 (Has.skip (Has.skip (Has.skip (Has.skip (Has.here fun a t => IntsR.mono a t))))) et
   injection eb with eb _ _
   subst eb
   repeat (refine gO ?_; intros)
   refine Must.mk (ltN_t hlt) ?_
   refine hld _ 0 _ _ (by show 0 + j * 1 = _; omega) (by rw [ecs]; rfl) ?_
   refine run_pick (L := []) hc hsh (gAt_good hsh hc1 hf hg picks j).1 (gAt_good hsh hc1 hf hg picks j).2 (by omega) hs1 hq hql hpl (by omega) hqn hT (by have := gAt_tr (g := g) picks j; omega) fun b' H1 T' qs' hq' hqn' hT' h1 => ?_
   rw [← gAt_succ et] at h1 hT'
   repeat (refine gO ?_; intros)
   rw [addInt]
   refine inR_nat (n := j + 1) (by omega) ?_
   show ∃ y,_∧_
   exact ⟨j + 1,by omega,e0,e6,e7,rfl,hlt,T',qs',hq',hqn',hT',h1⟩
  ·refine Cd.f (ltZ_f (by omega)) ?_
   show _ = _∧_
   have : j = picks.length := by omega
   subst this
   exact ⟨rfl,hs1.ent ee⟩
 ·show Cd _ _ _
  refine Cd.t (eqN_self 0) ?_
  exact k _ hP
abbrev tEntM : Nat := 142
theorem el_entM : elemOk Tryz.prog 128 tEntM 3 24 = true := by kernel_rfl
theorem sl_entM : ∃ e,Tryz.prog.underlying 128 = some (.slice e) := ⟨_,(elemOk.out el_entM).1⟩
theorem l29entries_ok (hc : Con con lives) {L : List HP} {H : CH} {v : Value} {d : Array E3} {K : KP} (hs : Sat L H) (hq : Has L (EntS v d)) (hd : d.size < 1000000000) (k : ∀ x H1,Sat (Vec x tEntM 3 (d.toList.map encE)::L) H1→K x H1) : Call1 Tryz.prog con 36 [v] H K := by
 refine call_of (hc _ _ _ rfl) ?_
 rw [l29entries_W]
 obtain ⟨pv,cv,hv⟩ := (hs.has hq).len
 refine LoopC.indP (n := 200) (id := 0) (fun σ1 H1 => ∃ x,σ1 3 = x∧Sat (Vec x tEntM 3 (d.toList.map encE)::L) H1) (by kernel_rfl)
  (fun (i : Nat) σ1 H1 => i ≤ d.size∧σ1 0 = v∧σ1 4 = iN i∧∃ x,σ1 3 = x∧Sat (Vec x tEntM 3 ((d.toList.take i).map encE)::L) H1)
  (fun i => d.size - i) (fun i σ1 H1 hI => ?_) (fun σ1 H1 hP => ?_) 0 _ _ ⟨Nat.zero_le _,rfl,rfl,snil,rfl,hs.nilV⟩
 ·obtain ⟨hi,a0,a4,x,a3,hs1⟩ := hI
  rw [l29entriesL_W]
  simp only [a0,a4,a3]
  refine AsLen.eq hv ?_
  repeat (refine gO ?_; intros)
  by_cases hlt : i < d.size
  ·refine Cd.t (ltZ_t hlt) ?_
   obtain ⟨b,c,hv2,hsrc⟩ := EntS.row hs1 (Has.skip hq) hlt
   subst hv2
   repeat (refine gO ?_; intros)
   refine Must.mk (ltN_t hlt) (ldEj hs1 hsrc hlt (by omega) rfl ?_)
   repeat (refine gO ?_; intros)
   refine Must.mk (ltN_t hlt) (ldEj hs1 hsrc hlt (by omega) rfl ?_)
   repeat (refine gO ?_; intros)
   refine Must.mk (ltN_t hlt) (ldEj hs1 hsrc hlt (by omega) rfl ?_)
   repeat (refine gO ?_; intros)
   rename_i p21 H22 h22
   refine app_vec (new := [encE d[i]!]) h22 pp el_entM (by omega) sl_entM (Src.cell (ys := encE d[i]!) (n := 3) rfl) rfl (by simp [encE]) (by rw [List.length_map,List.length_take,Array.length_toList]; omega) rfl fun v' H24 h24 => ?_
   repeat (refine gO ?_; intros)
   try rw [addInt]
   refine inR_nat (by first | omega | (simp only; omega)) ?_
   repeat (refine gO ?_; intros)
   show ∃ y,_∧_
   refine ⟨i + 1,by omega,hlt,a0,rfl,v',rfl,?_⟩
   have e1 : (d.toList.take (i + 1)).map encE = (d.toList.take i).map encE++[encE d[i]!] := by
    rw [List.take_add_one,List.getElem?_eq_getElem (by rw [Array.length_toList]; exact hlt),getA]; simp
   rw [e1]
   exact h24.ent ee
  ·obtain rfl : i = d.size := by omega
   refine Cd.f (ltZ_f (Nat.le_refl _)) ?_
   show _ = _∧_
   rw [List.take_of_length_le (by rw [Array.length_toList]; exact Nat.le_refl _)] at hs1
   exact ⟨rfl,x,a3,hs1⟩
 ·obtain ⟨x,a3,hs1⟩ := hP
  show Cd _ _ _
  refine Cd.t rfl ?_
  rw [a3]
  exact k x H1 hs1
theorem newMulti_ok (hc : Con con lives) {L : List HP} {H : CH} {v : Value} {l : List E3} {K : KP} (hs : Sat L H) (hq : Has L (Vec v tEntM 3 (l.map encE))) (hl : l.length < 1000000000) (k : ∀ p H1,Sat (MuAt p ⟨l,0,0,[],false,0⟩::L) H1→K (ptr p 0) H1) : Call1 Tryz.prog con 35 [v] H K := by
 refine call_of (hc _ _ _ rfl) ?_
 rw [newMulti_W]
 refine call_of (hc _ _ _ rfl) ?_
 rw [cloneEnt_W]
 have fin : ∀ v' H2,isCell v' = true→Sat (EntA v' l.toArray::L) H2→Sc v' (Nw H2 (mkRow 141 0 [v',(.int .i64 (Int.ofNat 0)),(.int .u64 (Int.ofNat 0)),(.pointer none),(.bool false),(.int .i64 (Int.ofNat 0))]) fun p3 H4 => K (ptr p3 0) H4) := fun v' H2 hv' h2 => by
  refine Sc.mk hv' (nw h2 fun p H3 h3 => k p H3 ?_)
  exact Sat.close (L1 := [Own p (muC v' 0 0 (.pointer none) false 0),EntA v' l.toArray]) (h3.ent ee) fun g a => .inl ⟨rfl,rfl,rfl,rfl,v',l.toArray,rfl,a⟩
 rcases (hs.has hq) with ⟨h8,⟨rfl,hnil⟩ | ⟨b,h1,rfl,h3⟩⟩
 ·refine IsNil.slc0 (Cd.t rfl ?_)
  refine fin snil H rfl (hs.triv fun g => .inl ⟨?_,none,rfl⟩)
  rw [List.size_toArray,List.map_eq_nil_iff.1 hnil]; rfl
 ·refine IsNil.slc (Cd.f rfl ?_)
  refine nwR hs fun p H1 hp1 => ?_
  have hlm : (l.map encE).length = l.length := List.length_map ..
  have hpos : 0 < l.length := by cases l with | nil => contradiction | cons _ _ => simp
  refine app_clone (new := l.map encE) hp1 el_entM (by omega) sl_entM (hq.vecSrc rfl) rfl h8 (by omega) (by omega) fun v' H2 h2 => ?_
  obtain ⟨q,hv'⟩ := (h2.has Has.vec).shape
  refine fin v' H2 (by rw [hv']; rfl) (h2.imp fun g a => ?_)
  rcases a.2 with ⟨_,a2⟩ | ⟨b',q1,q2,q3⟩
  ·exact absurd a2 h1
  ·refine .inr ⟨by rw [List.size_toArray]; exact hpos,b',tEntM,3,by rw [q2,hlm,List.size_toArray],?_⟩
   exact q3
theorem newRead_ok (hc : Con con lives) {L : List HP} {H : CH} {x : Nat} {K : KP} (hs : Sat L H) (k : ∀ p H1,Sat (RdAt p ⟨x,0,sett0 0,[],0⟩::L) H1→K (ptr p 0) H1) : Call1 Tryz.prog con 34 [u64 x] H K := by
 refine call_of (hc _ _ _ rfl) ?_
 rw [newRead_W]
 exact nw hs fun p H1 h1 => k p H1 (h1.imp fun g a => .inl ⟨rfl,a⟩)
abbrev nilP : Value := .pointer none
def pairV (v : Value) : List Value := match v with | .iface t x => if t = 38 then [x,nilP] else [nilP,x] | _ => []
theorem l29begin_ok (hc : Con con lives) (c : CallS) {L : List HP} {H : CH} {xl : Value} {K : KP} (hs : Sat L H) (hq : Has L (EntS xl c.l.toArray)) (hl : c.l.length < 1000000000)
  (k : ∀ v x y H1,pairV v = [x,y]→isCell x = true→isCell y = true→Sat (PrcAt v c.fresh::L) H1→K (.tuple ⟨[.agg ⟨[x,y]⟩,v]⟩) H1) : Call1 Tryz.prog con 11 [.agg ⟨[.bool c.rd,u64 c.addr,xl]⟩] H K := by
 refine call_of (hc _ _ _ rfl) ?_
 rw [l29begin_W]
 refine nw hs fun p1 H1 h1 => ?_
 refine nw h1 fun p3 H3 h3 => ?_
 repeat (refine gO ?_; intros)
 unfold CallS.fresh at k
 cases hr : c.rd with
 | true =>
  rw [hr] at k
  refine Cd.t rfl ?_
  repeat (refine gO ?_; intros)
  refine newRead_ok hc h3 fun p H9 h9 => ?_
  repeat (refine gO ?_; intros)
  refine stN h9 (Nat.le_of_ble_eq_true rfl) rfl fun H10 h10 => ?_
  repeat (refine gO ?_; intros)
  refine k (.iface 39 (ptr p 0)) nilP (ptr p 0) H10 rfl rfl rfl ?_
  have h11 : Sat (RdAt p ⟨c.addr,0,sett0 0,[],0⟩::L) H10 := h10.ent ee
  exact h11.imp fun g a => ⟨p,rfl,a⟩
 | false =>
  rw [hr] at k
  refine Cd.f rfl ?_
  refine ld h3 rfl ?_
  refine l29entries_ok hc h3 (Has.skip (Has.skip hq)) (by rw [List.size_toArray]; exact hl) fun x H15 h15 => ?_
  refine newMulti_ok (l := c.l) hc h15 Has.vec hl fun p H17 h17 => ?_
  repeat (refine gO ?_; intros)
  refine stN h17 (Nat.le_of_ble_eq_true rfl) rfl fun H18 h18 => ?_
  repeat (refine gO ?_; intros)
  refine k (.iface 38 (ptr p 0)) (ptr p 0) nilP H18 rfl rfl rfl ?_
  have h19 : Sat (MuAt p ⟨c.l,0,0,[],false,0⟩::L) H18 := h18.ent ee
  exact h19.imp fun g a => ⟨p,rfl,a⟩
end Go.Proofs.YtnkbmaccgifeoaaGreat

set_option linter.unusedVariables false
set_option linter.unusedSimpArgs false
namespace Go.Proofs.YtnkbmaccgifeoaaGreat
open Go Go.CM
attribute [local irreducible] AsBool AsWant AsNat AsInt AsCnt AsPtr AsSlc AsLen AsStr AsAgg AsTup AsFn AsIfc Nth Sc NotNil IsNil Must Cd codeW funW Sat SatL wrapN subM mkRow ltZ leZ ltN leN
attribute [local irreducible] isFunT
variable {con : CallT}
abbrev tPsP : Nat := 41
abbrev tPsPS : Nat := 84
theorem el_psp : elemOk Tryz.prog tPsPS tPsP 2 16 = true := by kernel_rfl
theorem sl_psp : ∃ e,Tryz.prog.underlying tPsPS = some (.slice e) := ⟨_,(elemOk.out el_psp).1⟩
theorem el_psps : elemOk Tryz.prog 77 tPsPS 1 24 = true := by kernel_rfl
theorem sl_psps : ∃ e,Tryz.prog.underlying 77 = some (.slice e) := ⟨_,(elemOk.out el_psps).1⟩
theorem el_pss : elemOk Tryz.prog 150 151 1 24 = true := by kernel_rfl
theorem sl_pss : ∃ e,Tryz.prog.underlying 150 = some (.slice e) := ⟨151,by kernel_rfl⟩
theorem IfcOk.pair {v : Value} (h : IfcOk v) : (pairV v).length = 2 := by
 obtain ⟨t,p,rfl,h⟩ := h
 unfold pairV
 simp only
 split <;> rfl
theorem l29runB_ok (hc : Con con lives) {R : List HP} {H : CH} {i : Nat} {tv : Value} {td : List (Value × List (CallS × Value))} {t : Value × List (CallS × Value)} {σ : TF} {Q : KX} (et : td[i]? = some t) (hcl : t.2.length < 1000000000) (htl : td.length < 1000000000) (hll : ∀ c ∈ t.2,c.1.l.length < 1000000000) (hT : Has R (ThrW tv td)) (hs : Sat R H)
  (e1 : σ 1 = tv) (e10 : σ 10 = iN i) (e11 : σ 11 = snil) (e12 : σ 12 = snil) (e13 : σ 13 = iN 0)
  (k : ∀ σ1 H1 pv sv l,σ1 0 = σ 0→σ1 1 = tv→σ1 2 = σ 2→σ1 8 = σ 8→σ1 9 = σ 9→σ1 10 = iN i→σ1 11 = pv→σ1 12 = sv→l.length = t.2.length→(∀ x ∈ l,IfcOk x) →
   Sat (Vec pv tPsP 2 (l.map pairV)::Vec sv 43 1 (l.map fun x => [x])::SatL (List.zipWith PrcAt l (t.2.map fun c => c.1.fresh))::R) H1→Q (.exit 2) σ1 H1) :
  LoopC Tryz.prog con (lpAt Tryz.prog 22 1) σ H Q := by
 have hit : i < td.length := (List.getElem?_eq_some_iff.1 et).1
 have hlen : (td.map fun t => [t.1]).length = td.length := List.length_map ..
 refine LoopC.indP (n := 300) (id := 2) (fun σ1 H1 => ∃ pv sv l,σ1 0 = σ 0∧σ1 1 = tv∧σ1 2 = σ 2∧σ1 8 = σ 8∧σ1 9 = σ 9∧σ1 10 = iN i∧σ1 11 = pv∧σ1 12 = sv∧l.length = t.2.length∧(∀ x ∈ l,IfcOk x) ∧
   Sat (Vec pv tPsP 2 (l.map pairV)::Vec sv 43 1 (l.map fun x => [x])::SatL (List.zipWith PrcAt l (t.2.map fun c => c.1.fresh))::R) H1) (by kernel_rfl)
  (fun (j : Nat) σ1 H1 => j ≤ t.2.length∧σ1 13 = iN j∧∃ pv sv l,σ1 0 = σ 0∧σ1 1 = tv∧σ1 2 = σ 2∧σ1 8 = σ 8∧σ1 9 = σ 9∧σ1 10 = iN i∧σ1 11 = pv∧σ1 12 = sv∧l.length = j∧(∀ x ∈ l,IfcOk x) ∧
   Sat (Vec pv tPsP 2 (l.map pairV)::Vec sv 43 1 (l.map fun x => [x])::SatL (List.zipWith PrcAt l ((t.2.take j).map fun c => c.1.fresh))::R) H1)
  (fun j => t.2.length - j) (fun j σ1 H1 hI => ?_) (fun σ1 H1 hP => ?_) 0 _ _ ⟨Nat.zero_le _,e13,snil,snil,[],rfl,e1,rfl,rfl,rfl,e10,e11,e12,rfl,(fun x hx => nomatch hx),((Sat.none hs).nilV.nilV).ent ee⟩
 ·obtain ⟨hj,a13,pv,sv,l,a0,a1,a2,a8,a9,a10,a11,a12,hll1,hifc,hs1⟩ := hI
  rw [l29runB_W]
  simp only [a1,a10,a13,a11,a12]
  have hT1 : Has (Vec pv tPsP 2 (l.map pairV)::Vec sv 43 1 (l.map fun x => [x])::SatL (List.zipWith PrcAt l ((t.2.take j).map fun c => c.1.fresh))::R) (ThrW tv td) := Has.skip (Has.skip (Has.skip hT))
  have hr : (td.map fun t => [t.1])[i]? = some [t.1] := by rw [List.getElem?_map,et]; rfl
  obtain ⟨b,hb,_⟩ := (hs1.has (thr_vec hT1)).slot hr
  rw [hlen] at hb
  subst hb
  have hC := thr_at hT1 et
  obtain ⟨pl,hpl⟩ := (hs1.has (calls_vec hC)).shape
  rw [List.length_map] at hpl
  repeat (refine gO ?_; intros)
  refine Must.mk (ltN_t hit) ?_
  refine ldVec hs1 (thr_vec hT1) rfl hr (j := 0) (by show 0 + i * 1 = _; omega) (by omega) rfl ?_
  refine AsLen.eq hpl ?_
  repeat (refine gO ?_; intros)
  by_cases hlt : j < t.2.length
  ·refine Cd.t (ltZ_t hlt) ?_
   obtain ⟨c,ecj⟩ : ∃ c,t.2[j]? = some c := ⟨_,List.getElem?_eq_getElem hlt⟩
   have hrc : (t.2.map callRow)[j]? = some (callRow c) := by rw [List.getElem?_map,ecj]; rfl
   obtain ⟨bc,hbc,_⟩ := (hs1.has (calls_vec hC)).slot hrc
   rw [List.length_map] at hbc
   repeat (refine gO ?_; intros)
   refine Must.mk (ltN_t hit) ?_
   refine ldVec hs1 (thr_vec hT1) rfl hr (j := 0) (by show 0 + i * 1 = _; omega) (by omega) rfl ?_
   refine AsSlc.eq hbc ?_
   repeat (refine gO ?_; intros)
   refine Must.mk (ltN_t hlt) ?_
   refine ldVec hs1 (calls_vec hC) hbc hrc (j := 0) (by show 0 + j * 3 + 0 = _; omega) (by omega) rfl ?_
   refine ldVec hs1 (calls_vec hC) hbc hrc (j := 1) (by show 0 + j * 3 + 1 = _; omega) (by omega) rfl ?_
   refine ldVec hs1 (calls_vec hC) hbc hrc (j := 2) (by show 0 + j * 3 + 2 = _; omega) (by omega) rfl ?_
   refine l29begin_ok hc c.1 hs1 (calls_at hC ecj) (hll c (List.mem_of_getElem? ecj)) fun v x y H24 hxy hx hy h24 => ?_
   have hv : IfcOk v := (h24.has (Has.here fun a t => prc_mono a t)).ifc
   repeat (refine gO ?_; intros)
   rename_i p29 H30 h30
   refine stN h30 (Nat.le_of_ble_eq_true rfl) (by rw [List.all_cons,List.all_cons,hx,hy]; rfl) fun H34 h34 => ?_
   repeat (refine gO ?_; intros)
   rename_i p37 H38 h38
   refine app_vec (new := [[x,y]]) h38 pp el_psp (by omega) sl_psp (Src.cell (ys := [x,y]) (n := 2) rfl) rfl (by simp) (by rw [List.length_map]; omega) (by rw [List.flatten_cons,List.flatten_nil,List.append_nil,List.all_cons,List.all_cons,hx,hy]; rfl) fun v39 H40 h40 => ?_
   refine Sc.mk hv.cell (nw h40 fun p41 H42 h42 => ?_)
   refine app_vec (new := [[v]]) h42 pp el_pr (by omega) sl_pr (Src.cell (ys := [v]) (n := 1) rfl) rfl (by simp) (by rw [List.length_map]; omega) (by simp [hv.cell]) fun v43 H44 h44 => ?_
   repeat (refine gO ?_; intros)
   try rw [addInt]
   refine inR_nat (by first | omega | (simp only; omega)) ?_
   repeat (refine gO ?_; intros)
   show ∃ y,_∧_
   refine ⟨j + 1,by omega,hlt,rfl,v39,v43,l++[v],a0,a1,a2,a8,a9,a10,rfl,rfl,by simp [hll1],fun z hz => ?_,?_⟩
   ·rcases List.mem_append.1 hz with h | h
    ·exact hifc z h
    ·rw [List.mem_singleton.1 h]; exact hv
   ·have q1 : l.map pairV++[[x,y]] = (l++[v]).map pairV := by rw [List.map_append,List.map_cons,List.map_nil,hxy]
    have q2 : (l.map fun x => [x])++[[v]] = (l++[v]).map fun x => [x] := by simp
    have q3 : List.zipWith PrcAt l ((t.2.take j).map fun c => c.1.fresh)++[PrcAt v c.1.fresh] = List.zipWith PrcAt (l++[v]) ((t.2.take (j + 1)).map fun c => c.1.fresh) := by
     rw [List.take_add_one,ecj]
     simp only [Option.toList_some,List.map_append,List.map_cons,List.map_nil]
     rw [List.zipWith_append (by simp; omega)]; rfl
    rw [q2] at h44
    have h45 : Sat (PrcAt v c.1.fresh::SatL (List.zipWith PrcAt l ((t.2.take j).map fun c => c.1.fresh))::Vec v39 tPsP 2 (l.map pairV++[[x,y]])::Vec v43 43 1 ((l++[v]).map fun x => [x])::R) H44 := h44.ent ee
    rw [q1] at h45
    have h46 := h45.snoc
    rw [q3] at h46
    exact h46.ent ee
  ·obtain rfl : j = t.2.length := by omega
   refine Cd.f (ltZ_f (Nat.le_refl _)) ?_
   show _ = _∧_
   rw [List.take_length] at hs1
   exact ⟨rfl,pv,sv,l,a0,a1,a2,a8,a9,a10,a11,a12,hll1,hifc,hs1⟩
 ·obtain ⟨pv,sv,l,a0,a1,a2,a8,a9,a10,a11,a12,hll1,hifc,hs1⟩ := hP
  exact k σ1 H1 pv sv l a0 a1 a2 a8 a9 a10 a11 a12 hll1 hifc hs1
def psL (pvs : List Value) (prs : List (List Value)) : List HP := List.zipWith (fun v l => Vec v tPsP 2 (l.map pairV)) pvs prs
theorem psL_snoc {pvs : List Value} {prs : List (List Value)} {v : Value} {l : List Value} (h : pvs.length = prs.length) : psL (pvs++[v]) (prs++[l]) = psL pvs prs++[Vec v tPsP 2 (l.map pairV)] := by
 unfold psL; rw [List.zipWith_append h]; rfl
theorem objs_snoc {prs : List (List Value)} {st : List (List PrS)} {l : List Value} {ss : List PrS} (h : prs.length = st.length) : objsL (prs++[l]) (st++[ss]) = objsL prs st++[SatL (List.zipWith PrcAt l ss)] := by
 unfold objsL; rw [List.zipWith_append h]; rfl
abbrev callsOf (td : List (Value × List (CallS × Value))) : List (List CallS) := td.map fun t => t.2.map Prod.fst
def longC (calls : List (List CallS)) : Bool := calls.any fun l => decide (4096 < l.length)
def stT (td : List (Value × List (CallS × Value))) : List (List PrS) := td.map fun t => t.2.map fun c => c.1.fresh
def PsP (pss : Value) (pvs : List Value) (prs : List (List Value)) : HP := fun h => (pvs.length = prs.length∧∀ l ∈ prs,∀ x ∈ l,IfcOk x)∧SatL [Vec pss tPsPS 1 (pvs.map fun x => [x]),SatL (psL pvs prs)] h
theorem l29run_ok (hc : Con con lives) {R : List HP} {H : CH} {m : Nat} {tv xw : Value} {td : List (Value × List (CallS × Value))} {picks : List Int} {M : Mem} {K : KP} (htl : td.length < 1000000000) (hcl : ∀ t ∈ td,t.2.length < 1000000000∧∀ c ∈ t.2,c.1.l.length < 1000000000) (hbd : ∀ cs ∈ callsOf td,∀ c ∈ cs,∀ e ∈ c.l,e.a < 18446744073709551616)
  (hT : Has R (ThrW tv td)) (hs : Sat (MemP m M::IntsR xw picks::R) H) (hf : Fin29 M) (htr : M.tr.length ≤ 10) (hpk : picks.length < 90000000)
  (kbad : (64 < td.length ∨ longC (callsOf td) = true)→∀ H1,Sat (MemP m M::IntsR xw picks::R) H1→K (.tuple ⟨[snil,nilP]⟩) H1)
  (k : td.length ≤ 64→longC (callsOf td) = false→Short (callsOf td)→∀ pss pvs prs rr H1,prs.map List.length = (callsOf td).map List.length→Sat (MemP m (gAt (g0 M (callsOf td)) picks picks.length).M::SatL (objsL prs (gAt (g0 M (callsOf td)) picks picks.length).st)::PsP pss pvs prs::IntsR xw picks::R) H1→K (.tuple ⟨[pss,ptr rr 0]⟩) H1) :
  Call1 Tryz.prog con 22 [ptr m 0,tv,xw] H K := by
 refine call_of (hc _ _ _ rfl) ?_
 rw [l29run_W]
 have hlen : (td.map fun t => [t.1]).length = td.length := List.length_map ..
 have hT2 : Has (MemP m M::IntsR xw picks::R) (ThrW tv td) := Has.skip (Has.skip hT)
 obtain ⟨px,hpx⟩ := (hs.has (thr_vec hT2)).shape
 rw [hlen] at hpx
 refine LoopC.indP (n := 300) (id := 0) (fun σ1 H1 => ∃ pss tss pvs lvs prs,σ1 0 = ptr m 0∧σ1 2 = xw∧σ1 8 = pss∧σ1 9 = tss∧pvs.length = prs.length∧lvs.length = prs.length∧prs.map List.length = (callsOf td).map List.length∧(∀ l ∈ prs,∀ x ∈ l,IfcOk x) ∧
   Sat (Vec pss tPsPS 1 (pvs.map fun x => [x])::SatL (psL pvs prs)::Vec tss 151 1 (lvs.map fun x => [x])::SatL (procsL lvs prs)::SatL (objsL prs (stT td))::MemP m M::IntsR xw picks::R) H1) (by kernel_rfl)
  (fun (i : Nat) σ1 H1 => i ≤ td.length∧σ1 0 = ptr m 0∧σ1 1 = tv∧σ1 2 = xw∧σ1 10 = iN i∧∃ pss tss pvs lvs prs,σ1 8 = pss∧σ1 9 = tss∧prs.length = i∧pvs.length = prs.length∧lvs.length = prs.length∧prs.map List.length = (callsOf (td.take i)).map List.length∧(∀ l ∈ prs,∀ x ∈ l,IfcOk x) ∧
   Sat (Vec pss tPsPS 1 (pvs.map fun x => [x])::SatL (psL pvs prs)::Vec tss 151 1 (lvs.map fun x => [x])::SatL (procsL lvs prs)::SatL (objsL prs (stT (td.take i)))::MemP m M::IntsR xw picks::R) H1)
  (fun i => td.length - i) (fun i σ1 H1 hI => ?_) (fun σ1 H1 hP => ?_) 0 _ _ ⟨Nat.zero_le _,rfl,rfl,rfl,rfl,snil,snil,[],[],[],rfl,rfl,rfl,rfl,rfl,rfl,(fun l hl => nomatch hl),((Sat.none (Sat.none (Sat.none hs))).nilV.nilV).ent ee⟩
 ·obtain ⟨hi,a0,a1,a2,a10,pss,tss,pvs,lvs,prs,a8,a9,hpi,hpv,hlv,hpl,hifc,hs1⟩ := hI
  rw [l29runA_W]
  simp only [a1,a10]
  refine AsLen.eq hpx ?_
  repeat (refine gO ?_; intros)
  by_cases hlt : i < td.length
  ·refine Cd.t (ltZ_t hlt) ?_
   obtain ⟨t,et⟩ : ∃ x,td[i]? = some x := ⟨_,List.getElem?_eq_getElem hlt⟩
   obtain ⟨g1,g2⟩ := hcl t (List.mem_of_getElem? et)
   refine l29runB_ok hc (tv := tv) (td := td) et g1 htl g2 (Has.skip (Has.skip (Has.skip (Has.skip (Has.skip (Has.skip (Has.skip hT))))))) hs1 a1 a10 rfl rfl rfl fun σ2 H2 pv sv l c0 c1 c2 c8 c9 c10 c11 c12 hl hfc h2 => ?_
   show Cd _ _ _
   refine Cd.t rfl ?_
   have c8' : σ2 8 = pss := c8.trans a8
   have c9' : σ2 9 = tss := c9.trans a9
   have c0' : σ2 0 = ptr m 0 := c0.trans a0
   have c2' : σ2 2 = xw := c2.trans a2
   have hpc : isCell pv = true := by obtain ⟨q,rfl⟩ := (h2.has Has.vec).shape; rfl
   have hsc : isCell sv = true := by obtain ⟨q,rfl⟩ := (h2.has (Has.skip Has.vec)).shape; rfl
   obtain ⟨qs,hqs⟩ := (h2.has (Has.skip Has.vec)).shape
   rw [List.length_map] at hqs
   simp only [c8',c9',c10,c11,c12]
   refine Sc.mk hpc (nw h2 fun p6 H7 h7 => ?_)
   refine app_vec (x := pss) (new := [[pv]]) h7 pp el_psps (by omega) sl_psps (Src.cell (ys := [pv]) (n := 1) rfl) rfl (by simp) (by rw [List.length_map]; omega) (by simp [hpc]) fun v8 H9 h9 => ?_
   refine Sc.mk hsc (nw h9 fun p10 H11 h11 => ?_)
   refine app_vec (x := tss) (new := [[sv]]) h11 pp el_pss (by omega) sl_pss (Src.cell (ys := [sv]) (n := 1) rfl) rfl (by simp) (by rw [List.length_map]; omega) (by simp [hsc]) fun v12 H13 h13 => ?_
   repeat (refine gO ?_; intros)
   try rw [addInt]
   refine inR_nat (by first | omega | (simp only; omega)) ?_
   repeat (refine gO ?_; intros)
   show ∃ y,_∧_
   refine ⟨i + 1,by omega,hlt,c0',c1,c2',rfl,v8,v12,pvs++[pv],lvs++[sv],prs++[l],rfl,rfl,by simp [hpi],by simp [hpv],by simp [hlv],?_,?_,?_⟩
   ·rw [List.take_add_one,et]; simp [hpl,hl]
   ·intro z hz
    rcases List.mem_append.1 hz with h | h
    ·exact hifc z h
    ·rw [List.mem_singleton.1 h]; exact hfc
   ·have q1 : (pvs.map fun x => [x])++[[pv]] = (pvs++[pv]).map fun x => [x] := by simp
    have q2 : (lvs.map fun x => [x])++[[sv]] = (lvs++[sv]).map fun x => [x] := by simp
    have q3 : procsL lvs prs++[Vec sv 43 1 (l.map fun x => [x])] = procsL (lvs++[sv]) (prs++[l]) := (procsL_snoc hlv).symm
    have q4 : objsL prs (stT (td.take i))++[SatL (List.zipWith PrcAt l (t.2.map fun c => c.1.fresh))] = objsL (prs++[l]) (stT (td.take (i + 1))) := by
     rw [List.take_add_one,et]
     simp only [stT,Option.toList_some,List.map_append,List.map_cons,List.map_nil]
     rw [objs_snoc (by simp; omega)]
    have q5 : psL pvs prs++[Vec pv tPsP 2 (l.map pairV)] = psL (pvs++[pv]) (prs++[l]) := (psL_snoc hpv).symm
    rw [q2] at h13
    have h14 : Sat (Vec pv tPsP 2 (l.map pairV)::SatL (psL pvs prs)::Vec v8 tPsPS 1 ((pvs.map fun x => [x])++[[pv]])::Vec sv 43 1 (l.map fun x => [x])::SatL (procsL lvs prs)::SatL (List.zipWith PrcAt l (t.2.map fun c => c.1.fresh))::SatL (objsL prs (stT (td.take i)))::Vec v12 151 1 ((lvs++[sv]).map fun x => [x])::MemP m M::IntsR xw picks::R) H13 := h13.ent ee
    have h15 := h14.snoc
    rw [q5,q1] at h15
    have h16 : Sat (Vec sv 43 1 (l.map fun x => [x])::SatL (procsL lvs prs)::SatL (List.zipWith PrcAt l (t.2.map fun c => c.1.fresh))::SatL (objsL prs (stT (td.take i)))::SatL (psL (pvs++[pv]) (prs++[l]))::Vec v8 tPsPS 1 ((pvs++[pv]).map fun x => [x])::Vec v12 151 1 ((lvs++[sv]).map fun x => [x])::MemP m M::IntsR xw picks::R) H13 := h15.ent ee
    have h17 := h16.snoc
    rw [q3] at h17
    have h18 : Sat (SatL (List.zipWith PrcAt l (t.2.map fun c => c.1.fresh))::SatL (objsL prs (stT (td.take i)))::SatL (procsL (lvs++[sv]) (prs++[l]))::SatL (psL (pvs++[pv]) (prs++[l]))::Vec v8 tPsPS 1 ((pvs++[pv]).map fun x => [x])::Vec v12 151 1 ((lvs++[sv]).map fun x => [x])::MemP m M::IntsR xw picks::R) H13 := h17.ent ee
    have h19 := h18.snoc
    rw [q4] at h19
    exact h19.ent ee
  ·obtain rfl : i = td.length := by omega
   refine Cd.f (ltZ_f (Nat.le_refl _)) ?_
   show _ = _∧_
   rw [List.take_length] at hpl hs1
   exact ⟨rfl,pss,tss,pvs,lvs,prs,a0,a2,a8,a9,hpv,hlv,hpl,hifc,hs1⟩
 ·obtain ⟨pss,tss,pvs,lvs,prs,a0,a2,a8,a9,hpv,hlv,hpl,hifc,hs1⟩ := hP
  have elen : prs.length = td.length := by have := congrArg List.length hpl; simpa using this
  have elong : longB prs = longC (callsOf td) := by
   have e1 : prs.any (fun l => decide (4096 < l.length)) = (prs.map List.length).any (fun n => decide (4096 < n)) := by rw [List.any_map]; rfl
   have e2 : ∀ cs : List (List CallS),cs.any (fun l => decide (4096 < l.length)) = (cs.map List.length).any (fun n => decide (4096 < n)) := fun cs => by rw [List.any_map]; rfl
   unfold longB longC
   rw [e1,e2,hpl]
  show Cd _ _ _
  refine Cd.t (eqN_self 0) ?_
  simp only [a0,a2,a8,a9]
  refine stepNew_ok hc hs1 (Has.skip (Has.skip Has.vec)) (Has.skip (Has.skip (Has.skip Has.sat))) hlv (by omega) (fun l hl => List.all_eq_true.2 fun x hx => (hifc l hl x hx).cell) (fun hbad => ?_) (fun h64 hlong rr tv' pv' qs H9 hqs h9 => ?_)
  ·refine AsTup.mk (Nth.mk rfl (AsTup.mk (Nth.mk rfl (AsInt.mk (Cd.t rfl ?_)))))
   exact kbad (by rw [elen,elong] at hbad; exact hbad) _ (hs1.ent ee)
  ·refine AsTup.mk (Nth.mk rfl (AsTup.mk (Nth.mk rfl (AsInt.mk (Cd.f rfl ?_)))))
   have hsh : Short (callsOf td) := fun cs hcs => ⟨by
    have h1 : ¬ (4096 < cs.length) := fun h => by
     have : longC (callsOf td) = true := List.any_eq_true.2 ⟨cs,hcs,decide_eq_true h⟩
     rw [← elong,hlong] at this; cases this
    omega,hbd cs hcs⟩
   rw [elen] at h9
   have hcl2 : (callsOf td).length = td.length := List.length_map ..
   have h10 : Sat (SatL (viewsL m 0 (qs.map fun q => (q,0)))::RunAt rr m tv' pv' prs (List.replicate td.length (0,false)) (vwsOf qs) 0 0::MemP m M::SatL (objsL prs (stT td))::IntsR xw picks::Vec pss tPsPS 1 (pvs.map fun x => [x])::SatL (psL pvs prs)::R) H9 := h9.ent ee
   have h11 : Sat (SatL (viewsB m 0 (qs.map fun q => (q,0)))::RunAt rr m tv' pv' prs (List.replicate td.length (0,false)) (vwsOf qs) 0 0::MemP m M::SatL (objsL prs (stT td))::IntsR xw picks::Vec pss tPsPS 1 (pvs.map fun x => [x])::SatL (psL pvs prs)::R) H9 := h10.imp fun g a => viewsB_of a
   have est : (g0 M (callsOf td)).st = stT td := by simp [g0,stT,callsOf,Function.comp_def]
   have eth : (g0 M (callsOf td)).ths = List.replicate td.length (0,false) := by simp [g0,callsOf]
   have h12 : Sat (RunAt rr m tv' pv' prs (g0 M (callsOf td)).ths (vwsOf qs) 0 0::MemP m (g0 M (callsOf td)).M::SatL (viewsB m 0 (qs.map fun q => (q,0)))::SatL (objsL prs (g0 M (callsOf td)).st)::IntsR xw picks::Vec pss tPsPS 1 (pvs.map fun x => [x])::SatL (psL pvs prs)::R) H9 := by
    rw [est,eth]
    exact h11.ent ee
   refine stepRun_ok (L := []) (c0 := 1) hc hsh (Nat.le_refl _) (good0 M hsh 1) hf (by omega) h12 (by simp [Function.comp_def]) (by omega) hpl (fun x hx => ?_) htr (by omega) fun H11 h13 => ?_
   ·obtain ⟨q,_,rfl⟩ := List.mem_map.1 hx
    exact Nat.le_refl _
   refine k (by omega) (by rw [← elong]; exact hlong) hsh pss pvs prs rr _ hpl ?_
   have h14 : Sat ([Vec pss tPsPS 1 (pvs.map fun x => [x]),SatL (psL pvs prs)]++(MemP m (gAt (g0 M (callsOf td)) picks picks.length).M::SatL (objsL prs (gAt (g0 M (callsOf td)) picks picks.length).st)::IntsR xw picks::R)) H11 := h13.ent ee
   have h15 := Sat.close (A := PsP pss pvs prs) h14 fun g a => ⟨⟨hpv,hifc⟩,a⟩
   exact h15.ent ee
end Go.Proofs.YtnkbmaccgifeoaaGreat

set_option linter.unusedVariables false
set_option linter.unusedSimpArgs false
namespace Go.Proofs.YtnkbmaccgifeoaaGreat
open Go Go.CM
variable {con : CallT}
structure Td29 where
 done : Bool
 val : Nat
 err : Nat
 ended : Bool
def td0 : Td29 := ⟨false,0,0,false⟩
inductive PrD where
 | mu (lv : Value) (y : MuD)
 | rd (y : RdD)
def PrD.step (s : PrD) (M : Mem) (th : Int) : PrD × Mem :=
 match s with
 | .mu lv y => (.mu lv (y.go M th).1,(y.go M th).2)
 | .rd y => (.rd (y.go M th).1,(y.go M th).2)
def PrD.over (s : PrD) : Bool :=
 match s with
 | .mu _ y => decide (y.at_ = 3)
 | .rd y => decide (y.kind = 3)
def PrD.tell (s : PrD) : Td29 :=
 match s with
 | .mu _ y => if y.at_ = 3 then ⟨y.done,0,y.err,true⟩ else td0
 | .rd y => ⟨false,y.val,0,decide (y.kind = 3)⟩
def freshD (c : CallS × Value) : PrD := if c.1.rd = true then .rd ⟨c.1.addr,0,settD0 0,[],0⟩ else .mu c.2 ⟨c.1.l,0,0,[],false,0⟩
structure T29 where
 told : List Td29
 now : Option PrD
def T29.fst (t : T29) (y : PrD) : T29 × PrD := (t,y)
def T29.next (cs : List (CallS × Value)) (t : T29) : Option (List Td29 × PrD) :=
 match t.now with
 | some y => some (t.told,y)
 | none => match cs[t.told.length]? with
  | some c => some (t.told++[td0],freshD c)
  | none => none
def T29.after (told : List Td29) (y : PrD) : T29 := ⟨told.set (told.length - 1) y.tell,if y.over = true then none else some y⟩
structure D29 where
 M : Mem
 ts : List T29
def D29.pick (td : List (Value × List (CallS × Value))) (g : D29) (t : Int) : D29 :=
 match t with
 | .negSucc _ => g
 | .ofNat i =>
  match td[i]?,g.ts[i]? with
  | some cs,some t =>
   match t.next cs.2 with
   | some (told,y) => { M := (y.step g.M (Int.ofNat i)).2,ts := g.ts.set i (T29.after told (y.step g.M (Int.ofNat i)).1) }
   | none => g
  | _,_ => g
def d0 (M : Mem) (td : List (Value × List (CallS × Value))) : D29 := { M := M,ts := List.replicate td.length ⟨[],none⟩ }
def dAt (td : List (Value × List (CallS × Value))) (g : D29) (picks : List Int) (j : Nat) : D29 := (picks.take j).foldl (D29.pick td) g
theorem dAt_succ {td : List (Value × List (CallS × Value))} {g : D29} {picks : List Int} {j : Nat} {t : Int} (h : picks[j]? = some t) : dAt td g picks (j + 1) = (dAt td g picks j).pick td t := by
 unfold dAt
 rw [List.take_add_one,h,List.foldl_append]; rfl
theorem dAt_over {td : List (Value × List (CallS × Value))} {g : D29} {picks : List Int} {j : Nat} (h : picks[j]? = none) : dAt td g picks (j + 1) = dAt td g picks j := by
 unfold dAt
 rw [List.take_add_one,h]
 simp
def PrS.told (s : PrS) : Td29 :=
 match s with
 | .mu x => ⟨x.done,0,x.err,decide (x.at_ = 3)⟩
 | .rd x => ⟨false,x.val,0,decide (x.kind = 3)⟩
def PrS.Cln (s : PrS) : Prop :=
 match s with
 | .mu x => x.at_ = 3 ∨ x.done = false∧x.err = 0
 | .rd _ => True
inductive PrR (c : CallS × Value) : PrS→PrD→Prop where
 | mu {x : MuP} {y : MuD} : MuR x y→x.l = c.1.l→PrR c (.mu x) (.mu c.2 y)
 | rd {x : RdP} {y : RdD} : RdR x y→PrR c (.rd x) (.rd y)
theorem prR_fresh (c : CallS × Value) : PrR c c.1.fresh (freshD c) := by
 unfold CallS.fresh freshD
 split
 ·exact .rd ⟨rfl,rfl,fun q => absurd q (by show ¬ 0 = 1; omega),fun q => absurd q (by show ¬ 0 = 2; omega),rfl⟩
 ·exact .mu ⟨rfl,rfl,rfl,fun q => absurd q (by show ¬ 0 = 1; omega),rfl,rfl⟩ rfl
theorem cln_fresh (c : CallS) : c.fresh.Cln := by
 unfold CallS.fresh
 split
 ·trivial
 ·exact .inr ⟨rfl,rfl⟩
theorem told_fresh (c : CallS) : c.fresh.told = td0 := by
 unfold CallS.fresh
 split <;> rfl
theorem mu_l (x : MuP) (M : Mem) (th : Int) : (x.go M th).1.l = x.l := by
 unfold MuP.go
 split
 ·split <;> rfl
 split
 ·rfl
 split <;> rfl
theorem cln_go {s : PrS} (h : s.Cln) (M : Mem) (th : Int) : (s.step M th).1.Cln := by
 cases s with
 | rd x => trivial
 | mu x =>
  show (x.go M th).1.at_ = 3 ∨ (x.go M th).1.done = false∧(x.go M th).1.err = 0
  have h : x.at_ = 3 ∨ x.done = false∧x.err = 0 := h
  unfold MuP.go
  by_cases e0 : x.at_ = 0
  ·rw [if_pos e0]
   have h := h.resolve_left (by omega)
   split
   ·exact .inl rfl
   ·simp only
    by_cases hr : M.room (planE (srtE x.l)) = 0
    ·rw [if_pos hr]; exact .inl rfl
    ·rw [if_neg hr,if_neg hr]; exact .inr ⟨h.1,rfl⟩
  rw [if_neg e0]
  split
  ·rename_i e1
   exact .inr (h.resolve_left (by omega))
  split
  ·exact .inl rfl
  ·exact h
theorem prR_go {c : CallS × Value} {s : PrS} {y : PrD} (h : PrR c s y) (M : Mem) (th : Int) : (s.step M th).2 = (y.step M th).2∧PrR c (s.step M th).1 (y.step M th).1 := by
 cases h with
 | mu h hl =>
  obtain ⟨h1,h2⟩ := muR_go h M th
  exact ⟨h1,.mu h2 (by rw [mu_l]; exact hl)⟩
 | rd h =>
  obtain ⟨h1,h2⟩ := rdR_go h M th
  exact ⟨h1,.rd h2⟩
theorem prR_over {c : CallS × Value} {s : PrS} {y : PrD} (h : PrR c s y) : s.over = y.over := by
 cases h with
 | mu h hl => show decide _ = decide _; rw [h.at_]
 | rd h => show decide _ = decide _; rw [h.kind]
theorem prR_tell {c : CallS × Value} {s : PrS} {y : PrD} (h : PrR c s y) (hc : s.Cln) : s.told = y.tell := by
 cases h with
 | rd h => show (⟨_,_,_,_⟩ : Td29) = ⟨_,_,_,_⟩; rw [h.val,h.kind]
 | mu h hl =>
  rename_i x y
  show (⟨x.done,0,x.err,decide (x.at_ = 3)⟩ : Td29) = if y.at_ = 3 then ⟨y.done,0,y.err,true⟩ else td0
  by_cases e : x.at_ = 3
  ·rw [if_pos (by rw [h.at_]; exact e),h.done,h.err,decide_eq_true e]
  ·rw [if_neg (by rw [h.at_]; exact e),decide_eq_false e]
   have hc : x.at_ = 3 ∨ x.done = false∧x.err = 0 := hc
   obtain ⟨h1,h2⟩ := hc.resolve_left e
   rw [h1,h2]; rfl
def PrD.Ok (y : PrD) : Prop :=
 match y with
 | .mu _ y => y.Ok
 | .rd y => y.Ok
theorem frD_ok {f : FrP} {g : FrD} (h : FrR f g) (hf : f.Ok) : g.Ok := by
 refine ⟨by rw [h.at_]; exact hf.at_,fun q => ?_,fun q => ?_⟩
 ·rw [h.at_] at q
  rw [h.i q]
  have := hf.i
  omega
 ·rw [h.at_] at q
  have hs := h.st q
  have ho := hf.st q
  exact ⟨by rw [hs.r]; exact ho.word,by rw [hs.at_]; exact hs.lt⟩
theorem stkD_ok {l : List FrP} {k : List FrD} (h : StkR l k) (hl : l ≠ []) (ho : OkS l) (hn : l.length < 100000000) : StkOkD k := by
 have hlen : ∀ {l : List FrP} {k : List FrD},StkR l k→l.length = k.length := fun h => by
  induction h with
  | nil => rfl
  | cons _ _ ih => simp [ih]
 cases h with
 | nil => exact absurd rfl hl
 | cons h hr =>
  rename_i f g l k
  refine ⟨g,k,rfl,frD_ok h (ho f (List.mem_cons_self ..)),?_⟩
  have := hlen hr
  simp at hn
  omega
theorem prD_ok {c : CallS × Value} {s : PrS} {y : PrD} {n : Nat} (h : PrR c s y) (hc : s.Cln) (ho : s.Ok n) (hn : n < 100000000) : y.Ok := by
 cases h with
 | mu h hl =>
  rename_i x y
  have ho : x.Ok n := ho
  have hc : x.at_ = 3 ∨ x.done = false∧x.err = 0 := hc
  refine ⟨by rw [h.at_]; exact ho.at_,fun q => ?_,fun q => ?_⟩
  ·rw [h.at_] at q
   obtain ⟨a,b,e⟩ := ho.stk q
   exact stkD_ok (h.stk q) a b (by omega)
  ·rw [h.at_] at q
   rw [h.err]
   exact (hc.resolve_left (by omega)).2
 | rd h =>
  rename_i x y
  have ho : x.Ok n := ho
  refine ⟨by rw [h.kind]; exact ho.kind,fun q => ?_,fun q => ?_⟩
  ·rw [h.kind] at q
   have hs := h.st q
   have := ho.st q
   exact ⟨by rw [hs.r]; exact this.word,by rw [hs.at_]; exact hs.lt⟩
  ·rw [h.kind] at q
   obtain ⟨a,b,e⟩ := ho.stk q
   exact stkD_ok (h.stk q) a b (by omega)
structure ThR (cs : List (CallS × Value)) (a : Nat) (o : Bool) (ss : List PrS) (t : T29) : Prop where
 len : t.told.length = a + (if o = true then 1 else 0)
 told : ∀ k s,k < t.told.length→ss[k]? = some s→t.told[k]? = some s.told
 on : o = true→∃ c s y,cs[a]? = some c∧ss[a]? = some s∧t.now = some y∧PrR c s y∧s.Cln
 off : o = false→t.now = none
theorem after_ok {cs : List (CallS × Value)} {a : Nat} {ss : List PrS} {told : List Td29} {c : CallS × Value} {s : PrS} {y : PrD} (hl : told.length = a + 1) (ht : ∀ k s,k < a→ss[k]? = some s→told[k]? = some s.told)
  (hc : cs[a]? = some c) (hs : a < ss.length) (h : PrR c s y) (hcl : s.Cln) : ThR cs (if s.over = true then (a + 1,false) else (a,true)).1 (if s.over = true then (a + 1,false) else (a,true)).2 (ss.set a s) (T29.after told y) := by
 have hla : (T29.after told y).told.length = a + 1 := by show (told.set _ _).length = _; rw [List.length_set]; exact hl
 have hto : ∀ k s',k < (T29.after told y).told.length→(ss.set a s)[k]? = some s'→(T29.after told y).told[k]? = some s'.told := fun k s' hk h' => by
  show (told.set _ _)[k]? = _
  rw [hla] at hk
  have e1 : told.length - 1 = a := by omega
  rw [e1]
  by_cases e : k = a
  ·subst e
   rw [List.getElem?_set_self hs] at h'
   cases h'
   rw [List.getElem?_set_self (by omega),prR_tell h hcl]
  ·rw [List.getElem?_set_ne (by omega)] at h' ⊢
   exact ht k s' (by omega) h'
 cases ho : s.over with
 | true =>
  refine ⟨?_,hto,(fun q => nomatch q),fun _ => ?_⟩
  ·rw [hla]; rfl
  ·show (if y.over = true then none else some y) = none
   rw [← prR_over h,ho]; rfl
 | false =>
  refine ⟨?_,hto,(fun _ => ⟨c,s,y,hc,List.getElem?_set_self hs,?_,h,hcl⟩),(fun q => nomatch q)⟩
  ·rw [hla]; rfl
  ·show (if y.over = true then none else some y) = some y
   rw [← prR_over h,ho]; rfl
structure Rel29 (td : List (Value × List (CallS × Value))) (g : G) (d : D29) : Prop where
 M : g.M = d.M
 len : d.ts.length = td.length
 th : ∀ (i : Nat) (t : Value × List (CallS × Value)) (a : Nat) (o : Bool) (ss : List PrS) (x : T29),td[i]? = some t→g.ths[i]? = some (a,o)→g.st[i]? = some ss→d.ts[i]? = some x→ThR t.2 a o ss x
theorem rel0 (M : Mem) (td : List (Value × List (CallS × Value))) : Rel29 td (g0 M (callsOf td)) (d0 M td) := by
 refine ⟨rfl,by simp [d0],fun i t a o ss x h1 h2 h3 h4 => ?_⟩
 simp only [g0,List.getElem?_replicate] at h2
 simp only [d0,List.getElem?_replicate] at h4
 split at h2
 ·cases h2
  split at h4
  ·cases h4
   exact ⟨rfl,fun k s hk => absurd hk (by show ¬ k < 0; omega),(fun q => nomatch q),fun _ => rfl⟩
  ·cases h4
 ·cases h2
theorem calls_get {td : List (Value × List (CallS × Value))} {i : Nat} {t : Value × List (CallS × Value)} (h : td[i]? = some t) : (callsOf td)[i]? = some (t.2.map Prod.fst) := by
 rw [List.getElem?_map,h]; rfl
theorem thR_next {cs : List (CallS × Value)} {a : Nat} {o : Bool} {ss : List PrS} {x : T29} {n : Nat} (h : ThR cs a o ss x)
  (hg : ss.length = (cs.map Prod.fst).length∧∀ (k : Nat) (c : CallS),(cs.map Prod.fst)[k]? = some c→(a < k ∨ k = a∧o = false→ss[k]? = some c.fresh)∧(k = a→∃ s,ss[k]? = some s∧s.Ok n)) :
  (ss[a]? = none∧x.next cs = none) ∨ ∃ c s told y,cs[a]? = some c∧ss[a]? = some s∧x.next cs = some (told,y)∧told.length = a + 1∧(∀ k s,k < a→ss[k]? = some s→told[k]? = some s.told)∧PrR c s y∧s.Cln∧s.Ok n := by
 obtain ⟨g1,g2⟩ := hg
 rw [List.length_map] at g1
 cases o with
 | true =>
  obtain ⟨c,s,y,hc,hs,hn,hr,hcl⟩ := h.on rfl
  refine .inr ⟨c,s,x.told,y,hc,hs,by unfold T29.next; rw [hn],h.len,fun k s hk h' => h.told k s (by rw [h.len]; show k < a + 1; omega) h',hr,hcl,?_⟩
  obtain ⟨s',q1,q2⟩ := (g2 a c.1 (by rw [List.getElem?_map,hc]; rfl)).2 rfl
  rw [hs] at q1
  cases q1
  exact q2
 | false =>
  have hl : x.told.length = a := h.len
  have hn := h.off rfl
  cases hc : cs[a]? with
  | none =>
   have : cs.length ≤ a := List.getElem?_eq_none_iff.1 hc
   refine .inl ⟨List.getElem?_eq_none (by omega),?_⟩
   unfold T29.next
   rw [hn,hl,hc]
  | some c =>
   have hm : (cs.map Prod.fst)[a]? = some c.1 := by rw [List.getElem?_map,hc]; rfl
   have hs := (g2 a c.1 hm).1 (.inr ⟨rfl,rfl⟩)
   obtain ⟨s',q1,q2⟩ := (g2 a c.1 hm).2 rfl
   rw [hs] at q1
   cases q1
   refine .inr ⟨c,c.1.fresh,x.told++[td0],freshD c,rfl,hs,by unfold T29.next; rw [hn,hl,hc],by simp [hl],fun k s hk h' => ?_,prR_fresh c,cln_fresh _,q2⟩
   rw [List.getElem?_append_left (by omega)]
   exact h.told k s (by omega) h'
theorem rel_pick {td : List (Value × List (CallS × Value))} {g : G} {d : D29} {n : Nat} (h : Rel29 td g d) (hg : Good (callsOf td) n g) (t : Int) : Rel29 td (g.pick t) (d.pick td t) := by
 cases t with
 | negSucc z => exact h
 | ofNat i =>
  have lc : (callsOf td).length = td.length := List.length_map ..
  by_cases hi : i < td.length
  ·obtain ⟨t,et⟩ : ∃ x,td[i]? = some x := ⟨_,List.getElem?_eq_getElem hi⟩
   obtain ⟨⟨a,o⟩,e1⟩ : ∃ x,g.ths[i]? = some x := ⟨_,List.getElem?_eq_getElem (by have := hg.1; omega)⟩
   obtain ⟨ss,e2⟩ : ∃ x,g.st[i]? = some x := ⟨_,List.getElem?_eq_getElem (by have := hg.2.1; omega)⟩
   obtain ⟨x,e3⟩ : ∃ x,d.ts[i]? = some x := ⟨_,List.getElem?_eq_getElem (by have := h.len; omega)⟩
   have hth := h.th i t a o ss x et e1 e2 e3
   rcases thR_next hth (hg.2.2 i _ a o ss (calls_get et) e1 e2) with ⟨q1,q2⟩ | ⟨c,s,told,y,hc,hs,hn,hl,ht,hr,hcl,_⟩
   ·have p1 : g.pick (.ofNat i) = g := by simp only [G.pick,e1,e2,q1]
    have p2 : d.pick td (.ofNat i) = d := by simp only [D29.pick,et,e3,q2]
    rw [p1,p2]
    exact h
   ·have p1 : g.pick (.ofNat i) = { M := (s.step g.M (Int.ofNat i)).2,ths := g.ths.set i (if (s.step g.M (Int.ofNat i)).1.over then (a + 1,false) else (a,true)),st := g.st.set i (ss.set a (s.step g.M (Int.ofNat i)).1) } := by
     simp only [G.pick,e1,e2,hs]
    have p2 : d.pick td (.ofNat i) = { M := (y.step d.M (Int.ofNat i)).2,ts := d.ts.set i (T29.after told (y.step d.M (Int.ofNat i)).1) } := by
     simp only [D29.pick,et,e3,hn]
    rw [p1,p2,← h.M]
    obtain ⟨r1,r2⟩ := prR_go hr g.M (Int.ofNat i)
    have r3 := cln_go hcl g.M (Int.ofNat i)
    refine ⟨r1,by show (d.ts.set _ _).length = _; rw [List.length_set]; exact h.len,fun j t' a' o' ss' x' h1 h2 h3 h4 => ?_⟩
    simp only at h2 h3 h4
    by_cases hj : i = j
    ·subst hj
     rw [et] at h1
     cases h1
     rw [List.getElem?_set_self ((List.getElem?_eq_some_iff.1 e2).1)] at h3
     rw [List.getElem?_set_self ((List.getElem?_eq_some_iff.1 e3).1)] at h4
     rw [List.getElem?_set_self ((List.getElem?_eq_some_iff.1 e1).1)] at h2
     cases h3
     cases h4
     have := after_ok (cs := t.2) (ss := ss) hl ht hc ((List.getElem?_eq_some_iff.1 hs).1) r2 r3
     cases ho : (s.step g.M (Int.ofNat i)).1.over with
     | true =>
      rw [ho] at h2 this
      cases h2
      exact this
     | false =>
      rw [ho] at h2 this
      cases h2
      exact this
    ·rw [List.getElem?_set_ne hj] at h2 h3 h4
     exact h.th j t' a' o' ss' x' h1 h2 h3 h4
  ·have p1 : g.pick (.ofNat i) = g := by simp only [G.pick,List.getElem?_eq_none (show g.ths.length ≤ i by have := hg.1; omega)]
   have p2 : d.pick td (.ofNat i) = d := by simp only [D29.pick,List.getElem?_eq_none (show td.length ≤ i by omega)]
   rw [p1,p2]
   exact h
theorem rel_at {td : List (Value × List (CallS × Value))} (hsh : Short (callsOf td)) {M : Mem} (hf : Fin29 M) (picks : List Int) : ∀ j,Rel29 td (gAt (g0 M (callsOf td)) picks j) (dAt td (d0 M td) picks j)
 | 0 => rel0 M td
 | j + 1 => by
  have ih := rel_at hsh hf picks j
  obtain ⟨h1,h2⟩ := gAt_good hsh (Nat.le_refl 1) hf (good0 M hsh 1) picks j
  cases e : picks[j]? with
  | none => rw [gAt_over e,dAt_over e]; exact ih
  | some t => rw [gAt_succ e,dAt_succ e]; exact rel_pick ih h1 t
def wantOf (told : List Td29) (k : Nat) : Td29 := (told[k]?).getD td0
def PrS.fits (s : PrS) (w : Td29) : Prop :=
 match s with
 | .mu x => x.done = w.done∧x.err = w.err
 | .rd x => x.val = w.val
theorem told_fits (s : PrS) : s.fits s.told := by
 cases s with
 | mu x => exact ⟨rfl,rfl⟩
 | rd x => exact rfl
theorem rel_fits {td : List (Value × List (CallS × Value))} {g : G} {d : D29} {n : Nat} (h : Rel29 td g d) (hg : Good (callsOf td) n g) {i k : Nat} {ss : List PrS} {s : PrS} {x : T29} (h1 : g.st[i]? = some ss) (h2 : ss[k]? = some s) (h3 : d.ts[i]? = some x) : s.fits (wantOf x.told k) := by
 have hi : i < td.length := by rw [← h.len]; exact (List.getElem?_eq_some_iff.1 h3).1
 obtain ⟨t,et⟩ : ∃ x,td[i]? = some x := ⟨_,List.getElem?_eq_getElem hi⟩
 have lc : (callsOf td).length = td.length := List.length_map ..
 obtain ⟨⟨a,o⟩,e1⟩ : ∃ x,g.ths[i]? = some x := ⟨_,List.getElem?_eq_getElem (by have := hg.1; omega)⟩
 have hth := h.th i t a o ss x et e1 h1 h3
 obtain ⟨f1,f2⟩ := hg.2.2 i _ a o ss (calls_get et) e1 h1
 unfold wantOf
 by_cases hk : k < x.told.length
 ·rw [hth.told k s hk h2]
  exact told_fits s
 ·rw [List.getElem?_eq_none (by omega)]
  have hkl : k < (t.2.map Prod.fst).length := by rw [← f1]; exact (List.getElem?_eq_some_iff.1 h2).1
  have hfr := (f2 k _ (List.getElem?_eq_getElem hkl)).1 (by
   have := hth.len
   cases o with
   | true => simp at this; exact .inl (by omega)
   | false =>
    simp at this
    by_cases e : k = a
    ·exact .inr ⟨e,rfl⟩
    ·exact .inl (by omega))
  rw [hfr] at h2
  cases h2
  have := told_fits (t.2.map Prod.fst)[k].fresh
  rw [told_fresh] at this
  exact this
end Go.Proofs.YtnkbmaccgifeoaaGreat

set_option linter.unusedVariables false
set_option linter.unusedSimpArgs false
namespace Go.Proofs.YtnkbmaccgifeoaaGreat
open Go Go.CM
attribute [local irreducible] AsBool AsWant AsNat AsInt AsCnt AsPtr AsSlc AsLen AsStr AsAgg AsTup AsFn AsIfc Nth Sc NotNil IsNil Must Cd codeW funW Sat SatL wrapN subM mkRow ltZ leZ ltN leN
attribute [local irreducible] isFunT
variable {con : CallT}
theorem rrn_lp : lpAt Tryz.prog 24 0 = blkC (lpAt Tryz.prog 24 0) := by kernel_rfl
theorem rrn_sl : sliceC 2 1 (blkC (lpAt Tryz.prog 24 0)) = seqL [(flatC (blkC (lpAt Tryz.prog 24 0))).getD 2 .skip] := by kernel_rfl
theorem rrn_bk : (flatC (blkC (lpAt Tryz.prog 24 0))).getD 2 .skip = .block 1 (blkC ((flatC (blkC (lpAt Tryz.prog 24 0))).getD 2 .skip)) := by kernel_rfl
abbrev tTd : Nat := 86
abbrev tTdS : Nat := 87
theorem el_td : elemOk Tryz.prog tTdS tTd 4 32 = true := by kernel_rfl
theorem sl_td : ∃ e,Tryz.prog.underlying tTdS = some (.slice e) := ⟨_,(elemOk.out el_td).1⟩
def tdC (t : Td29) : List Value := [.bool t.done,u64 t.val,iN t.err,.bool t.ended]
structure W29 where
 o : Value
 q : Nat
 t : T29
def W29.mv (w : W29) : Value := match w.t.now with | some (.mu _ _) => ptr w.q 0 | _ => nilP
def W29.rv (w : W29) : Value := match w.t.now with | some (.rd _) => ptr w.q 0 | _ => nilP
def NowD (q : Nat) (now : Option PrD) : HP := match now with | some (.mu lv y) => MuDAt q lv y | some (.rd y) => RdDAt q y | none => Emp
def W29.at (w : W29) : HP := fun h => SatL [Vec w.o tTd 4 (w.t.told.map tdC),NowD w.q w.t.now] h
abbrev rowsW (bo eo bm em br er : Nat) (ws : List W29) (R : List HP) : List HP := Row bo eo 0 true (ws.map W29.o)::Row bm em 0 true (ws.map W29.mv)::Row br er 0 true (ws.map W29.rv)::SatL (ws.map W29.at)::R
def Kp (σ τ : TF) : Prop := τ 0 = σ 0∧τ 1 = σ 1∧τ 2 = σ 2∧τ 7 = σ 7∧τ 8 = σ 8∧τ 9 = σ 9∧τ 10 = σ 10
theorem Kp.trans {a b c : TF} (h : Kp a b) (g : Kp b c) : Kp a c := by
 obtain ⟨a0,a1,a2,a7,a8,a9,a10⟩ := h
 obtain ⟨b0,b1,b2,b7,b8,b9,b10⟩ := g
 exact ⟨b0.trans a0,b1.trans a1,b2.trans a2,b7.trans a7,b8.trans a8,b9.trans a9,b10.trans a10⟩
theorem ldRdD {L : List HP} {H : CH} {p : Nat} {y : RdD} {K : Value→Prop} (hs : Sat (RdDAt p y::L) H) (k : K (u64 y.val)) : Ld H p (Nat.add 0 9) K := by
 obtain ⟨h1,h2,s1,s2,d,a,z⟩ := hs.opens Pull.here
 rcases a with ⟨_,xv,a⟩ | ⟨_,xv,a⟩
 ·have h3 : Sat (Own p (rdDC y xv)::Stk xv tFrD 16 (frsD y.stk)::L) H := Sat.merge s1 s2 d a z
  exact ld h3 rfl k
 ·have h3 : Sat (Own p (rdDC y xv)::L) H := Sat.merge (L1 := [_]) s1 s2 d (SatL.one a) z
  exact ld h3 rfl k
theorem ldMuD {L : List HP} {H : CH} {p : Nat} {lv : Value} {y : MuD} {K : Value→Prop} (hs : Sat (MuDAt p lv y::L) H) (k : K (.bool y.done)) : Ld H p (Nat.add 0 4) K := by
 obtain ⟨h1,h2,s1,s2,d,a,z⟩ := hs.opens Pull.here
 rcases a with ⟨_,xv,a⟩ | ⟨_,xv,a⟩
 ·have h3 : Sat (Own p (mdC y lv xv)::Stk xv tFrD 16 (frsD y.stk)::L) H := Sat.merge s1 s2 d a z
  exact ld h3 rfl k
 ·have h3 : Sat (Own p (mdC y lv xv)::L) H := Sat.merge (L1 := [_]) s1 s2 d (SatL.one a) z
  exact ld h3 rfl k
theorem ldMuE {L : List HP} {H : CH} {p : Nat} {lv : Value} {y : MuD} {K : Value→Prop} (hs : Sat (MuDAt p lv y::L) H) (k : K (iN y.err)) : Ld H p (Nat.add 0 5) K := by
 obtain ⟨h1,h2,s1,s2,d,a,z⟩ := hs.opens Pull.here
 rcases a with ⟨_,xv,a⟩ | ⟨_,xv,a⟩
 ·have h3 : Sat (Own p (mdC y lv xv)::Stk xv tFrD 16 (frsD y.stk)::L) H := Sat.merge s1 s2 d a z
  exact ld h3 rfl k
 ·have h3 : Sat (Own p (mdC y lv xv)::L) H := Sat.merge (L1 := [_]) s1 s2 d (SatL.one a) z
  exact ld h3 rfl k
def SameK (y y' : PrD) : Prop := match y,y' with | .mu _ _,.mu _ _ => True | .rd _,.rd _ => True | _,_ => False
theorem mv_same {w w' : W29} {y y' : PrD} (h : w.t.now = some y) (h' : w'.t.now = some y') (hk : SameK y y') (hq : w'.q = w.q) : w.mv = w'.mv∧w.rv = w'.rv := by
 unfold W29.mv W29.rv
 rw [h,h',hq]
 cases y <;> cases y' <;> first | exact ⟨rfl,rfl⟩ | exact hk.elim
set_option maxRecDepth 100000 in
theorem rr_put {ws : List W29} {w : W29} {k n bo eo bm em br er p13 : Nat} {y : PrD} {R : List HP} {H : CH} {σ : TF} {Q : KX}
  (hs : Sat (Own p13 (tdC y.tell)::NowD w.q (some y)::Vec w.o tTd 4 (w.t.told.map tdC)::Row bo eo 0 true (ws.map W29.o)::Row bm em 0 true (ws.map W29.mv)::Row br er 0 true (ws.map W29.rv)::SatL ((ws.map W29.at).set k Emp)::R) H)
  (hw : ws[k]? = some w) (hn : ws.length = n) (hnow : ∀ y',w.t.now = some y'→SameK y' y) (hne : w.t.now ≠ none) (htl : 0 < w.t.told.length) (htl2 : w.t.told.length < 1000000000) (het : y.tell.ended = y.over)
  (e7 : σ 7 = slc bo 0 n n) (e8 : σ 8 = slc bm 0 n n) (e9 : σ 9 = slc br 0 n n) (e11 : σ 11 = i64 (Int.ofNat k)) (e13 : σ 13 = ptr p13 0)
  (kk : ∀ σ1 H1,Kp σ σ1→Sat (rowsW bo eo bm em br er (ws.set k ⟨w.o,w.q,T29.after w.t.told y⟩) R) H1→Q .normal σ1 H1) :
  codeW (dropC 8 (blkC ((flatC (blkC (lpAt Tryz.prog 24 0))).getD 2 .skip))) Tryz.prog con σ H Q := by
 have hkn : k < n := by have := (List.getElem?_eq_some_iff.1 hw).1; omega
 have ho : (ws.map W29.o)[k]? = some w.o := by rw [List.getElem?_map,hw]; rfl
 obtain ⟨tl,htl3⟩ : ∃ t,w.t.told.length = t + 1 := ⟨w.t.told.length - 1,by omega⟩
 obtain ⟨pv,hpv⟩ := (hs.has (Has.skip (Has.skip Has.vec))).shape
 rw [List.length_map,htl3] at hpv
 have hrow : (w.t.told.map tdC)[tl]? = some (tdC (w.t.told[tl]'(by omega))) := by rw [List.getElem?_map,List.getElem?_eq_getElem (by omega)]; rfl
 obtain ⟨bv,hbv,_⟩ := (hs.has (Has.skip (Has.skip Has.vec))).slot hrow
 rw [List.length_map,htl3] at hbv
 rw [rRunB3_W,e7,e8,e9,e11,e13]
 repeat (refine gO ?_; intros)
 refine Must.mk (ltN_t hkn) (ldRow hs (off1 k) ho ?_)
 repeat (refine gO ?_; intros)
 refine Must.mk (ltN_t hkn) (ldRow hs (off1 k) ho ?_)
 refine AsLen.eq hbv ?_
 have es : Int.sub (Int.ofNat (tl + 1)) (Int.ofNat 1) = Int.ofNat tl := by show (Int.ofNat (tl + 1)) - (Int.ofNat 1) = _; simp
 rw [es]
 refine inR_nat (by omega) ?_
 repeat (refine gO ?_; intros)
 refine AsSlc.eq hbv ?_
 repeat (refine gO ?_; intros)
 rw [hbv] at hs
 refine Must.mk (ltN_t (by omega)) ?_
 refine stVecN hs pp (i := tl) (j := 0) hrow (by show 0 + tl * 4 = _; omega) (by show 0 + 4 ≤ 4; omega) (by rfl) fun H25 h25 => ?_
 rw [← hbv] at h25
 have eset : (w.t.told.map tdC).set tl (ovw (tdC y.tell) (tdC (w.t.told[tl]'(by omega))) 0) = (T29.after w.t.told y).told.map tdC := by
  have e1 : (T29.after w.t.told y).told = w.t.told.set tl y.tell := by
   show w.t.told.set (w.t.told.length - 1) y.tell = _
   rw [show w.t.told.length - 1 = tl by omega]
  rw [e1,List.map_set]; rfl
 have h25' : Sat (Vec w.o tTd 4 ((T29.after w.t.told y).told.map tdC)::Own p13 (tdC y.tell)::NowD w.q (some y)::Row bo eo 0 true (ws.map W29.o)::Row bm em 0 true (ws.map W29.mv)::Row br er 0 true (ws.map W29.rv)::SatL ((ws.map W29.at).set k Emp)::R) H25 := by
  rw [← eset]; exact h25
 clear h25 hs
 repeat (refine gO ?_; intros)
 have mo : (ws.map W29.o) = (ws.set k ⟨w.o,w.q,T29.after w.t.told y⟩).map W29.o := by rw [List.map_set]; exact (set_self ho).symm
 cases hov : y.over with
 | true =>
  rw [het,hov]
  refine Cd.t rfl ?_
  repeat (refine gO ?_; intros)
  refine Must.mk (ltN_t hkn) (st h25' (by rw [off1,List.length_map]; omega) rfl fun H35 h35 => ?_)
  rw [off1] at h35
  repeat (refine gO ?_; intros)
  refine Must.mk (ltN_t hkn) (st h35 (by rw [off1,List.length_map]; omega) rfl fun H41 h41 => ?_)
  rw [off1] at h41
  have ea : T29.after w.t.told y = ⟨(T29.after w.t.told y).told,none⟩ := by unfold T29.after; rw [hov]; rfl
  refine kk _ _ ⟨rfl,rfl,rfl,rfl,rfl,rfl,rfl⟩ ?_
  have h42 : Sat (Vec w.o tTd 4 ((T29.after w.t.told y).told.map tdC)::SatL ((ws.map W29.at).set k Emp)::Row bo eo 0 true (ws.map W29.o)::Row bm em 0 true ((ws.map W29.mv).set k nilP)::Row br er 0 true ((ws.map W29.rv).set k nilP)::R) H41 := h41.ent ee
  have h43 : Sat ([Vec w.o tTd 4 ((T29.after w.t.told y).told.map tdC),Emp]++(SatL ((ws.map W29.at).set k Emp)::Row bo eo 0 true (ws.map W29.o)::Row bm em 0 true ((ws.map W29.mv).set k nilP)::Row br er 0 true ((ws.map W29.rv).set k nilP)::R)) H41 := (h42.triv (A := Emp) fun g => trivial).ent ee
  have h44 := Sat.close (A := W29.at ⟨w.o,w.q,T29.after w.t.told y⟩) h43 fun g a => by
   unfold W29.at; rw [ea]; exact a
  have h45 := h44.putAll (by rw [List.length_map]; omega)
  rw [show (ws.map W29.at).set k (W29.at ⟨w.o,w.q,T29.after w.t.told y⟩) = (ws.set k ⟨w.o,w.q,T29.after w.t.told y⟩).map W29.at from (List.map_set ..).symm,mo] at h45
  have m1 : (ws.map W29.mv).set k nilP = (ws.set k ⟨w.o,w.q,T29.after w.t.told y⟩).map W29.mv := by
   rw [List.map_set]; congr 1; unfold W29.mv; rw [ea]
  have m2 : (ws.map W29.rv).set k nilP = (ws.set k ⟨w.o,w.q,T29.after w.t.told y⟩).map W29.rv := by
   rw [List.map_set]; congr 1; unfold W29.rv; rw [ea]
  rw [m1,m2] at h45
  exact h45.ent ee
 | false =>
  rw [het,hov]
  refine Cd.f rfl ?_
  have ea : T29.after w.t.told y = ⟨(T29.after w.t.told y).told,some y⟩ := by unfold T29.after; rw [hov]; rfl
  refine kk _ _ ⟨rfl,rfl,rfl,rfl,rfl,rfl,rfl⟩ ?_
  have h43 : Sat ([Vec w.o tTd 4 ((T29.after w.t.told y).told.map tdC),NowD w.q (some y)]++(SatL ((ws.map W29.at).set k Emp)::Row bo eo 0 true (ws.map W29.o)::Row bm em 0 true (ws.map W29.mv)::Row br er 0 true (ws.map W29.rv)::R)) H25 := h25'.ent ee
  have h44 := Sat.close (A := W29.at ⟨w.o,w.q,T29.after w.t.told y⟩) h43 fun g a => by
   unfold W29.at; rw [ea]; exact a
  have h45 := h44.putAll (by rw [List.length_map]; omega)
  obtain ⟨y0,hy0⟩ := Option.ne_none_iff_exists'.1 hne
  have hk := hnow y0 hy0
  have m1 : (ws.map W29.mv) = (ws.set k ⟨w.o,w.q,T29.after w.t.told y⟩).map W29.mv := by
   rw [List.map_set]
   refine (set_self ?_).symm
   rw [List.getElem?_map,hw]
   exact congrArg some (mv_same hy0 (w' := ⟨w.o,w.q,T29.after w.t.told y⟩) (by rw [ea]) hk rfl).1
  have m2 : (ws.map W29.rv) = (ws.set k ⟨w.o,w.q,T29.after w.t.told y⟩).map W29.rv := by
   rw [List.map_set]
   refine (set_self ?_).symm
   rw [List.getElem?_map,hw]
   exact congrArg some (mv_same hy0 (w' := ⟨w.o,w.q,T29.after w.t.told y⟩) (by rw [ea]) hk rfl).2
  rw [show (ws.map W29.at).set k (W29.at ⟨w.o,w.q,T29.after w.t.told y⟩) = (ws.set k ⟨w.o,w.q,T29.after w.t.told y⟩).map W29.at from (List.map_set ..).symm,mo,m1,m2] at h45
  exact h45.ent ee
theorem ended_over (y : PrD) : y.tell.ended = y.over := by
 cases y with
 | rd y => rfl
 | mu lv y =>
  show (if y.at_ = 3 then (⟨y.done,0,y.err,true⟩ : Td29) else td0).ended = decide (y.at_ = 3)
  by_cases h : y.at_ = 3
  ·rw [if_pos h,decide_eq_true h]
  ·rw [if_neg h,decide_eq_false h]; rfl
set_option maxRecDepth 100000 in
theorem rr_step (hc : Con con lives) {ws : List W29} {w : W29} {k n bo eo bm em br er m : Nat} {y : PrD} {M : Mem} {R : List HP} {H : CH} {σ : TF} {Q : KX}
  (hs : Sat (RefP m M::rowsW bo eo bm em br er ws R) H)
  (hw : ws[k]? = some w) (hn : ws.length = n) (hnow : w.t.now = some y) (htl : 0 < w.t.told.length) (htl2 : w.t.told.length < 1000000000)
  (hok : y.Ok) (hE : ∀ lv y',y = .mu lv y'→Has R (EntS lv y'.l.toArray)) (hb : M.Bd) (htr : M.tr.length < 1000000000)
  (e0 : σ 0 = ptr m 0) (e7 : σ 7 = slc bo 0 n n) (e8 : σ 8 = slc bm 0 n n) (e9 : σ 9 = slc br 0 n n) (e11 : σ 11 = i64 (Int.ofNat k))
  (kk : ∀ σ1 H1,Kp σ σ1→Sat (RefP m (y.step M (Int.ofNat k)).2::rowsW bo eo bm em br er (ws.set k ⟨w.o,w.q,T29.after w.t.told (y.step M (Int.ofNat k)).1⟩) R) H1→Q .normal σ1 H1) :
  codeW (dropC 5 (blkC ((flatC (blkC (lpAt Tryz.prog 24 0))).getD 2 .skip))) Tryz.prog con σ H Q := by
 have hkn : k < n := by have := (List.getElem?_eq_some_iff.1 hw).1; omega
 have hwa : (ws.map W29.at)[k]? = some w.at := by rw [List.getElem?_map,hw]; rfl
 have hwm : (ws.map W29.mv)[k]? = some w.mv := by rw [List.getElem?_map,hw]; rfl
 have hwr : (ws.map W29.rv)[k]? = some w.rv := by rw [List.getElem?_map,hw]; rfl
 have h1 : Sat (w.at::SatL ((ws.map W29.at).set k Emp)::RefP m M::Row bo eo 0 true (ws.map W29.o)::Row bm em 0 true (ws.map W29.mv)::Row br er 0 true (ws.map W29.rv)::R) H := by
  have h0 : Sat (SatL (ws.map W29.at)::RefP m M::Row bo eo 0 true (ws.map W29.o)::Row bm em 0 true (ws.map W29.mv)::Row br er 0 true (ws.map W29.rv)::R) H := hs.ent ee
  exact h0.pull (pull_all Pull.here hwa)
 obtain ⟨f1,f2,s1,s2,d,a,z⟩ := h1.opens Pull.here
 have h2 := Sat.merge s1 s2 d a z
 simp only [List.cons_append,List.nil_append] at h2
 clear h1 hs a z s1 s2 d
 rw [hnow] at h2
 rw [codeW_cut2 5 3,rRunB2_W,e0,e8,e9,e11]
 refine nw h2 fun p13 H3 h3 => ?_
 have kn : ∀ y',SameK y y'→∀ y0,w.t.now = some y0→SameK y0 y' := fun y' h y0 h0 => by
  rw [hnow] at h0
  cases h0
  exact h
 have hne : w.t.now ≠ none := by rw [hnow]; exact fun h => nomatch h
 cases y with
 | rd y =>
  have hok : y.Ok := hok
  have rvq : w.rv = ptr w.q 0 := by unfold W29.rv; rw [hnow]
  rw [rvq] at hwr
  repeat (refine gO ?_; intros)
  refine Must.mk (ltN_t hkn) (ldRow h3 (off1 k) hwr ?_)
  repeat (refine gO ?_; intros)
  refine Must.mk (ltN_t hkn) (ldRow h3 (off1 k) hwr ?_)
  have h4 : Sat (RefP m M::RdDAt w.q y::Own p13 [.bool false,u64 0,iN 0,.bool false]::Vec w.o tTd 4 (w.t.told.map tdC)::SatL ((ws.map W29.at).set k Emp)::Row bo eo 0 true (ws.map W29.o)::Row bm em 0 true (ws.map W29.mv)::Row br er 0 true (ws.map W29.rv)::R) H3 := h3.ent ee
  refine rReadStep_ok hc h4 .here .here htr hb hok fun H17 h17 => ?_
  have eM : (PrD.step (.rd y) M (Int.ofNat k)) = (.rd (y.go M (Int.ofNat k)).1,(y.go M (Int.ofNat k)).2) := rfl
  rw [eM] at kk
  generalize (y.go M (Int.ofNat k)).1 = y' at *
  generalize (y.go M (Int.ofNat k)).2 = M' at *
  repeat (refine gO ?_; intros)
  rename_i H18 h18
  refine Must.mk (ltN_t hkn) (ldRow h18 (off1 k) hwr ?_)
  repeat (refine gO ?_; intros)
  refine ldRdD (y := y') (by first | exact h18 | exact h18.ent ee) ?_
  repeat (refine gO ?_; intros)
  rename_i H28 h28
  rw [ceP_n]
  have h29 : Sat (Own p13 (tdC (PrD.tell (.rd y')))::NowD w.q (some (.rd y'))::Vec w.o tTd 4 (w.t.told.map tdC)::Row bo eo 0 true (ws.map W29.o)::Row bm em 0 true (ws.map W29.mv)::Row br er 0 true (ws.map W29.rv)::SatL ((ws.map W29.at).set k Emp)::RefP m M'::R) H28 := Sat.ent (show Sat (RdDAt w.q y'::RefP m M'::Own p13 (tdC ⟨false,y'.val,0,decide (y'.kind = 3)⟩)::Vec w.o tTd 4 (w.t.told.map tdC)::SatL ((ws.map W29.at).set k Emp)::Row bo eo 0 true (ws.map W29.o)::Row bm em 0 true (ws.map W29.mv)::Row br er 0 true (ws.map W29.rv)::R) H28 from h28) ee
  refine rr_put h29 hw hn (kn _ trivial) hne htl htl2 (ended_over _) e7 e8 e9 e11 rfl fun σ1 H1 hK h30 => kk σ1 H1 (Kp.trans ⟨rfl,rfl,rfl,rfl,rfl,rfl,rfl⟩ hK) ?_
  exact h30.ent ee
 | mu lv y =>
  have hok : y.Ok := hok
  have rvn : w.rv = nilP := by unfold W29.rv; rw [hnow]
  have mvq : w.mv = ptr w.q 0 := by unfold W29.mv; rw [hnow]
  rw [rvn] at hwr
  rw [mvq] at hwm
  repeat (refine gO ?_; intros)
  refine Must.mk (ltN_t hkn) (ldRow h3 (off1 k) hwr ?_)
  repeat (refine gO ?_; intros)
  refine Must.mk (ltN_t hkn) (ldRow h3 (off1 k) hwm ?_)
  have h4 : Sat (RefP m M::MuDAt w.q lv y::Own p13 [.bool false,u64 0,iN 0,.bool false]::Vec w.o tTd 4 (w.t.told.map tdC)::SatL ((ws.map W29.at).set k Emp)::Row bo eo 0 true (ws.map W29.o)::Row bm em 0 true (ws.map W29.mv)::Row br er 0 true (ws.map W29.rv)::R) H3 := h3.ent ee
  refine rMultiStep_ok (d := y.l.toArray) hc rfl h4 .here .here (Has.skip (Has.skip (Has.skip (Has.skip (Has.skip (Has.skip (hE lv y rfl))))))) htr hb hok fun H17 h17 => ?_
  have eM : (PrD.step (.mu lv y) M (Int.ofNat k)) = (.mu lv (y.go M (Int.ofNat k)).1,(y.go M (Int.ofNat k)).2) := rfl
  rw [eM] at kk
  generalize (y.go M (Int.ofNat k)).1 = y' at *
  generalize (y.go M (Int.ofNat k)).2 = M' at *
  repeat (refine gO ?_; intros)
  rename_i H37 h37
  have fin : ∀ H2,Sat (MuDAt w.q lv y'::RefP m M'::Own p13 (tdC (PrD.tell (.mu lv y')))::Vec w.o tTd 4 (w.t.told.map tdC)::SatL ((ws.map W29.at).set k Emp)::Row bo eo 0 true (ws.map W29.o)::Row bm em 0 true (ws.map W29.mv)::Row br er 0 true (ws.map W29.rv)::R) H2→∀ τ : TF,Kp σ τ→τ 11 = σ 11→τ 13 = ptr p13 0→codeW (dropC 8 (blkC ((flatC (blkC (lpAt Tryz.prog 24 0))).getD 2 .skip))) Tryz.prog con τ H2 Q := fun H2 h2 τ hK t11 t13 => by
   have h29 : Sat (Own p13 (tdC (PrD.tell (.mu lv y')))::NowD w.q (some (.mu lv y'))::Vec w.o tTd 4 (w.t.told.map tdC)::Row bo eo 0 true (ws.map W29.o)::Row bm em 0 true (ws.map W29.mv)::Row br er 0 true (ws.map W29.rv)::SatL ((ws.map W29.at).set k Emp)::RefP m M'::R) H2 := h2.ent ee
   have hK' := hK
   obtain ⟨k0,k1,k2,k7,k8,k9,k10⟩ := hK
   refine rr_put h29 hw hn (kn _ trivial) hne htl htl2 (ended_over _) (k7.trans e7) (k8.trans e8) (k9.trans e9) (t11.trans e11) t13 fun σ1 H1 hK h30 => kk σ1 H1 (Kp.trans hK' hK) ?_
   exact h30.ent ee
  by_cases c : y'.at_ = 3
  ·have et : PrD.tell (.mu lv y') = ⟨y'.done,0,y'.err,true⟩ := if_pos c
   rw [et] at fin
   rw [decide_eq_true c] at h37 ⊢
   refine Cd.t rfl ?_
   repeat (refine gO ?_; intros)
   refine Must.mk (ltN_t hkn) (ldRow h37 (off1 k) hwm ?_)
   repeat (refine gO ?_; intros)
   refine ldMuD (lv := lv) (y := y') h37 ?_
   repeat (refine gO ?_; intros)
   refine Must.mk (ltN_t hkn) (ldRow h37 (off1 k) hwm ?_)
   repeat (refine gO ?_; intros)
   refine ldMuE (lv := lv) (y := y') h37 ?_
   repeat (refine gO ?_; intros)
   rename_i H58 h58 H59 h59
   refine ldMuE (lv := lv) (y := y') h37 ?_
   repeat (refine gO ?_; intros)
   refine ldMuE (lv := lv) (y := y') h58 ?_
   repeat (refine gO ?_; intros)
   refine ldRow h37 (off1 k) hwm ?_
   repeat (refine gO ?_; intros)
   refine ldRow h58 (off1 k) hwm ?_
   repeat (refine gO ?_; intros)
   rw [ceP_n]
   exact fin _ h59 _ ⟨rfl,rfl,rfl,rfl,rfl,rfl,rfl⟩ rfl rfl
  ·have et : PrD.tell (.mu lv y') = td0 := if_neg c
   rw [et] at fin
   rw [decide_eq_false c] at h37 ⊢
   refine Cd.f rfl ?_
   rw [ceP_n]
   exact fin _ h37 _ ⟨rfl,rfl,rfl,rfl,rfl,rfl,rfl⟩ rfl rfl
end Go.Proofs.YtnkbmaccgifeoaaGreat

set_option linter.unusedVariables false
set_option linter.unusedSimpArgs false
namespace Go.Proofs.YtnkbmaccgifeoaaGreat
open Go Go.CM
attribute [local irreducible] AsBool AsWant AsNat AsInt AsCnt AsPtr AsSlc AsLen AsStr AsAgg AsTup AsFn AsIfc Nth Sc NotNil IsNil Must Cd codeW funW Sat SatL wrapN subM mkRow ltZ leZ ltN leN
attribute [local irreducible] isFunT
variable {con : CallT}
theorem len_out {w : W29} {L : List HP} {H : CH} (hs : Sat (Vec w.o tTd 4 (w.t.told.map tdC)::L) H) : ∃ p,w.o = .slice p w.t.told.length w.t.told.length := by
 obtain ⟨p,hp⟩ := (hs.has Has.vec).shape
 rw [List.length_map] at hp
 exact ⟨p,hp⟩
set_option maxRecDepth 100000 in
theorem rr_old {ws : List W29} {w : W29} {k n bo eo bm em br er : Nat} {y : PrD} {R : List HP} {H : CH} {σ : TF} {Q : KX}
  (hs : Sat (rowsW bo eo bm em br er ws R) H)
  (hw : ws[k]? = some w) (hn : ws.length = n) (hnow : w.t.now = some y)
  (e8 : σ 8 = slc bm 0 n n) (e9 : σ 9 = slc br 0 n n) (e11 : σ 11 = i64 (Int.ofNat k))
  (kk : ∀ τ : TF,Kp σ τ→τ 11 = σ 11→codeW (dropC 5 (blkC ((flatC (blkC (lpAt Tryz.prog 24 0))).getD 2 .skip))) Tryz.prog con τ H Q) :
  codeW (dropC 3 (blkC ((flatC (blkC (lpAt Tryz.prog 24 0))).getD 2 .skip))) Tryz.prog con σ H Q := by
 have hkn : k < n := by have := (List.getElem?_eq_some_iff.1 hw).1; omega
 have hwm : (ws.map W29.mv)[k]? = some w.mv := by rw [List.getElem?_map,hw]; rfl
 have hwr : (ws.map W29.rv)[k]? = some w.rv := by rw [List.getElem?_map,hw]; rfl
 rw [codeW_cut2 3 2,rRunB1_W,e8,e9,e11]
 repeat (refine gO ?_; intros)
 refine Must.mk (ltN_t hkn) (ldRow hs (off1 k) hwm ?_)
 cases y with
 | mu lv y =>
  have mvq : w.mv = ptr w.q 0 := by unfold W29.mv; rw [hnow]
  rw [mvq]
  repeat (refine gO ?_; intros)
  rw [ceP_n]
  exact kk _ ⟨rfl,rfl,rfl,rfl,rfl,rfl,rfl⟩ rfl
 | rd y =>
  have mvq : w.mv = nilP := by unfold W29.mv; rw [hnow]
  have rvq : w.rv = ptr w.q 0 := by unfold W29.rv; rw [hnow]
  rw [mvq]
  repeat (refine gO ?_; intros)
  refine Must.mk (ltN_t hkn) (ldRow hs (off1 k) hwr ?_)
  rw [rvq]
  repeat (refine gO ?_; intros)
  rw [ceP_n]
  exact kk _ ⟨rfl,rfl,rfl,rfl,rfl,rfl,rfl⟩ rfl
set_option maxRecDepth 100000 in
theorem rr_new {ws : List W29} {w : W29} {k n bo eo bm em br er : Nat} {tv : Value} {td : List (Value × List (CallS × Value))} {t : Value × List (CallS × Value)} {R : List HP} {H : CH} {σ : TF} {Q : KX}
  (hs : Sat (rowsW bo eo bm em br er ws R) H)
  (hw : ws[k]? = some w) (hn : ws.length = n) (hnow : w.t.now = none) (hT : Has R (ThrW tv td)) (et : td[k]? = some t) (htd : td.length = n) (htl : t.2.length < 900000000)
  (e1 : σ 1 = tv) (e7 : σ 7 = slc bo 0 n n) (e8 : σ 8 = slc bm 0 n n) (e9 : σ 9 = slc br 0 n n) (e11 : σ 11 = i64 (Int.ofNat k))
  (kx : t.2[w.t.told.length]? = none→∀ τ : TF,Kp σ τ→Q (.exit 1) τ H)
  (kk : ∀ c,t.2[w.t.told.length]? = some c→∀ (τ : TF) o' q' H1,Kp σ τ→τ 11 = σ 11→Sat (rowsW bo eo bm em br er (ws.set k ⟨o',q',⟨w.t.told++[td0],some (freshD c)⟩⟩) R) H1→codeW (dropC 5 (blkC ((flatC (blkC (lpAt Tryz.prog 24 0))).getD 2 .skip))) Tryz.prog con τ H1 Q) :
  codeW (dropC 3 (blkC ((flatC (blkC (lpAt Tryz.prog 24 0))).getD 2 .skip))) Tryz.prog con σ H Q := by
 have hkn : k < n := by have := (List.getElem?_eq_some_iff.1 hw).1; omega
 have hwm : (ws.map W29.mv)[k]? = some nilP := by rw [List.getElem?_map,hw]; show some w.mv = _; unfold W29.mv; rw [hnow]
 have hwr : (ws.map W29.rv)[k]? = some nilP := by rw [List.getElem?_map,hw]; show some w.rv = _; unfold W29.rv; rw [hnow]
 have hwo : (ws.map W29.o)[k]? = some w.o := by rw [List.getElem?_map,hw]; rfl
 have hwa : (ws.map W29.at)[k]? = some w.at := by rw [List.getElem?_map,hw]; rfl
 have hlo : (ws.map W29.o).length = n := by rw [List.length_map]; exact hn
 have hlm : (ws.map W29.mv).length = n := by rw [List.length_map]; exact hn
 have hlr : (ws.map W29.rv).length = n := by rw [List.length_map]; exact hn
 have h1 : Sat (w.at::SatL ((ws.map W29.at).set k Emp)::Row bo eo 0 true (ws.map W29.o)::Row bm em 0 true (ws.map W29.mv)::Row br er 0 true (ws.map W29.rv)::R) H := by
  have h0 : Sat (SatL (ws.map W29.at)::Row bo eo 0 true (ws.map W29.o)::Row bm em 0 true (ws.map W29.mv)::Row br er 0 true (ws.map W29.rv)::R) H := hs.ent ee
  exact h0.pull (pull_all Pull.here hwa)
 obtain ⟨f1,f2,s1,s2,d,a,z⟩ := h1.opens Pull.here
 have h2' := Sat.merge s1 s2 d a z
 simp only [List.cons_append,List.nil_append] at h2'
 clear h1 a z s1 s2 d
 have h2 : Sat (Vec w.o tTd 4 (w.t.told.map tdC)::SatL ((ws.map W29.at).set k Emp)::Row bo eo 0 true (ws.map W29.o)::Row bm em 0 true (ws.map W29.mv)::Row br er 0 true (ws.map W29.rv)::R) H := h2'.ent ee
 clear h2'
 obtain ⟨po,hpo⟩ := len_out h2
 have hT1 : Has (Vec w.o tTd 4 (w.t.told.map tdC)::SatL ((ws.map W29.at).set k Emp)::Row bo eo 0 true (ws.map W29.o)::Row bm em 0 true (ws.map W29.mv)::Row br er 0 true (ws.map W29.rv)::R) (ThrW tv td) := Has.skip (Has.skip (Has.skip (Has.skip (Has.skip hT))))
 have hr : (td.map fun t => [t.1])[k]? = some [t.1] := by rw [List.getElem?_map,et]; rfl
 obtain ⟨b,hb,_⟩ := (h2.has (thr_vec hT1)).slot hr
 rw [List.length_map,htd] at hb
 have hC := thr_at hT1 et
 obtain ⟨pl,hpl⟩ := (h2.has (calls_vec hC)).shape
 rw [List.length_map] at hpl
 rw [codeW_cut2 3 2,rRunB1_W,e1,e7,e8,e9,e11,hb]
 repeat (refine gO ?_; intros)
 refine Must.mk (ltN_t hkn) (ldRow h2 (off1 k) hwm ?_)
 repeat (refine gO ?_; intros)
 refine Must.mk (ltN_t hkn) (ldRow h2 (off1 k) hwr ?_)
 repeat (refine gO ?_; intros)
 refine Must.mk (ltN_t hkn) (ldRow h2 (off1 k) hwo ?_)
 refine AsLen.eq hpo ?_
 repeat (refine gO ?_; intros)
 refine Must.mk (ltN_t hkn) (ldVec h2 (thr_vec hT1) hb hr (j := 0) (by show 0 + k * 1 = _; omega) (by omega) rfl ?_)
 refine AsLen.eq hpl ?_
 by_cases hlt : w.t.told.length < t.2.length
 ·refine Cd.f (leZ_f hlt) ?_
  obtain ⟨c,ec⟩ : ∃ c,t.2[w.t.told.length]? = some c := ⟨_,List.getElem?_eq_getElem hlt⟩
  have hrc : (t.2.map callRow)[w.t.told.length]? = some (callRow c) := by rw [List.getElem?_map,ec]; rfl
  obtain ⟨bc,hbc,_⟩ := (h2.has (calls_vec hC)).slot hrc
  rw [List.length_map] at hbc
  have hxc : isCell c.2 = true := (h2.has (calls_at hC ec)).cell
  refine nw h2 fun p29 H30 h30 => ?_
  have hT3 := Has.skip (A := ThrW tv td) (B := Own p29 [.bool false,u64 0,.slice none 0 0]) hT1
  have hC3 := thr_at hT3 et
  repeat (refine gO ?_; intros)
  refine Must.mk (ltN_t hkn) (ldVec h30 (thr_vec hT3) hb hr (j := 0) (by show 0 + k * 1 = _; omega) (by omega) rfl ?_)
  repeat (refine gO ?_; intros)
  refine Must.mk (ltN_t hkn) (ldRow h30 (off1 k) hwo ?_)
  refine AsLen.eq hpo ?_
  refine AsSlc.eq hbc ?_
  refine Must.mk (ltN_t hlt) ?_
  refine ldVec h30 (calls_vec hC3) hbc hrc (j := 0) (by show 0 + w.t.told.length * 3 + 0 = _; omega) (by omega) rfl ?_
  refine ldVec h30 (calls_vec hC3) hbc hrc (j := 1) (by show 0 + w.t.told.length * 3 + 1 = _; omega) (by omega) rfl ?_
  refine ldVec h30 (calls_vec hC3) hbc hrc (j := 2) (by show 0 + w.t.told.length * 3 + 2 = _; omega) (by omega) rfl ?_
  refine stN h30 (Nat.le_of_ble_eq_true rfl) (by rw [List.all_cons,List.all_cons,List.all_cons,hxc]; rfl) fun H51 h51 => ?_
  have h51' : Sat (Own p29 [.bool c.1.rd,u64 c.1.addr,c.2]::Vec w.o tTd 4 (w.t.told.map tdC)::SatL ((ws.map W29.at).set k Emp)::Row bo eo 0 true (ws.map W29.o)::Row bm em 0 true (ws.map W29.mv)::Row br er 0 true (ws.map W29.rv)::R) H51 := h51
  clear h51 h30 h2
  have fin : ∀ (σ1 : TF) o' q' H1 (mvs rvs : List Value),Kp σ σ1→σ1 11 = σ 11→(mvs = (ws.set k ⟨o',q',⟨w.t.told++[td0],some (freshD c)⟩⟩).map W29.mv)→(rvs = (ws.set k ⟨o',q',⟨w.t.told++[td0],some (freshD c)⟩⟩).map W29.rv) →
    Sat (Vec o' tTd 4 (w.t.told.map tdC++[tdC td0])::NowD q' (some (freshD c))::SatL ((ws.map W29.at).set k Emp)::Row bo eo 0 true ((ws.map W29.o).set k o')::Row bm em 0 true mvs::Row br er 0 true rvs::R) H1 →
    codeW (dropC 5 (blkC ((flatC (blkC (lpAt Tryz.prog 24 0))).getD 2 .skip))) Tryz.prog con σ1 H1 Q := fun σ1 o' q' H1 mvs rvs hK h11 hm1 hr1 h3 => by
   refine kk c ec σ1 o' q' H1 hK h11 ?_
   have h44 := Sat.close (A := W29.at ⟨o',q',⟨w.t.told++[td0],some (freshD c)⟩⟩) (L1 := [Vec o' tTd 4 (w.t.told.map tdC++[tdC td0]),NowD q' (some (freshD c))]) h3 fun g a => by
    unfold W29.at
    rw [List.map_append]
    exact a
   have h45 := h44.putAll (by rw [List.length_map]; omega)
   rw [show (ws.map W29.at).set k (W29.at ⟨o',q',⟨w.t.told++[td0],some (freshD c)⟩⟩) = (ws.set k ⟨o',q',⟨w.t.told++[td0],some (freshD c)⟩⟩).map W29.at from (List.map_set ..).symm,show (ws.map W29.o).set k o' = (ws.set k ⟨o',q',⟨w.t.told++[td0],some (freshD c)⟩⟩).map W29.o by rw [List.map_set],hm1,hr1] at h45
   exact h45.ent ee
  repeat (refine gO ?_; intros)
  unfold freshD at fin
  cases hrd : c.1.rd with
  | true =>
   simp only [hrd,if_true] at fin
   refine Cd.t rfl ?_
   repeat (refine gO ?_; intros)
   rename_i p55 H56 h56
   refine Must.mk (ltN_t hkn) (st h56 (by rw [off1,hlr]; omega) rfl fun H62 h62 => ?_)
   rw [off1] at h62
   repeat (refine gO ?_; intros)
   refine Must.mk (ltN_t hkn) (ldRow h62 (off1 k) hwo ?_)
   refine nw h62 fun p69 H70 h70 => ?_
   refine app_vec (new := [tdC td0]) h70 pp el_td (by omega) sl_td (Src.cell (ys := tdC td0) (n := 4) rfl) rfl (by simp [tdC]) (by rw [List.length_map]; show _ + 1 ≤ _; omega) rfl fun v71 H72 h72 => ?_
   have hv71 : isCell v71 = true := by obtain ⟨q,rfl⟩ := (h72.has Has.vec).shape; rfl
   repeat (refine gO ?_; intros)
   refine Must.mk (ltN_t hkn) (Sc.mk hv71 (st h72 (by rw [off1,hlo]; omega) hv71 fun H78 h78 => ?_))
   rw [off1] at h78
   rw [ceP_n]
   have h79 : Sat (Own p55 [iN 0,u64 c.1.addr,iN 0,u64 0,u64 0,u64 0,u64 0,u64 0,snil,u64 0]::Vec v71 tTd 4 (w.t.told.map tdC++[tdC td0])::SatL ((ws.map W29.at).set k Emp)::Row bo eo 0 true ((ws.map W29.o).set k v71)::Row bm em 0 true (ws.map W29.mv)::Row br er 0 true ((ws.map W29.rv).set k (ptr p55 0))::R) H78 := h78.ent ee
   have h80 : Sat (RdDAt p55 ⟨c.1.addr,0,settD0 0,[],0⟩::Vec v71 tTd 4 (w.t.told.map tdC++[tdC td0])::SatL ((ws.map W29.at).set k Emp)::Row bo eo 0 true ((ws.map W29.o).set k v71)::Row bm em 0 true (ws.map W29.mv)::Row br er 0 true ((ws.map W29.rv).set k (ptr p55 0))::R) H78 := h79.imp fun g a => .inr ⟨by show ¬ 0 = 2; omega,snil,a⟩
   refine fin _ v71 p55 _ _ _ ⟨rfl,rfl,rfl,rfl,rfl,rfl,rfl⟩ rfl ?_ ?_ (h80.ent ee)
   ·rw [List.map_set]; exact (set_self hwm).symm
   ·rw [List.map_set]; rfl
  | false =>
   simp only [hrd,Bool.false_eq_true,if_false] at fin
   refine Cd.f rfl ?_
   repeat (refine gO ?_; intros)
   refine Sc.mk hxc (nw h51' fun p55 H56 h56 => ?_)
   repeat (refine gO ?_; intros)
   refine Must.mk (ltN_t hkn) (st h56 (by rw [off1,hlm]; omega) rfl fun H62 h62 => ?_)
   rw [off1] at h62
   repeat (refine gO ?_; intros)
   refine Must.mk (ltN_t hkn) (ldRow h62 (off1 k) hwo ?_)
   refine nw h62 fun p69 H70 h70 => ?_
   refine app_vec (new := [tdC td0]) h70 pp el_td (by omega) sl_td (Src.cell (ys := tdC td0) (n := 4) rfl) rfl (by simp [tdC]) (by rw [List.length_map]; show _ + 1 ≤ _; omega) rfl fun v71 H72 h72 => ?_
   have hv71 : isCell v71 = true := by obtain ⟨q,rfl⟩ := (h72.has Has.vec).shape; rfl
   repeat (refine gO ?_; intros)
   refine Must.mk (ltN_t hkn) (Sc.mk hv71 (st h72 (by rw [off1,hlo]; omega) hv71 fun H78 h78 => ?_))
   rw [off1] at h78
   rw [ceP_n]
   have h79 : Sat (Own p55 [iN 0,c.2,u64 0,snil,.bool false,iN 0]::Vec v71 tTd 4 (w.t.told.map tdC++[tdC td0])::SatL ((ws.map W29.at).set k Emp)::Row bo eo 0 true ((ws.map W29.o).set k v71)::Row bm em 0 true ((ws.map W29.mv).set k (ptr p55 0))::Row br er 0 true (ws.map W29.rv)::R) H78 := h78.ent ee
   have h80 : Sat (MuDAt p55 c.2 ⟨c.1.l,0,0,[],false,0⟩::Vec v71 tTd 4 (w.t.told.map tdC++[tdC td0])::SatL ((ws.map W29.at).set k Emp)::Row bo eo 0 true ((ws.map W29.o).set k v71)::Row bm em 0 true ((ws.map W29.mv).set k (ptr p55 0))::Row br er 0 true (ws.map W29.rv)::R) H78 := h79.imp fun g a => .inr ⟨by show ¬ 0 = 1; omega,snil,a⟩
   refine fin _ v71 p55 _ _ _ ⟨rfl,rfl,rfl,rfl,rfl,rfl,rfl⟩ rfl ?_ ?_ (h80.ent ee)
   ·rw [List.map_set]; rfl
   ·rw [List.map_set]; exact (set_self hwr).symm
 ·refine Cd.t (leZ_t (by omega)) ?_
  exact kx (List.getElem?_eq_none (by omega)) _ ⟨rfl,rfl,rfl,rfl,rfl,rfl,rfl⟩
end Go.Proofs.YtnkbmaccgifeoaaGreat

set_option linter.unusedVariables false
set_option linter.unusedSimpArgs false
namespace Go.Proofs.YtnkbmaccgifeoaaGreat
open Go Go.CM
attribute [local irreducible] AsBool AsWant AsNat AsInt AsCnt AsPtr AsSlc AsLen AsStr AsAgg AsTup AsFn AsIfc Nth Sc NotNil IsNil Must Cd codeW funW Sat SatL wrapN subM mkRow ltZ leZ ltN leN
attribute [local irreducible] isFunT
variable {con : CallT}
def KpN (σ τ : TF) : Prop := τ 0 = σ 0∧τ 1 = σ 1∧τ 2 = σ 2∧τ 7 = σ 7∧τ 8 = σ 8∧τ 9 = σ 9
theorem Kp.kn {a b : TF} (h : Kp a b) : KpN a b := by
 obtain ⟨b0,b1,b2,b7,b8,b9,b10⟩ := h
 exact ⟨b0,b1,b2,b7,b8,b9⟩
theorem dpick_skip {td : List (Value × List (CallS × Value))} {d : D29} {k : Nat} {t : Value × List (CallS × Value)} {x : T29} (h1 : td[k]? = some t) (h2 : d.ts[k]? = some x) (h3 : x.next t.2 = none) : d.pick td (.ofNat k) = d := by
 simp only [D29.pick,h1,h2,h3]
theorem dpick_go {td : List (Value × List (CallS × Value))} {d : D29} {k : Nat} {t : Value × List (CallS × Value)} {x : T29} {told : List Td29} {y : PrD} (h1 : td[k]? = some t) (h2 : d.ts[k]? = some x) (h3 : x.next t.2 = some (told,y)) :
  d.pick td (.ofNat k) = { M := (y.step d.M (Int.ofNat k)).2,ts := d.ts.set k (T29.after told (y.step d.M (Int.ofNat k)).1) } := by
 simp only [D29.pick,h1,h2,h3]
theorem hideK {c : Code} {H : CH} {Q : KX} {σ τ : TF} (h : Kp σ τ) (k : ∀ τ,Kp σ τ→codeW c Tryz.prog con τ H Q) : codeW c Tryz.prog con τ H Q := k τ h
theorem hideK11 {c : Code} {H : CH} {Q : KX} {σ τ : TF} {v : Value} (h : Kp σ τ) (h' : τ 11 = v) (k : ∀ τ,Kp σ τ→τ 11 = v→codeW c Tryz.prog con τ H Q) : codeW c Tryz.prog con τ H Q := k τ h h'
set_option maxRecDepth 100000 in
theorem rr_pick (hc : Con con lives) {td : List (Value × List (CallS × Value))} {tv xw : Value} (hsh : Short (callsOf td)) {g : G} {d : D29} {n0 : Nat} (hrel : Rel29 td g d) (hg : Good (callsOf td) n0 g) (hf : Fin29 g.M) (hn0 : n0 < 100000000) (htr : g.M.tr.length < 1000000000)
  {ws : List W29} {n bo eo bm em br er m j : Nat} {t : Int} {picks : List Int} {R : List HP} {H : CH} {σ : TF} {Q : KX} (hwt : ws.map W29.t = d.ts) (hn : td.length = n) (htl : td.length ≤ 64) (et : picks[j]? = some t) (hpk : picks.length < 1000000000)
  (hs : Sat (RefP m d.M::rowsW bo eo bm em br er ws (IntsR xw picks::R)) H) (hT : Has R (ThrW tv td))
  (e0 : σ 0 = ptr m 0) (e1 : σ 1 = tv) (e2 : σ 2 = xw) (e7 : σ 7 = slc bo 0 n n) (e8 : σ 8 = slc bm 0 n n) (e9 : σ 9 = slc br 0 n n) (e10 : σ 10 = iN j)
  (kk : ∀ σ1 H1 ws',KpN σ σ1→σ1 10 = iN (j + 1)→ws'.map W29.t = (d.pick td t).ts→Sat (RefP m (d.pick td t).M::rowsW bo eo bm em br er ws' (IntsR xw picks::R)) H1→Q .normal σ1 H1) :
  codeW (lpAt Tryz.prog 24 0) Tryz.prog con σ H Q := by
 have hj : j < picks.length := (List.getElem?_eq_some_iff.1 et).1
 have hasI : Has (RefP m d.M::rowsW bo eo bm em br er ws (IntsR xw picks::R)) (IntsR xw picks) := Has.skip (Has.skip (Has.skip (Has.skip (Has.skip (Has.here fun a t => IntsR.mono a t)))))
 have hT5 : Has (IntsR xw picks::R) (ThrW tv td) := Has.skip hT
 obtain ⟨bw,cw,csw,ewx,_,ecw,hldw⟩ := rows_at hs hasI et
 obtain ⟨pxt,hpxt⟩ := (hs.has (thr_vec (Has.skip (Has.skip (Has.skip (Has.skip (Has.skip hT5))))))).shape
 rw [List.length_map] at hpxt
 have hwl : ws.length = n := by have := congrArg List.length hwt; rw [List.length_map,hrel.len] at this; omega
 rw [rrn_lp,codeW_cut 2,rRunH_W,e2,e10]
 refine AsLen.eq ewx ?_
 repeat (refine gO ?_; intros)
 refine Cd.t (ltZ_t hj) ?_
 rw [ceP_n,codeW_cut2 2 1,rrn_sl,codeW_one,codeW_blk (id := 1) rrn_bk]
 have post : ∀ (σ1 : TF) (H1 : CH) ws',Kp σ σ1→ws'.map W29.t = (d.pick td t).ts→Sat (RefP m (d.pick td t).M::rowsW bo eo bm em br er ws' (IntsR xw picks::R)) H1→codeW (dropC (2 + 1) (blkC (lpAt Tryz.prog 24 0))) Tryz.prog con σ1 H1 Q := fun σ1 H1 ws' hK hw' h1 => by
  have hK' := hK
  obtain ⟨k0,k1,k2,k7,k8,k9,k10⟩ := hK
  rw [rRunZ_W,k10,e10]
  repeat (refine gO ?_; intros)
  try rw [addInt]
  refine inR_nat (by first | omega | (simp only; omega)) ?_
  repeat (refine gO ?_; intros)
  exact kk _ H1 ws' ⟨k0,k1,k2,k7,k8,k9⟩ rfl hw' h1
 have idle : ∀ (σ1 : TF),d.pick td t = d→Kp σ σ1→codeW (dropC (2 + 1) (blkC (lpAt Tryz.prog 24 0))) Tryz.prog con σ1 H Q := fun σ1 hp hK => by
  refine post σ1 H ws hK ?_ ?_
  ·rw [hp]; exact hwt
  ·rw [hp]; exact hs
 refine hideK (σ := σ) ⟨rfl,rfl,rfl,rfl,rfl,rfl,rfl⟩ fun ρ hρ => ?_
 obtain ⟨r0,r1,r2,r7,r8,r9,r10⟩ := id hρ
 rw [codeW_cut 3,rRunB0_W,r1,r2,r10,e1,e2,e10]
 refine AsSlc.eq ewx ?_
 repeat (refine gO ?_; intros)
 refine Must.mk (ltN_t hj) ?_
 refine hldw _ 0 _ _ (by show 0 + j * 1 = _; omega) (by rw [ecw]; rfl) ?_
 repeat (refine gO ?_; intros)
 cases t with
 | negSucc z =>
  refine Cd.t ltZ_neg ?_
  rw [ceP_x]
  refine Cd.t (eqN_self 1) ?_
  rw [ceP_n]
  exact idle _ rfl (Kp.trans hρ ⟨rfl,rfl,rfl,rfl,rfl,rfl,rfl⟩)
 | ofNat k =>
  refine Cd.f (ltZ_f (Nat.zero_le _)) ?_
  refine AsLen.eq hpxt ?_
  repeat (refine gO ?_; intros)
  by_cases hk : k < td.length
  ·refine Cd.f (leZ_f hk) ?_
   rw [ceP_n]
   obtain ⟨tt,ett⟩ : ∃ x,td[k]? = some x := ⟨_,List.getElem?_eq_getElem hk⟩
   obtain ⟨w,hw⟩ : ∃ x,ws[k]? = some x := ⟨_,List.getElem?_eq_getElem (by omega)⟩
   have ex : d.ts[k]? = some w.t := by rw [← hwt,List.getElem?_map,hw]; rfl
   have lc : (callsOf td).length = td.length := List.length_map ..
   obtain ⟨⟨a,o⟩,ea⟩ : ∃ x,g.ths[k]? = some x := ⟨_,List.getElem?_eq_getElem (by have := hg.1; omega)⟩
   obtain ⟨ss,es⟩ : ∃ x,g.st[k]? = some x := ⟨_,List.getElem?_eq_getElem (by have := hg.2.1; omega)⟩
   have hth := hrel.th k tt a o ss w.t ett ea es ex
   have hcs := (hsh _ (List.mem_of_getElem? (calls_get ett))).1
   rw [List.length_map] at hcs
   refine hideK11 (σ := σ) (v := i64 (Int.ofNat k)) (Kp.trans hρ ⟨rfl,rfl,rfl,rfl,rfl,rfl,rfl⟩) rfl fun τ hK e11 => ?_
   have hK' := hK
   obtain ⟨k0,k1,k2,k7,k8,k9,k10⟩ := hK'
   have hsR : Sat (rowsW bo eo bm em br er ws (RefP m d.M::IntsR xw picks::R)) H := hs.ent ee
   have hTR : Has (RefP m d.M::IntsR xw picks::R) (ThrW tv td) := Has.skip hT5
   rcases thR_next hth (hg.2.2 k _ a o ss (calls_get ett) ea es) with ⟨q1,q2⟩ | ⟨c,s,told,y,hcc,hsa,hnx,hl,ht,hr,hcl,hok⟩
   ·have hno : w.t.now = none := by
     unfold T29.next at q2
     split at q2
     ·cases q2
     ·assumption
    refine rr_new (t := tt) (n := n) hsR hw hwl hno hTR ett hn (by omega) (k1.trans e1) (k7.trans e7) (k8.trans e8) (k9.trans e9) e11 (fun hx σ1 hK1 => ?_) (fun c hcx => ?_)
    ·show ceP (CE.exit 1) _ _ _ σ1 H
     rw [ceP_x]
     refine Cd.t (eqN_self 1) ?_
     rw [ceP_n]
     exact idle _ (dpick_skip ett ex q2) (Kp.trans hK hK1)
    ·unfold T29.next at q2
     rw [hno] at q2
     simp only [hcx] at q2
     cases q2
   ·have hyok : y.Ok := prD_ok hr hcl hok hn0
    have hal : a < tt.2.length := (List.getElem?_eq_some_iff.1 hcc).1
    have hE : ∀ lv y',y = .mu lv y'→Has (IntsR xw picks::R) (EntS lv y'.l.toArray) := fun lv y' e => by
     subst e
     cases hr with
     | mu h1 h2 =>
      rw [h1.l,h2]
      exact calls_at (thr_at hT5 ett) hcc
    have hp := dpick_go (d := d) ett ex hnx
    have step : ∀ (τ1 : TF) (H1 : CH) (w1 : W29),Kp τ τ1→τ1 11 = τ 11→w1.t.now = some y→w1.t.told = told →
      Sat (rowsW bo eo bm em br er (ws.set k w1) (RefP m d.M::IntsR xw picks::R)) H1→codeW (dropC 5 (blkC ((flatC (blkC (lpAt Tryz.prog 24 0))).getD 2 .skip))) Tryz.prog con τ1 H1 (fun e => ceP e (ceP CE.normal (fun σ1 H1 => codeW (dropC (2 + 1) (blkC (lpAt Tryz.prog 24 0))) Tryz.prog con σ1 H1 Q) (fun i => Q (CE.exit i)) (Q CE.ret)) (fun i σ1 H1 => Cd (eqN i 1) (ceP CE.normal (fun σ1 H1 => codeW (dropC (2 + 1) (blkC (lpAt Tryz.prog 24 0))) Tryz.prog con σ1 H1 Q) (fun i => Q (CE.exit i)) (Q CE.ret) σ1 H1) (ceP (CE.exit i) (fun σ1 H1 => codeW (dropC (2 + 1) (blkC (lpAt Tryz.prog 24 0))) Tryz.prog con σ1 H1 Q) (fun i => Q (CE.exit i)) (Q CE.ret) σ1 H1)) (ceP CE.ret (fun σ1 H1 => codeW (dropC (2 + 1) (blkC (lpAt Tryz.prog 24 0))) Tryz.prog con σ1 H1 Q) (fun i => Q (CE.exit i)) (Q CE.ret))) := fun τ1 H1 w1 hK1 t11 hno hto h1 => by
     obtain ⟨l0,l1,l2,l7,l8,l9,l10⟩ := Kp.trans hK hK1
     have hw1 : (ws.set k w1)[k]? = some w1 := List.getElem?_set_self (by omega)
     refine rr_step hc (M := d.M) (m := m) (by exact h1.ent ee) hw1 (by rw [List.length_set]; exact hwl) hno (by rw [hto]; omega) (by rw [hto]; omega) hyok hE (by rw [← hrel.M]; exact hf.bd) (by rw [← hrel.M]; exact htr) (l0.trans e0) (l7.trans e7) (l8.trans e8) (l9.trans e9) (t11.trans e11) fun σ2 H2 hK2 h2 => ?_
     rw [hto,List.set_set] at h2
     show ceP CE.normal _ _ _ σ2 H2
     rw [ceP_n,ceP_n]
     refine post σ2 H2 (ws.set k ⟨w1.o,w1.q,T29.after told (y.step d.M (Int.ofNat k)).1⟩) (Kp.trans (Kp.trans hK hK1) hK2) ?_ ?_
     ·rw [hp,List.map_set,hwt]
     ·rw [hp]; exact h2
    cases hno : w.t.now with
    | some y0 =>
     have hnx' : (w.t.told,y0) = (told,y) := by unfold T29.next at hnx; rw [hno] at hnx; exact Option.some.inj hnx
     cases hnx'
     refine rr_old (n := n) hsR hw hwl hno (k8.trans e8) (k9.trans e9) e11 fun τ1 hK1 t11 => ?_
     refine step τ1 H w hK1 t11 hno rfl ?_
     rw [set_self hw]
     exact hsR
    | none =>
     refine rr_new (t := tt) (n := n) hsR hw hwl hno hTR ett hn (by omega) (k1.trans e1) (k7.trans e7) (k8.trans e8) (k9.trans e9) e11 (fun hx σ1 hK1 => ?_) (fun c' hcx τ1 o' q' H1 hK1 t11 h1 => ?_)
     ·unfold T29.next at hnx
      rw [hno] at hnx
      simp only [hx] at hnx
      cases hnx
     ·have hnx' : (w.t.told++[td0],freshD c') = (told,y) := by
       unfold T29.next at hnx
       rw [hno] at hnx
       simp only [hcx] at hnx
       exact Option.some.inj hnx
      cases hnx'
      exact step τ1 H1 ⟨o',q',⟨w.t.told++[td0],some (freshD c')⟩⟩ hK1 t11 rfl rfl h1
  ·refine Cd.t (leZ_t (by omega)) ?_
   rw [ceP_x]
   refine Cd.t (eqN_self 1) ?_
   rw [ceP_n]
   refine idle _ ?_ (Kp.trans hρ ⟨rfl,rfl,rfl,rfl,rfl,rfl,rfl⟩)
   have e : td[k]? = none := List.getElem?_eq_none (by omega)
   simp only [D29.pick,e]
noncomputable def elemT (t : Nat) : Nat := match Tryz.prog.underlying t with | some (.slice e) => e | _ => 0
theorem el_tds : elemOk Tryz.prog 82 (elemT 82) 1 24 = true := by kernel_rfl
theorem el_muds : elemOk Tryz.prog 155 (elemT 155) 1 8 = true := by kernel_rfl
theorem el_rdds : elemOk Tryz.prog 156 (elemT 156) 1 8 = true := by kernel_rfl
theorem zero_tds : (zeroOf Tryz.prog (elemT 82)).map cellsF = some [snil] := by kernel_rfl
theorem zero_muds : (zeroOf Tryz.prog (elemT 155)).map cellsF = some [nilP] := by kernel_rfl
theorem zero_rdds : (zeroOf Tryz.prog (elemT 156)).map cellsF = some [nilP] := by kernel_rfl
theorem rep1 (n : Nat) (v : Value) : (List.replicate n [v]).flatten = List.replicate n v := by
 induction n with
 | zero => rfl
 | succ n ih => rw [List.replicate_succ,List.replicate_succ,List.flatten_cons,ih]; rfl
def w290 : W29 := ⟨snil,0,⟨[],none⟩⟩
theorem all_w0 {L : List HP} {H : CH} (hs : Sat L H) : ∀ n,Sat (SatL ((List.replicate n w290).map W29.at)::L) H
 | 0 => Sat.none hs
 | n + 1 => by
  have h1 := all_w0 hs n
  rw [List.replicate_succ,List.map_cons]
  have h2 : Sat ([Vec snil tTd 4 [],Emp]++(SatL ((List.replicate n w290).map W29.at)::L)) H := ((h1.triv (A := Emp) fun g => trivial).nilV).ent ee
  have h3 := Sat.close (A := w290.at) h2 fun g a => a
  exact h3.recons
set_option maxRecDepth 100000 in
theorem rRun29_ok (hc : Con con lives) {td : List (Value × List (CallS × Value))} {tv xw : Value} {picks : List Int} {M : Mem} {R : List HP} {H : CH} {m : Nat} {K : KP} (hsh : Short (callsOf td)) (htl : td.length ≤ 64) (hpk : picks.length < 90000000) (hf : Fin29 M) (htr : M.tr.length ≤ 10)
  (hs : Sat (RefP m M::IntsR xw picks::R) H) (hT : Has R (ThrW tv td))
  (k : ∀ v ws H1,ws.map W29.t = (dAt td (d0 M td) picks picks.length).ts→(∃ bo eo bm em br er,v = slc bo 0 td.length td.length∧Sat (RefP m (dAt td (d0 M td) picks picks.length).M::rowsW bo eo bm em br er ws (IntsR xw picks::R)) H1)→K v H1) :
  Call1 Tryz.prog con 24 [ptr m 0,tv,xw] H K := by
 refine call_of (hc _ _ _ rfl) ?_
 rw [rRun29_W]
 have hlen : (td.map fun t => [t.1]).length = td.length := List.length_map ..
 obtain ⟨px,hpx⟩ := (hs.has (thr_vec (Has.skip (Has.skip hT)))).shape
 rw [hlen] at hpx
 obtain ⟨pw,cw,ewx⟩ := (hs.has (Has.skip (Has.here (A := IntsR xw picks) fun a t => IntsR.mono a t))).len
 refine AsLen.eq hpx ?_
 refine mkS hs el_tds zero_tds (Nat.le_refl _) (by omega) (by omega) fun bo H3 h3 => ?_
 refine AsLen.eq hpx ?_
 refine mkS h3 el_muds zero_muds (Nat.le_refl _) (by omega) (by omega) fun bm H6 h6 => ?_
 refine AsLen.eq hpx ?_
 refine mkS h6 el_rdds zero_rdds (Nat.le_refl _) (by omega) (by omega) fun br H9 h9 => ?_
 rw [rep1,rep1] at h9
 have h10 := all_w0 h9 td.length
 have o0 : List.replicate td.length snil = (List.replicate td.length w290).map W29.o := by rw [List.map_replicate]; rfl
 have m0 : List.replicate td.length nilP = (List.replicate td.length w290).map W29.mv := by rw [List.map_replicate]; rfl
 have r0 : List.replicate td.length nilP = (List.replicate td.length w290).map W29.rv := by rw [List.map_replicate]; rfl
 have h11 : Sat (RefP m M::rowsW bo (elemT 82) bm (elemT 155) br (elemT 156) (List.replicate td.length w290) (IntsR xw picks::R)) H9 := by
  have h12 : Sat (Row br (elemT 156) 0 true ((List.replicate td.length w290).map W29.rv)::Row bm (elemT 155) 0 true ((List.replicate td.length w290).map W29.mv)::Row bo (elemT 82) 0 true ((List.replicate td.length w290).map W29.o)::SatL ((List.replicate td.length w290).map W29.at)::RefP m M::IntsR xw picks::R) H9 := by
   rw [← o0,← m0,← r0]
   exact h10.ent ee
  exact h12.ent ee
 clear h3 h6 h9 h10
 refine LoopC.indP (n := 300) (id := 0) (fun σ H => σ 7 = slc bo 0 td.length td.length∧∃ ws,ws.map W29.t = (dAt td (d0 M td) picks picks.length).ts∧Sat (RefP m (dAt td (d0 M td) picks picks.length).M::rowsW bo (elemT 82) bm (elemT 155) br (elemT 156) ws (IntsR xw picks::R)) H) (by kernel_rfl)
  (fun (j : Nat) σ H => j ≤ picks.length∧σ 0 = ptr m 0∧σ 1 = tv∧σ 2 = xw∧σ 7 = slc bo 0 td.length td.length∧σ 8 = slc bm 0 td.length td.length∧σ 9 = slc br 0 td.length td.length∧σ 10 = iN j∧∃ ws,ws.map W29.t = (dAt td (d0 M td) picks j).ts∧Sat (RefP m (dAt td (d0 M td) picks j).M::rowsW bo (elemT 82) bm (elemT 155) br (elemT 156) ws (IntsR xw picks::R)) H)
  (fun j => picks.length - j) (fun j σ H hI => ?_) (fun σ H hP => ?_) 0 _ _ ⟨Nat.zero_le _,rfl,rfl,rfl,rfl,rfl,rfl,rfl,List.replicate td.length w290,by rw [List.map_replicate]; rfl,h11⟩
 ·obtain ⟨hj,a0,a1,a2,a7,a8,a9,a10,ws,hws,hs2⟩ := hI
  by_cases hlt : j < picks.length
  ·obtain ⟨t,et⟩ : ∃ t,picks[j]? = some t := ⟨_,List.getElem?_eq_getElem hlt⟩
   obtain ⟨g1,g2⟩ := gAt_good hsh (Nat.le_refl 1) hf (good0 M hsh 1) picks j
   have g3 := gAt_tr (g := g0 M (callsOf td)) picks j
   have g4 : (g0 M (callsOf td)).M.tr.length ≤ 10 := htr
   refine rr_pick hc hsh (rel_at hsh hf picks j) g1 g2 (by omega) (by omega) hws rfl htl et (by omega) hs2 hT a0 a1 a2 a7 a8 a9 a10 fun σ1 H1 ws' hK b10 hw' h1 => ?_
   obtain ⟨k0,k1,k2,k7,k8,k9⟩ := hK
   rw [← dAt_succ et] at hw' h1
   show ∃ y,_∧_
   exact ⟨j + 1,by omega,hlt,k0.trans a0,k1.trans a1,k2.trans a2,k7.trans a7,k8.trans a8,k9.trans a9,b10,ws',hw',h1⟩
  ·obtain rfl : j = picks.length := by omega
   rw [rrn_lp,codeW_cut 2,rRunH_W,a2,a10]
   refine AsLen.eq ewx ?_
   repeat (refine gO ?_; intros)
   refine Cd.f (ltZ_f (Nat.le_refl _)) ?_
   rw [ceP_x]
   show _ = _∧_
   exact ⟨rfl,a7,ws,hws,hs2⟩
 ·obtain ⟨a7,ws,hws,hs2⟩ := hP
  show Cd _ _ _
  refine Cd.t (eqN_self 0) ?_
  rw [a7]
  exact k _ ws _ hws ⟨bo,_,bm,_,br,_,rfl,hs2⟩
end Go.Proofs.YtnkbmaccgifeoaaGreat

