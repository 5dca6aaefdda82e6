/- The evaluator without a bound on its rounds, and what a piece of code asks for, step by step: where that holds, the evaluator answers. No conditions beyond the ones each theorem states. -/
import Derived.Test.YtoogdnemkfbgdaaCmC
set_option linter.unusedVariables false
set_option linter.unusedSimpArgs false

namespace Go.CM
open Go
variable {P : Program} {con : CallT}
noncomputable section
abbrev u64 (n : Nat) : Value := .int .u64 (Int.ofNat n)
abbrev u8 (n : Nat) : Value := .int .u8 (Int.ofNat n)
abbrev i64 (z : Int) : Value := .int .i64 z
abbrev iN (n : Nat) : Value := .int .i64 (Int.ofNat n)
abbrev slc (b o l c : Nat) : Value := .slice (some ⟨b,o,none⟩) l c
abbrev snil : Value := .slice none 0 0
abbrev unit : Value := .tuple ⟨[]⟩
theorem loopN_mono {body : TM→CH→Option (CE × TM × CH)} : ∀ (n m : Nat),n ≤ m→LeB (loopN body n) (loopN body m)
 | 0,_,_,_,_,_ => fun h => by simp [loopN] at h
 | n + 1,0,h,_,_,_ => absurd h (by omega)
 | n + 1,m + 1,h,a,H,r => by
  simp only [loopN]
  cases body a H with
  | none => exact id
  | some x =>
   obtain ⟨e,a1,H1⟩ := x
   cases e with
   | normal => exact loopN_mono n m (by omega) a1 H1 r
   | exit i => exact id
   | ret => exact id
theorem evalCode_lf {c1 : CallT} {l1 l2 : Nat} (hl : l1 ≤ l2) : ∀ c : Code,LeB (evalCode P c1 l1 c) (evalCode P c1 l2 c)
 | .skip,_,_,_ => id
 | .region i ops draw,a,H,r => by cases draw <;> exact id
 | .seq x y,a,H,r => by
  simp only [evalCode]
  cases hx : evalCode P c1 l1 x a H with
  | none => intro h; cases h
  | some q =>
   obtain ⟨e,a1,H1⟩ := q
   rw [evalCode_lf hl x _ _ _ hx]
   cases e with
   | normal => exact evalCode_lf hl y a1 H1 r
   | exit i => exact id
   | ret => exact id
 | .cond c x y,a,H,r => by
  simp only [evalCode]
  cases aeval a c <;> try exact id
  rename_i b
  cases b with
  | true => exact evalCode_lf hl x a H r
  | false => exact evalCode_lf hl y a H r
 | .block id' x,a,H,r => by
  simp only [evalCode]
  cases hx : evalCode P c1 l1 x a H with
  | none => intro h; cases h
  | some q => rw [evalCode_lf hl x _ _ _ hx]; exact id
 | .loop x,a,H,r => by
  simp only [evalCode]
  intro h
  exact loopN_mono l1 l2 hl a H r (loopN_le (evalCode_lf hl x) l1 a H r h)
 | .rangeFunc ..,_,_,_ => id
 | .exit _,_,_,_ => id
 | .scope _,_,_,_ => id
 | .label _,_,_,_ => id
 | .goto _,_,_,_ => id
 | .ret,_,_,_ => id
 | .refuse _,_,_,_ => id
theorem evalCode_mono {c1 c2 : CallT} (h : LeT c1 c2) {l1 l2 : Nat} (hl : l1 ≤ l2) (c : Code) : LeB (evalCode P c1 l1 c) (evalCode P c2 l2 c) := fun a H r e =>
 evalCode_lf hl c a H r (evalCode_le h l1 c a H r e)
theorem stepG_le {c1 c2 : CallT} (h : LeT c1 c2) {funs : FuncId→Option Func} {l1 l2 : Nat} (hl : l1 ≤ l2) : LeT (stepG P funs c1 l1) (stepG P funs c2 l2) := fun f args H r => by
 simp only [stepG]
 cases funs f with
 | none => exact id
 | some fn =>
  simp only
  cases Nat.ble args.size fn.ntmps with
  | false => exact id
  | true =>
   simp only [cond]
   cases fn.body with
   | none => exact id
   | some c =>
    simp only
    cases hc : evalCode P c1 l1 c (tOf 0 args.toList) H with
    | none => intro h; cases h
    | some x => rw [evalCode_mono h hl c _ _ _ hc]; exact id
theorem LeT.or {x y z : CallT} (h : LeT y z) : LeT (orT x y) (orT x z) := fun f args H r => by
 unfold orT
 cases x f args H with
 | none => exact h f args H r
 | some q => exact id
theorem evalG_le1 {funs : FuncId→Option Func} {lf : Nat} : ∀ n,LeT (evalG P con funs lf n) (evalG P con funs lf (n + 1))
 | 0 => fun f args H r e => by
  have e' : con f args H = some r := e
  show orT con _ f args H = some r
  unfold orT
  rw [e']
 | n + 1 => LeT.or (stepG_le (evalG_le1 n) (Nat.le_refl _))
theorem evalG_leN {funs : FuncId→Option Func} {lf n m : Nat} (h : n ≤ m) : LeT (evalG P con funs lf n) (evalG P con funs lf m) := by
 induction h with
 | refl => exact fun _ _ _ _ => id
 | step _ ih => exact fun f args H r e => evalG_le1 _ f args H r (ih f args H r e)
theorem evalG_lf {funs : FuncId→Option Func} {l1 l2 : Nat} (hl : l1 ≤ l2) : ∀ n,LeT (evalG P con funs l1 n) (evalG P con funs l2 n)
 | 0 => fun _ _ _ _ => id
 | n + 1 => LeT.or (stepG_le (evalG_lf hl n) hl)
def evalN (P : Program) (con : CallT) (N : Nat) : CallT := evalG P con (funAt P []) N N
theorem evalN_mono {N M : Nat} (h : N ≤ M) : LeT (evalN P con N) (evalN P con M) := fun f args H r e =>
 evalG_lf h M f args H r (evalG_leN h f args H r e)
def Ev (P : Program) (con : CallT) (f : FuncId) (args : List Value) (H : CH) (Q : Value→CH→Prop) : Prop :=
 ∃ N v H',evalN P con N f ⟨args⟩ H = some (v,H')∧Q v H'
theorem Ev.mono {f : FuncId} {args : List Value} {H : CH} {Q Q' : Value→CH→Prop} (h : Ev P con f args H Q) (hq : ∀ v H',Q v H'→Q' v H') : Ev P con f args H Q' := by
 obtain ⟨N,v,H',e,q⟩ := h
 exact ⟨N,v,H',e,hq v H' q⟩
abbrev TF := Nat→Value
def upd (σ : TF) (t : Nat) (v : Value) : TF := fun x => cond (Nat.beq x t) v (σ x)
def fput (σ : TF) (d : Option Tmp) (v : Value) : TF := Option.rec (motive := fun _ => TF) σ (fun d => upd σ d v) d
def feval (o : Operand) : TF→Value :=
 Operand.rec (motive := fun _ => TF→Value) (fun t σ => σ t) (fun v _ => v) (fun _ _ => undV) (fun f _ => .func (.func f) #[] #[]) o
def argT : List Value→Nat→TF
 | [],_ => fun _ => undV
 | v::l,i => upd (argT l (i + 1)) i v
def Rt (σ : TF) (a : TM) : Prop := ∀ t,aget a t = σ t
theorem Rt.eval {σ : TF} {a : TM} (h : Rt σ a) (o : Operand) : aeval a o = feval o σ := by
 cases o with
 | tmp t => exact h t
 | const v => rfl
 | global g => rfl
 | func f => rfl
theorem upd_same (σ : TF) (t : Nat) (v : Value) : upd σ t v t = v := by
 unfold upd; rw [show Nat.beq t t = true from Nat.beq_refl t]; rfl
theorem upd_other (σ : TF) {t x : Nat} (v : Value) (h : x ≠ t) : upd σ t v x = σ x := by
 unfold upd
 cases hb : Nat.beq x t with
 | true => exact absurd (Nat.eq_of_beq_eq_true hb) h
 | false => rfl
theorem upd_at (σ : TF) (t : Nat) (v : Value) (x : Nat) : upd σ t v x = if x = t then v else σ x := by
 by_cases h : x = t
 ·rw [if_pos h,h,upd_same]
 ·rw [if_neg h,upd_other σ v h]
theorem Rt.put {σ : TF} {a : TM} (h : Rt σ a) {n : Nat} (hn : n < 1048576) {d : Option Tmp} (hd : dstOk n d = true) (v : Value) : Rt (fput σ d v) (aput a d v) := fun t => by
 cases d with
 | none => exact h t
 | some d =>
  have hd' : d < n := blt_iff.1 hd
  rw [aget_put (Nat.lt_of_lt_of_le hd' (by omega)),h t]
  show _ = upd σ d v t
  rw [upd_at]
  by_cases e : d = t
  ·rw [if_pos e,if_pos e.symm]
  ·rw [if_neg e,if_neg (fun h => e h.symm)]
theorem argT_at : ∀ (l : List Value) (i t : Nat),argT l i t = if i ≤ t then l.getD (t - i) undV else undV
 | [],i,t => by simp [argT]
 | v::r,i,t => by
  show upd (argT r (i + 1)) i v t = _
  rw [upd_at,argT_at r (i + 1) t]
  by_cases e1 : t = i
  ·subst e1; simp
  ·rw [if_neg e1]
   by_cases e2 : i ≤ t
   ·rw [if_pos e2,if_pos (by omega),show t - i = (t - (i + 1)) + 1 by omega]
    simp
   ·rw [if_neg e2,if_neg (by omega)]
theorem Rt.args {l : List Value} (h : l.length < 1048575) : Rt (argT l 0) (tOf 0 l) := fun t => by
 rw [tOf_get l 0 t (by omega),argT_at]
def SC (P : Program) (con : CallT) (c : Code) (σ : TF) (H : CH) (Q : CE→TF→CH→Prop) : Prop :=
 ∀ a,Rt σ a→∃ N e a1 H1 σ1,(∀ M,N ≤ M→evalCode P (evalN P con M) M c a H = some (e,a1,H1))∧Rt σ1 a1∧Q e σ1 H1
theorem SC.mono {c : Code} {σ : TF} {H : CH} {Q Q' : CE→TF→CH→Prop} (h : SC P con c σ H Q) (hq : ∀ e σ H,Q e σ H→Q' e σ H) : SC P con c σ H Q' := fun a ha => by
 obtain ⟨N,e,a1,H1,σ1,h1,h2,h3⟩ := h a ha
 exact ⟨N,e,a1,H1,σ1,h1,h2,hq _ _ _ h3⟩
def ceP (e : CE) (n : TF→CH→Prop) (x : Nat→TF→CH→Prop) (r : TF→CH→Prop) : TF→CH→Prop :=
 CE.rec (motive := fun _ => (TF→CH→Prop)→(Nat→TF→CH→Prop)→(TF→CH→Prop)→TF→CH→Prop) (fun n _ _ => n) (fun i _ x _ => x i) (fun _ _ r => r) e n x r
theorem SC.seq {x y : Code} {σ : TF} {H : CH} {Q : CE→TF→CH→Prop} (h : SC P con x σ H (fun e => ceP e (fun σ1 H1 => SC P con y σ1 H1 Q) (fun i => Q (.exit i)) (Q .ret))) : SC P con (.seq x y) σ H Q := fun a ha => by
 obtain ⟨N,e,a1,H1,σ1,h1,h2,h3⟩ := h a ha
 cases e with
 | normal =>
  obtain ⟨N2,e2,a2,H2,σ2,g1,g2,g3⟩ := h3 a1 h2
  refine ⟨N + N2,e2,a2,H2,σ2,fun M hM => ?_,g2,g3⟩
  simp only [evalCode]
  rw [h1 M (by omega)]
  exact g1 M (by omega)
 | exit i =>
  refine ⟨N,.exit i,a1,H1,σ1,fun M hM => ?_,h2,h3⟩
  simp only [evalCode]
  rw [h1 M hM]
 | ret =>
  refine ⟨N,.ret,a1,H1,σ1,fun M hM => ?_,h2,h3⟩
  simp only [evalCode]
  rw [h1 M hM]
theorem SC.block {id : Nat} {x : Code} {σ : TF} {H : CH} {Q : CE→TF→CH→Prop}
  (h : SC P con x σ H (fun e => ceP e (Q .normal) (fun i σ1 H1 => Bool.rec (motive := fun _ => Prop) (Q (.exit i) σ1 H1) (Q .normal σ1 H1) (Nat.beq i id)) (Q .ret))) : SC P con (.block id x) σ H Q := fun a ha => by
 obtain ⟨N,e,a1,H1,σ1,h1,h2,h3⟩ := h a ha
 cases e with
 | normal =>
  refine ⟨N,.normal,a1,H1,σ1,fun M hM => ?_,h2,h3⟩
  simp only [evalCode]
  rw [h1 M hM]
 | exit i =>
  have h3' : Bool.rec (motive := fun _ => Prop) (Q (.exit i) σ1 H1) (Q .normal σ1 H1) (Nat.beq i id) := h3
  cases hb : Nat.beq i id with
  | true =>
   rw [hb] at h3'
   refine ⟨N,.normal,a1,H1,σ1,fun M hM => ?_,h2,h3'⟩
   simp only [evalCode]
   rw [h1 M hM]
   simp only [hb,cond_true]
  | false =>
   rw [hb] at h3'
   refine ⟨N,.exit i,a1,H1,σ1,fun M hM => ?_,h2,h3'⟩
   simp only [evalCode]
   rw [h1 M hM]
   simp only [hb,cond_false]
 | ret =>
  refine ⟨N,.ret,a1,H1,σ1,fun M hM => ?_,h2,h3⟩
  simp only [evalCode]
  rw [h1 M hM]
theorem SC.cond {c : Operand} {x y : Code} {σ : TF} {H : CH} {Q : CE→TF→CH→Prop} {b : Bool} (hb : feval c σ = .bool b) (h1 : b = true→SC P con x σ H Q) (h2 : b = false→SC P con y σ H Q) : SC P con (.cond c x y) σ H Q := fun a ha => by
 have e := ha.eval c
 rw [hb] at e
 cases b with
 | true =>
  obtain ⟨N,e',a1,H1,σ1,g1,g2,g3⟩ := h1 rfl a ha
  refine ⟨N,e',a1,H1,σ1,fun M hM => ?_,g2,g3⟩
  simp only [evalCode,e]
  exact g1 M hM
 | false =>
  obtain ⟨N,e',a1,H1,σ1,g1,g2,g3⟩ := h2 rfl a ha
  refine ⟨N,e',a1,H1,σ1,fun M hM => ?_,g2,g3⟩
  simp only [evalCode,e]
  exact g1 M hM
theorem SC.loop {α : Type} {c : Code} {Q : CE→TF→CH→Prop} (I : α→TF→CH→Prop) (μ : α→Nat)
  (h : ∀ x σ H,I x σ H→SC P con c σ H (fun e σ1 H1 => (e = .normal∧∃ y,μ y < μ x∧I y σ1 H1) ∨ (e ≠ .normal∧Q e σ1 H1))) :
  ∀ x σ H,I x σ H→SC P con (.loop c) σ H Q := by
 have key : ∀ (m : Nat) x σ H,μ x ≤ m→I x σ H→∀ a,Rt σ a→∃ N e a1 H1 σ1,(∀ M,N ≤ M→∀ k,m < k→loopN (evalCode P (evalN P con M) M c) k a H = some (e,a1,H1))∧Rt σ1 a1∧Q e σ1 H1 := by
  intro m
  induction m with
  | zero =>
   intro x σ H hm hI a ha
   obtain ⟨N,e,a1,H1,σ1,h1,h2,h3⟩ := h x σ H hI a ha
   rcases h3 with ⟨rfl,y,hy,_⟩ | ⟨he,hq⟩
   ·omega
   ·refine ⟨N,e,a1,H1,σ1,fun M hM k hk => ?_,h2,hq⟩
    obtain ⟨k,rfl⟩ : ∃ j,k = j + 1 := ⟨k - 1,by omega⟩
    simp only [loopN]
    rw [h1 M hM]
    cases e with
    | normal => exact absurd rfl he
    | exit i => rfl
    | ret => rfl
  | succ m ih =>
   intro x σ H hm hI a ha
   obtain ⟨N,e,a1,H1,σ1,h1,h2,h3⟩ := h x σ H hI a ha
   rcases h3 with ⟨rfl,y,hy,hIy⟩ | ⟨he,hq⟩
   ·obtain ⟨N2,e2,a2,H2,σ2,g1,g2,g3⟩ := ih y σ1 H1 (by omega) hIy a1 h2
    refine ⟨N + N2,e2,a2,H2,σ2,fun M hM k hk => ?_,g2,g3⟩
    obtain ⟨k,rfl⟩ : ∃ j,k = j + 1 := ⟨k - 1,by omega⟩
    simp only [loopN]
    rw [h1 M (by omega)]
    exact g1 M (by omega) k (by omega)
   ·refine ⟨N,e,a1,H1,σ1,fun M hM k hk => ?_,h2,hq⟩
    obtain ⟨k,rfl⟩ : ∃ j,k = j + 1 := ⟨k - 1,by omega⟩
    simp only [loopN]
    rw [h1 M hM]
    cases e with
    | normal => exact absurd rfl he
    | exit i => rfl
    | ret => rfl
 intro x σ H hI a ha
 obtain ⟨N,e,a1,H1,σ1,h1,h2,h3⟩ := key (μ x) x σ H (Nat.le_refl _) hI a ha
 refine ⟨N + μ x + 1,e,a1,H1,σ1,fun M hM => ?_,h2,h3⟩
 simp only [evalCode]
 exact h1 M (by omega) M (by omega)
def Res (P : Program) (rs : List ResultVar) (σ : TF) (H : CH) (Q : Value→CH→Prop) : Prop :=
 ∀ a,Rt σ a→∃ l,cresults P H a rs = some l∧Q (packR l) H
theorem Ev.of_code {f : FuncId} {fn : Func} {c : Code} {args : List Value} {H : CH} {Q : Value→CH→Prop} (hf : funAt P [] f = some fn) (hb : fn.body = some c) (hn : Nat.ble args.length fn.ntmps = true)
  (hc : con f ⟨args⟩ H = none)
  (h : SC P con c (argT args 0) H (fun e => ceP e (fun σ1 H1 => Res P fn.results.toList σ1 H1 Q) (fun _ _ _ => False) (fun σ1 H1 => Res P fn.results.toList σ1 H1 Q))) : Ev P con f args H Q := by
 obtain ⟨hf1,hok⟩ := funAt_ok f fn hf
 unfold fnOk at hok
 simp only [Bool.and_eq_true] at hok
 have hk : fn.ntmps < 1048575 := blt_iff.1 hok.1.1
 have hle := Nat.le_of_ble_eq_true hn
 obtain ⟨N,e,a1,H1,σ1,h1,h2,h3⟩ := h (tOf 0 args) (Rt.args (by omega))
 have hr : ∃ l,cresults P H1 a1 fn.results.toList = some l∧Q (packR l) H1∧(e = .normal ∨ e = .ret) := by
  cases e with
  | normal => obtain ⟨l,g1,g2⟩ := h3 a1 h2; exact ⟨l,g1,g2,.inl rfl⟩
  | exit i => exact False.elim h3
  | ret => obtain ⟨l,g1,g2⟩ := h3 a1 h2; exact ⟨l,g1,g2,.inr rfl⟩
 obtain ⟨l,g1,g2,g3⟩ := hr
 refine ⟨N + 1,packR l,H1,?_,g2⟩
 show orT con (stepG P (funAt P []) (evalG P con (funAt P []) (N + 1) N) (N + 1)) f ⟨args⟩ H = _
 unfold orT
 rw [hc]
 have hev : evalCode P (evalG P con (funAt P []) (N + 1) N) (N + 1) c (tOf 0 args) H = some (e,a1,H1) := by
  exact evalCode_mono (evalG_lf (Nat.le_succ N) N) (Nat.le_succ N) c _ _ _ (h1 N (Nat.le_refl _))
 show stepG P (funAt P []) (evalG P con (funAt P []) (N + 1) N) (N + 1) f ⟨args⟩ H = _
 unfold stepG
 rw [hf]
 simp only [hb,List.size_toArray,hn,cond_true,hev]
 rcases g3 with rfl | rfl
 ·simp only [g1,Option.map_some]
 ·simp only [g1,Option.map_some]
end
end Go.CM

namespace Go.CM
open Go
noncomputable section
def AsBool (v : Value) (K : Bool→Prop) : Prop := match v with | .bool b => K b | _ => False
def AsWant (v : Value) (K0 : Prop) (K : Bool→Prop) : Prop := match v with | .bool b => K b | .tuple cs => (match cs.toList with | [] => K0 | _ => False) | _ => False
def AsNat (k : IntKind) (v : Value) (K : Nat→Prop) : Prop := match v with | .int k' z => Bool.rec (motive := fun _ => Prop) False (match z with | .ofNat n => K n | .negSucc _ => False) (kindEq k k') | _ => False
def AsInt (k : IntKind) (v : Value) (K : Int→Prop) : Prop := match v with | .int k' z => Bool.rec (motive := fun _ => Prop) False (K z) (kindEq k k') | _ => False
def AsCnt (v : Value) (K : Nat→Prop) : Prop := match v with | .int _ z => (match z with | .ofNat n => K n | .negSucc _ => False) | _ => False
def AsPtr (v : Value) (K : Nat→Nat→Prop) : Prop := match v with | .pointer p => (match p with | some a => (match a with | ⟨b,o,s⟩ => (match s with | none => K b o | some _ => False)) | none => False) | _ => False
def AsSlc (v : Value) (K : Nat→Nat→Nat→Nat→Prop) : Prop := match v with | .slice p l c => (match p with | some a => (match a with | ⟨b,o,s⟩ => (match s with | none => K b o l c | some _ => False)) | none => False) | _ => False
def AsLen (v : Value) (K : Nat→Prop) : Prop := match v with | .slice _ l _ => K l | _ => False
def AsStr (v : Value) (K : ByteArray→Prop) : Prop := match v with | .string s => K s | _ => False
def AsAgg (v : Value) (K : List Value→Prop) : Prop := match v with | .agg cs => K cs.toList | _ => False
def AsTup (v : Value) (K : List Value→Prop) : Prop := match v with | .tuple cs => K cs.toList | _ => False
def AsFn (v : Value) (K : Nat→List Value→List Value→Prop) : Prop := match v with | .func f a b => (match f with | .func g => K g a.toList b.toList | _ => False) | _ => False
def AsIfc (v : Value) (K : Nat→Value→Prop) : Prop := match v with | .iface t x => K t x | _ => False
def Nth (l : List Value) (i : Nat) (K : Value→Prop) : Prop := match nthF l i with | some v => K v | none => False
def Sc (v : Value) (K : Prop) : Prop := Bool.rec (motive := fun _ => Prop) False K (isCellF v)
structure MethOk (P : Program) (name : String) (l : List Value) (K : Prop) : Prop where
 get : match l with | [v] => (match v with | .iface t x => (match cmethod P t x name with | some _ => K | none => False) | _ => False) | _ => False
def NotNil (P : Program) (v : Value) (K : Prop) : Prop := match v with | .pointer p => (match p with | some _ => K | none => False) | .func f a _ => (match f with | .func _ => K | .method name => MethOk P name a.toList K | _ => False) | .iface _ _ => K | _ => False
inductive NK where | ptr | slc | ifc | fnc
def IsNil (k : NK) (v : Value) (K : Bool→Prop) : Prop :=
 match k,v with
 | .ptr,.pointer p => K (match p with | none => true | some _ => false)
 | .slc,.slice p _ _ => K (match p with | none => true | some _ => false)
 | .ifc,.nilIface => K true
 | .ifc,.iface _ _ => K false
 | .fnc,.nilFunc => K true
 | .fnc,.func _ _ _ => K false
 | _,_ => False
def Cd (b : Bool) (p q : Prop) : Prop := Bool.rec (motive := fun _ => Prop) q p b
def Must (p : Bool) (K : Prop) : Prop := Bool.rec (motive := fun _ => Prop) False K p
structure InR (z : Int) (K : Prop) : Prop where
 lim : -9223372036854775808 ≤ z∧z < 9223372036854775808
 get : K
def ltN (a b : Nat) : Bool := Nat.blt a b
def leN (a b : Nat) : Bool := Nat.ble a b
def eqN (a b : Nat) : Bool := Nat.beq a b
def ltZ (a b : Int) : Bool := decide (a < b)
def leZ (a b : Int) : Bool := decide (a ≤ b)
def eqZ (a b : Int) : Bool := decide (a = b)
def eqB (a b : Bool) : Bool := Bool.rec (Bool.rec true false b) b a
def eqS (a b : ByteArray) : Bool := a.toList == b.toList
def notB (a : Bool) : Bool := Bool.rec true false a
def subM (m x y : Nat) : Nat := Int.toNat (Int.emod (Int.sub (Int.ofNat x) (Int.ofNat y)) (Int.ofNat m))
def wrapN (k : IntKind) (z : Int) : Nat := Int.toNat (Int.emod z (Int.ofNat (limK k)))
structure Ld (H : CH) (b off : Nat) (K : Value→Prop) : Prop where
 get : match H.cell b off with | some v => K v | none => False
structure St (H : CH) (b off : Nat) (vs : List Value) (K : CH→Prop) : Prop where
 get : match H.storeL b off vs with | some H1 => K H1 | none => False
def mkRow (elem : TypeId) (es : Nat) (cs : List Value) : Blk := { elem,size := cs.length,es,wr := true,dead := false,cells := { base := fun j => nthF cs j,own := .leaf } }
structure Nw (H : CH) (k : Blk) (K : Nat→CH→Prop) : Prop where
 get : K H.next (H.new k)
structure App (P : Program) (s t : TypeId) (H : CH) (x y : Value) (K : Value→CH→Prop) : Prop where
 get : match cappend P H #[s,t] #[x,y] with | some r => K r.1 r.2 | none => False
structure Cpy (P : Program) (s : TypeId) (H : CH) (x y : Value) (K : Value→CH→Prop) : Prop where
 get : match ccopy P H #[s] #[x,y] with | some r => K r.1 r.2 | none => False
structure Clr (P : Program) (s : TypeId) (H : CH) (x : Value) (K : Value→CH→Prop) : Prop where
 get : match cclear P H #[s] #[x] with | some r => K r.1 r.2 | none => False
structure Slc (P : Program) (H : CH) (t : TypeId) (x : Value) (lo hi mx : Option Value) (K : Value→Prop) : Prop where
 get : match cslice P H t x lo hi mx with | some v => K v | none => False
structure MkS (P : Program) (H : CH) (t : TypeId) (l c : Value) (K : Value→CH→Prop) : Prop where
 get : match cmakeSlice P H t l c with | some r => K r.1 r.2 | none => False
structure OpN (P : Program) (H : CH) (σ : TF) (op : Op) (K : Value→CH→Prop) : Prop where
 get : match cop P (fun o => feval o σ) H op with | some (.val v,H1) => K v H1 | _ => False
structure CInt (op : BinOp) (k : IntKind) (a b : Int) (K : Value→Prop) : Prop where
 get : match cintOp op k a b with | some v => K v | none => False
structure Call1 (P : Program) (con : CallT) (f : FuncId) (args : List Value) (H : CH) (K : Value→CH→Prop) : Prop where
 get : Ev P con f args H K
structure Mth (P : Program) (con : CallT) (v : Value) (name : String) (args : List Value) (H : CH) (K : Value→CH→Prop) : Prop where
 get : match v with
 | .iface t x => (match cmethod P t x name with | some r => Must (isFunT P r.1) (Ev P con r.1 (r.2::args) H K) | none => False)
 | _ => False
structure LoopC (P : Program) (con : CallT) (c : Code) (σ : TF) (H : CH) (Q : CE→TF→CH→Prop) : Prop where
 get : SC P con (.loop c) σ H Q
structure Same (x y : Value) (K : Prop) : Prop where
 get : Must (veq 100 x y) K
end
end Go.CM

namespace Go.CM
open Go
noncomputable section
abbrev KP := Value→CH→Prop
abbrev OpW := Program→CallT→TF→CH→KP→Prop
inductive TK where
 | nat (k : IntKind)
 | int (k : IntKind)
 | bool
 | str
 | nk (k : NK)
 | other
def tyK (P : Program) (t : TypeId) : TK :=
 match P.underlying t with
 | some (.int k) => Bool.rec (.nat k) (.int k) (sgnF k)
 | some .bool => .bool
 | some .string => .str
 | some (.pointer _) => .nk .ptr
 | some (.slice _) => .nk .slc
 | some (.interface _) => .nk .ifc
 | some (.func _ _ _) => .nk .fnc
 | _ => .other
def mapE (l : List Operand) (σ : TF) : List Value := mapF (fun o => feval o σ) l
def wMove (x : Operand) (_ : Program) (_ : CallT) (σ : TF) (H : CH) (K : KP) : Prop := K (feval x σ) H
def wPick (c x y : Operand) (_ : Program) (_ : CallT) (σ : TF) (H : CH) (K : KP) : Prop :=
 AsBool (feval c σ) fun b => Bool.rec (motive := fun _ => Prop) (K (feval y σ) H) (K (feval x σ) H) b
def wAlloc (t : TypeId) (P : Program) (_ : CallT) (_ : TF) (H : CH) (K : KP) : Prop :=
 match zeroOf P t with
 | some z => Nw H (mkRow t 0 (cellsF z)) fun b H1 => K (ptr b 0) H1
 | none => False
def eachN (n : Nat) : Nat→List Value→(List Value→Prop)→Prop :=
 Nat.rec (motive := fun _ => Nat→List Value→(List Value→Prop)→Prop) (fun _ _ K => K []) (fun _ ih i l K => Nth l i fun x => ih (Nat.succ i) l (fun r => K (x::r))) n
def cellsW (P : Program) (t : TypeId) (v : Value) (K : List Value→Prop) : Prop :=
 match isAggT P t,szOf P t with
 | some true,some n => AsAgg v fun l => Must (eqN (lenF l) n) (eachN n 0 l K)
 | some false,some n => Sc v (Must (eqN 1 n) (K [v]))
 | _,_ => False
def wBox (t : TypeId) (x : Operand) (P : Program) (_ : CallT) (σ : TF) (H : CH) (K : KP) : Prop :=
 cellsW P t (feval x σ) fun l => Nw H (mkRow t 0 l) fun b H1 => K (ptr b 0) H1
def setN (l : List Value) (x : Value) : Nat→List Value :=
 List.rec (motive := fun _ => Nat→List Value) (fun _ => []) (fun y r ih i => Nat.rec (motive := fun _ => List Value) (x::r) (fun j _ => y::ih j) i) l
def ovw (l : List Value) (cs : List Value) (off : Nat) : List Value :=
 List.rec (motive := fun _ => List Value→Nat→List Value) (fun cs _ => cs) (fun x _ ih cs off => ih (setN cs x off) (Nat.succ off)) l cs off
def fieldPl (fs : List Field) (i : Nat) : Option (Nat × TypeId) :=
 match nthF fs i with
 | some f => some (f.offset,f.type)
 | none => none
def partsW (P : Program) (pl : Nat→Option (Nat × TypeId)) (σ : TF) (ps : List (Nat × Operand)) : List Value→(List Value→Prop)→Prop :=
 List.rec (motive := fun _ => List Value→(List Value→Prop)→Prop) (fun cs K => K cs)
  (fun p _ ih cs K =>
   match pl p.1 with
   | some q => cellsW P q.2 (feval p.2 σ) fun l => Must (leN (Nat.add q.1 (lenF l)) (lenF cs)) (ih (ovw l cs q.1) K)
   | none => False) ps
def wBuild (t : TypeId) (parts : Array (Nat × Operand)) (P : Program) (_ : CallT) (σ : TF) (H : CH) (K : KP) : Prop :=
 match zeroOf P t,P.underlying t with
 | some z,some (.struct fs) => (match placesOf P fs.toList with | some _ => partsW P (fieldPl fs.toList) σ parts.toList (cellsF z) fun cs => K (.agg ⟨cs⟩) H | none => False)
 | some z,some (.array _ e) =>
  match szOf P e with
  | some s => partsW P (fun i => some (Nat.mul i s,e)) σ parts.toList (cellsF z) fun cs => K (.agg ⟨cs⟩) H
  | none => False
 | _,_ => False
def repN (n : Nat) (z : List Value) : List Value := Nat.rec (motive := fun _ => List Value) [] (fun _ ih => appF z ih) n
def wBuildSlice (t : TypeId) (len : Nat) (parts : Array (Nat × Operand)) (P : Program) (_ : CallT) (σ : TF) (H : CH) (K : KP) : Prop :=
 match P.underlying t with
 | some (.slice e) =>
  match szOf P e,zeroOf P e with
  | some s,some z => Must (Nat.beq (lenF (cellsF z)) s && (Nat.blt 0 s && Nat.ble (Nat.mul len s) 16777216))
    (partsW P (fun i => some (Nat.mul i s,e)) σ parts.toList (repN len (cellsF z)) fun cs => Nw H (mkRow e 0 cs) fun b H1 => K (.slice (some ⟨b,0,none⟩) len len) H1)
  | _,_ => False
 | _ => False
def ldL (H : CH) (b off : Nat) (n : Nat) : Nat→(List Value→Prop)→Prop :=
 Nat.rec (motive := fun _ => Nat→(List Value→Prop)→Prop) (fun _ K => K []) (fun _ ih j K => Ld H b (Nat.add off j) fun v => ih (Nat.succ j) fun vs => K (v::vs)) n
def loadW (P : Program) (t : TypeId) (H : CH) (b off : Nat) (K : Value→Prop) : Prop :=
 match isAggT P t with
 | some true =>
  match szOf P t with
  | some n => Must (Nat.blt 0 n) (ldL H b off n 0 fun vs => K (.agg ⟨vs⟩))
  | none => False
 | some false => Ld H b off K
 | none => False
def wLoad (t : TypeId) (x : Operand) (P : Program) (_ : CallT) (σ : TF) (H : CH) (K : KP) : Prop :=
 AsPtr (feval x σ) fun b off => loadW P t H b off fun v => K v H
def wStore (t : TypeId) (x y : Operand) (P : Program) (_ : CallT) (σ : TF) (H : CH) (K : KP) : Prop :=
 AsPtr (feval x σ) fun b off => cellsW P t (feval y σ) fun l => St H b off l fun H1 => K undV H1
def wNil (x : Operand) (P : Program) (_ : CallT) (σ : TF) (H : CH) (K : KP) : Prop := NotNil P (feval x σ) (K (feval x σ) H)
def isNilO (k : NK) (o : Operand) : Bool :=
 match k,o with
 | .ptr,.const (.pointer none) => true
 | .slc,.const (.slice none _ _) => true
 | .fnc,.const .nilFunc => true
 | .ifc,.const .nilIface => true
 | _,_ => false
inductive BK where | add | sub | mul | quo | rem | and | or | xor | andNot | shl | shr | eql | neq | lss | leq | gtr | geq
def bk (op : BinOp) : BK :=
 match op with
 | .add => .add | .sub => .sub | .mul => .mul | .quo => .quo | .rem => .rem | .and => .and | .or => .or | .xor => .xor | .andNot => .andNot | .shl => .shl | .shr => .shr
 | .eql => .eql | .neq => .neq | .lss => .lss | .leq => .leq | .gtr => .gtr | .geq => .geq
def natOp (b : BK) (op : BinOp) (k : IntKind) (x y : Nat) (K : Value→Prop) : Prop :=
 match b with
 | .add => K (.int k (Int.ofNat (Nat.mod (Nat.add x y) (limK k))))
 | .sub => K (.int k (Int.ofNat (subM (limK k) x y)))
 | .mul => K (.int k (Int.ofNat (Nat.mod (Nat.mul x y) (limK k))))
 | .quo => Must (notB (eqN y 0)) (K (.int k (Int.ofNat (Nat.mod (Nat.div x y) (limK k)))))
 | .rem => Must (notB (eqN y 0)) (K (.int k (Int.ofNat (Nat.mod x y))))
 | .eql => K (.bool (eqN x y))
 | .neq => K (.bool (notB (eqN x y)))
 | .lss => K (.bool (ltN x y))
 | .leq => K (.bool (leN x y))
 | .gtr => K (.bool (ltN y x))
 | .geq => K (.bool (leN y x))
 | _ => CInt op k (Int.ofNat x) (Int.ofNat y) K
def intOp (b : BK) (op : BinOp) (k : IntKind) (x y : Int) (K : Value→Prop) : Prop :=
 match b with
 | .add => Bool.rec (motive := fun _ => Prop) (CInt op k x y K) (InR (Int.add x y) (K (.int k (Int.add x y)))) (kindEq k .i64)
 | .sub => Bool.rec (motive := fun _ => Prop) (CInt op k x y K) (InR (Int.sub x y) (K (.int k (Int.sub x y)))) (kindEq k .i64)
 | .eql => K (.bool (eqZ x y))
 | .neq => K (.bool (notB (eqZ x y)))
 | .lss => K (.bool (ltZ x y))
 | .leq => K (.bool (leZ x y))
 | .gtr => K (.bool (ltZ y x))
 | .geq => K (.bool (leZ y x))
 | _ => CInt op k x y K
def shiftOp (b : BK) (k : IntKind) (x y : Nat) (K : Value→Prop) : Prop :=
 match b with
 | .shl => K (.int k (Int.ofNat (Nat.mod (Nat.mul x (Nat.pow 2 (Nat.min y k.bits))) (limK k))))
 | .shr => K (.int k (Int.ofNat (Nat.div x (Nat.pow 2 (Nat.min y k.bits)))))
 | _ => False
def isShiftB (b : BK) : Bool := match b with | .shl => true | .shr => true | _ => false
def cmpB (b : BK) (eq : Bool) (K : Value→Prop) : Prop :=
 match b with
 | .eql => K (.bool eq)
 | .neq => K (.bool (notB eq))
 | _ => False
def wBin (op : BinOp) (t : TypeId) (x y : Operand) (t' : TypeId) (P : Program) (_ : CallT) (σ : TF) (H : CH) (K : KP) : Prop :=
 match tyK P t with
 | .nat k => Bool.rec (motive := fun _ => Prop)
   (AsNat k (feval x σ) fun a => AsNat k (feval y σ) fun b => natOp (bk op) op k a b fun v => K v H)
   (AsNat k (feval x σ) fun a => AsCnt (feval y σ) fun b => shiftOp (bk op) k a b fun v => K v H) (isShiftB (bk op))
 | .int k => Bool.rec (motive := fun _ => Prop)
   (AsInt k (feval x σ) fun a => AsInt k (feval y σ) fun b => intOp (bk op) op k a b fun v => K v H)
   (OpN P H σ (.binOp op t x y t') K) (isShiftB (bk op))
 | .bool => AsBool (feval x σ) fun a => AsBool (feval y σ) fun b => cmpB (bk op) (eqB a b) fun v => K v H
 | .str => (match bk op with
  | .eql => AsStr (feval x σ) fun a => AsStr (feval y σ) fun b => K (.bool (eqS a b)) H
  | .neq => AsStr (feval x σ) fun a => AsStr (feval y σ) fun b => K (.bool (notB (eqS a b))) H
  | _ => OpN P H σ (.binOp op t x y t') K)
 | .nk k => Bool.rec (motive := fun _ => Prop)
   (Bool.rec (motive := fun _ => Prop) (OpN P H σ (.binOp op t x y t') K)
    (IsNil k (feval y σ) fun b => cmpB (bk op) b fun v => K v H) (isNilO k x))
   (IsNil k (feval x σ) fun b => cmpB (bk op) b fun v => K v H) (isNilO k y)
 | .other => OpN P H σ (.binOp op t x y t') K
def wUn (op : UnOp) (t : TypeId) (x : Operand) (P : Program) (_ : CallT) (σ : TF) (H : CH) (K : KP) : Prop :=
 match op with
 | .not => AsBool (feval x σ) fun b => K (.bool (notB b)) H
 | _ => OpN P H σ (.unOp op t x) K
def convN (ks kd : IntKind) (n : Nat) (K : Value→Prop) : Prop :=
 Bool.rec (motive := fun _ => Prop)
  (Must (ltN n (limK ks)) (Bool.rec (motive := fun _ => Prop) (K (.int kd (kd.wrap (Int.ofNat n)))) (K (.int kd (Int.ofNat n))) (Nat.ble (limK ks) (limK kd))))
  (Bool.rec (motive := fun _ => Prop) (Bool.rec (motive := fun _ => Prop) (K (.int kd (Int.ofNat (Nat.mod n (limK kd))))) (K (.int kd (kd.wrap (Int.ofNat n)))) (sgnF kd)) (K (.int kd (Int.ofNat (Nat.mod n (limK kd))))) (kindEq kd .u64)) (kindEq ks .u64)
def wConv (s d : TypeId) (x : Operand) (P : Program) (_ : CallT) (σ : TF) (H : CH) (K : KP) : Prop :=
 match tyK P s,tyK P d with
 | .nat ks,.nat kd => AsNat ks (feval x σ) fun n => convN ks kd n fun v => K v H
 | .nat ks,.int kd => AsNat ks (feval x σ) fun n => convN ks kd n fun v => K v H
 | .int ks,.nat kd => AsInt ks (feval x σ) fun z => Must (cvOk ks z) (K (.int kd (Int.ofNat (wrapN kd z))) H)
 | .int ks,.int kd => AsInt ks (feval x σ) fun z => Must (cvOk ks z) (K (.int kd (kd.wrap z)) H)
 | .str,.str => AsStr (feval x σ) fun s => K (.string s) H
 | _,_ => OpN P H σ (.convert s d x) K
def wMkI (t : TypeId) (x : Operand) (P : Program) (_ : CallT) (σ : TF) (H : CH) (K : KP) : Prop :=
 match P.underlying t with
 | some (.interface _) => False
 | some _ => K (.iface t (feval x σ)) H
 | none => False
def wMkF (f : Fn) (x y : Array Operand) (_ : Program) (_ : CallT) (σ : TF) (H : CH) (K : KP) : Prop :=
 match f with
 | .func g => K (.func (.func g) ⟨mapE x.toList σ⟩ ⟨mapE y.toList σ⟩) H
 | .method g => K (.func (.method g) ⟨mapE x.toList σ⟩ ⟨mapE y.toList σ⟩) H
 | _ => False
def wMkS (t : TypeId) (l c : Operand) (P : Program) (_ : CallT) (σ : TF) (H : CH) (K : KP) : Prop := MkS P H t (feval l σ) (feval c σ) K
def optE (o : Option Operand) (σ : TF) : Option Value := Option.rec (motive := fun _ => Option Value) none (fun o => some (feval o σ)) o
def wSlice (t : TypeId) (x : Operand) (lo hi mx : Option Operand) (P : Program) (_ : CallT) (σ : TF) (H : CH) (K : KP) : Prop :=
 Slc P H t (feval x σ) (optE lo σ) (optE hi σ) (optE mx σ) fun v => K v H
def wFieldAt (t : TypeId) (x : Operand) (f : Nat) (P : Program) (_ : CallT) (σ : TF) (H : CH) (K : KP) : Prop :=
 match fieldOf P t f with
 | some o => AsPtr (feval x σ) fun b off => K (ptr b (Nat.add off o)) H
 | none => False
def wField (t : TypeId) (x : Operand) (f : Nat) (P : Program) (_ : CallT) (σ : TF) (H : CH) (K : KP) : Prop :=
 match fieldPart P t f with
 | some q => AsAgg (feval x σ) fun l => (match q.2 with | none => Nth l q.1 fun v => K v H | some n => K (.agg ⟨takeF n (dropF q.1 l)⟩) H)
 | none => False
def wIndexAt (t : TypeId) (x y : Operand) (P : Program) (_ : CallT) (σ : TF) (H : CH) (K : KP) : Prop :=
 match sliceElem P t with
 | some s => AsSlc (feval x σ) fun b off len _ => AsCnt (feval y σ) fun i => Must (ltN i len) (K (ptr b (Nat.add off (Nat.mul i s))) H)
 | none =>
  match P.underlying t with
  | some (.array n e) =>
   match szOf P e with
   | some s => AsPtr (feval x σ) fun b off => AsCnt (feval y σ) fun i => Must (ltN i n) (K (ptr b (Nat.add off (Nat.mul i s))) H)
   | none => False
  | _ => False
def wExtract (x : Operand) (i : Nat) (_ : Program) (_ : CallT) (σ : TF) (H : CH) (K : KP) : Prop :=
 AsTup (feval x σ) fun l => Nth l i fun v => K v H
def argTy (c : Call) (i : Nat) : Option TypeId := nthF c.argTypes.toList i
def argV (c : Call) (σ : TF) (i : Nat) : Option Value := nthF (mapE c.args.toList σ) i
def wLen (c : Call) (P : Program) (σ : TF) (H : CH) (K : KP) : Prop :=
 match argTy c 0,argV c σ 0 with
 | some t,some v =>
  match P.underlying t with
  | some (.slice _) => AsLen v fun n => K (.int .i64 (Int.ofNat n)) H
  | some .string => AsStr v fun s => K (.int .i64 (Int.ofNat s.size)) H
  | some (.array n _) => K (.int .i64 (Int.ofNat n)) H
  | _ => False
 | _,_ => False
def wMinMax (mx : Bool) (c : Call) (P : Program) (σ : TF) (H : CH) (K : KP) : Prop :=
 match argTy c 0,mapE c.args.toList σ with
 | some t,[x,y] =>
  match tyK P t with
  | .nat k => AsNat k x fun a => AsNat k y fun b => K (.int k (Int.ofNat (Bool.rec (Nat.min a b) (Nat.max a b) mx))) H
  | .int k => AsInt k x fun a => AsInt k y fun b => Bool.rec (motive := fun _ => Prop) (K (.int k a) H) (K (.int k b) H) (Bool.rec (ltZ b a) (ltZ a b) mx)
  | _ => False
 | _,_ => False
def wBuiltin (b : Builtin) (c : Call) (P : Program) (σ : TF) (H : CH) (K : KP) : Prop :=
 match b with
 | .append => (match argTy c 0,argTy c 1,argV c σ 0,argV c σ 1 with | some s,some t,some x,some y => App P s t H x y K | _,_,_,_ => False)
 | .copy => (match argTy c 0,argV c σ 0,argV c σ 1 with | some s,some x,some y => Cpy P s H x y K | _,_,_ => False)
 | .clear => (match argTy c 0,argV c σ 0 with | some s,some x => Clr P s H x K | _,_ => False)
 | .len => wLen c P σ H K
 | .min => wMinMax false c P σ H K
 | .max => wMinMax true c P σ H K
 | _ => False
def wCall (c : Call) (P : Program) (con : CallT) (σ : TF) (H : CH) (K : KP) : Prop :=
 match c.callee with
 | .builtin b => wBuiltin b c P σ H K
 | .invoke r name => Mth P con (feval r σ) name (mapE c.args.toList σ) H K
 | .value f => AsFn (feval f σ) fun g first cap => Must (isFunT P g) (Call1 P con g (appF first (appF (mapE c.args.toList σ) cap)) H K)
def wNone (_ : Program) (_ : CallT) (_ : TF) (_ : CH) (_ : KP) : Prop := False
def wAny (op : Op) (P : Program) (_ : CallT) (σ : TF) (H : CH) (K : KP) : Prop := OpN P H σ op K
def opW (op : Op) : OpW :=
 Op.rec (motive := fun _ => OpW) wMove wMove wPick wAlloc wBox wBuild wBuildSlice (fun _ _ _ _ => wNone)
  wLoad wStore (fun _ => wNone) (fun _ => wNone) wNil wBin wUn wConv
  (fun _ _ => wNone) wMkI wMkF (fun _ _ => wNone)
  (fun _ _ => wNone) wMkS wSlice wFieldAt wField wIndexAt (fun t x i => wAny (.index t x i))
  (fun _ _ _ _ => wNone) (fun _ _ _ _ => wNone) (fun _ _ _ => wNone) (fun _ _ _ _ => wNone)
  (fun _ _ => wNone) (fun _ _ => wNone) (fun _ => wNone) (fun _ _ _ _ => wNone) wExtract wCall
  (fun _ => wNone) (fun _ => wNone) (fun _ => wNone) (fun _ _ => wNone) (fun _ _ _ => wNone) (fun _ _ => wNone) op
def notW (b : Bool) : Bool := Bool.rec true false b
def wantW (o : Oper) (ops : List Oper) (σ : TF) (K : Bool→TF→Prop) : Prop :=
 Option.rec (motive := fun _ => Prop) (K true σ)
  (fun g => Option.rec (motive := fun _ => Prop) (K false σ) (fun o => Option.rec (motive := fun _ => Prop) (K false σ)
   (fun d => AsWant (σ d) (K false (upd σ d undV)) fun b => Bool.rec (motive := fun _ => Prop) (K (notW g.2) (upd σ d (.bool false))) (K g.2 (upd σ d (.bool true))) b) o.dst) (nthF ops g.1)) o.guard
def stepW (P : Program) (con : CallT) (ops : List Oper) (o : Oper) (σ : TF) (H : CH) (K : Bool→TF→KP) : Prop :=
 wantW o ops σ fun b σ => Bool.rec (motive := fun _ => Prop) (K false σ undV H) (opW o.op P con σ H (K true σ)) b
abbrev KT := TF→CH→Prop
def opsW (l : List Oper) : List Oper→Program→CallT→TF→CH→KT→Prop :=
 List.rec (motive := fun _ => List Oper→Program→CallT→TF→CH→KT→Prop) (fun _ _ _ σ H K => K σ H)
  (fun o _ ih ops P con σ H K => stepW P con ops o σ H fun _ σ v H1 => ih ops P con (fput σ o.dst v) H1 K) l
structure RecW where
 at_ : Nat
 σ : TF
 op : Op
 got : Value
abbrev DrawW := List Oper→Program→CallT→Nat→TF→CH→List CH→List RecW→(TF→CH→List CH→List RecW→Prop)→Prop
def dOpsW (l : List Oper) : DrawW :=
 List.rec (motive := fun _ => DrawW) (fun _ _ _ _ σ H hs rs K => K σ H (H::hs) rs)
  (fun o _ ih ops P con i σ H hs rs K => Bool.rec (motive := fun _ => Prop)
   (stepW P con ops o σ H fun b σ v H1 => Bool.rec (motive := fun _ => Prop)
    (ih ops P con (Nat.succ i) (fput σ o.dst v) H1 hs (Bool.rec (motive := fun _ => List RecW) rs (⟨i,σ,o.op,v⟩::rs) (b && heapDep o.op)) K)
    (ih ops P con (Nat.succ i) (fput σ o.dst v) H1 (H::hs) rs K) (isEff o.op))
   (ih ops P con (Nat.succ i) σ H hs rs K) (isAlloc o.op)) l
def floatsW (l : List Oper) : Program→TF→CH→KT→Prop :=
 List.rec (motive := fun _ => Program→TF→CH→KT→Prop) (fun _ σ H K => K σ H)
  (fun o _ ih P σ H K =>
   match o.op with
   | .alloc t => (match zeroOf P t with | some z => Nw H (mkRow t 0 (cellsF z)) fun b H1 => ih P (fput σ o.dst (ptr b 0)) H1 K | none => False)
   | _ => ih P σ H K) l
def chkW (P : Program) (con : CallT) (lo hi : Nat) (r : RecW) (l : List CH) : Nat→Prop→Prop :=
 List.rec (motive := fun _ => Nat→Prop→Prop) (fun _ K => K)
  (fun H _ ih k K => Bool.rec (motive := fun _ => Prop) (ih (Nat.succ k) K) (opW r.op P con r.σ H fun v _ => Same r.got v (ih (Nat.succ k) K)) (Nat.ble lo k && Nat.ble k hi)) l
def recsW (P : Program) (con : CallT) (ms : Array Nat) (es : List Nat) (hs : List CH) (rs : List RecW) : Prop→Prop :=
 List.rec (motive := fun _ => Prop→Prop) (fun K => K)
  (fun r _ ih K => Bool.rec (motive := fun _ => Prop) (chkW P con (kmin ms es r.at_) (kmax ms es r.at_) r hs 0 (ih K)) (ih K) (Nat.beq (kmin ms es r.at_) (kmax ms es r.at_))) rs
def drawW (ops : Array Oper) (P : Program) (con : CallT) (σ : TF) (H : CH) (K : KT) : Prop :=
 floatsW ops.toList P σ H fun σ0 H0 => dOpsW ops.toList ops.toList P con 0 σ0 H0 [] [] fun σ1 H1 hs rs => recsW P con (Region.before ops) (effs ops) hs.reverse rs (K σ1 H1)
abbrev KX := CE→TF→CH→Prop
abbrev CodeW := Program→CallT→TF→CH→KX→Prop
def vSkip (_ : Program) (_ : CallT) (σ : TF) (H : CH) (K : KX) : Prop := K .normal σ H
def vRegion (_ : Nat) (ops : Array Oper) (draw : Bool) (P : Program) (con : CallT) (σ : TF) (H : CH) (K : KX) : Prop :=
 Bool.rec (motive := fun _ => Prop) (opsW ops.toList ops.toList P con σ H fun σ1 H1 => K .normal σ1 H1) (drawW ops P con σ H fun σ1 H1 => K .normal σ1 H1) draw
def vSeq (_ _ : Code) (x y : CodeW) (P : Program) (con : CallT) (σ : TF) (H : CH) (K : KX) : Prop :=
 x P con σ H fun e => ceP e (fun σ1 H1 => y P con σ1 H1 K) (fun i => K (.exit i)) (K .ret)
def vCond (c : Operand) (_ _ : Code) (x y : CodeW) (P : Program) (con : CallT) (σ : TF) (H : CH) (K : KX) : Prop :=
 AsBool (feval c σ) fun b => Bool.rec (motive := fun _ => Prop) (y P con σ H K) (x P con σ H K) b
def vBlock (id : Nat) (_ : Code) (x : CodeW) (P : Program) (con : CallT) (σ : TF) (H : CH) (K : KX) : Prop :=
 x P con σ H fun e => ceP e (K .normal) (fun i σ1 H1 => Bool.rec (motive := fun _ => Prop) (K (.exit i) σ1 H1) (K .normal σ1 H1) (eqN i id)) (K .ret)
def vLoop (c : Code) (_ : CodeW) (P : Program) (con : CallT) (σ : TF) (H : CH) (K : KX) : Prop := LoopC P con c σ H K
def vExit (id : Nat) (_ : Program) (_ : CallT) (σ : TF) (H : CH) (K : KX) : Prop := K (.exit id) σ H
def vRet (_ : Program) (_ : CallT) (σ : TF) (H : CH) (K : KX) : Prop := K .ret σ H
def vBad (_ : Program) (_ : CallT) (_ : TF) (_ : CH) (_ : KX) : Prop := False
def codeW (c : Code) : CodeW :=
 Code.rec (motive := fun _ => CodeW) vSkip vRegion vSeq vCond vBlock vLoop (fun _ _ _ _ _ _ => vBad) vExit (fun _ _ => vBad) (fun _ => vBad) (fun _ => vBad) vRet (fun _ => vBad) c
def resW (P : Program) (rs : List ResultVar) : TF→CH→(List Value→Prop)→Prop :=
 List.rec (motive := fun _ => TF→CH→(List Value→Prop)→Prop) (fun _ _ K => K [])
  (fun r _ ih σ H K =>
   match r with
   | .tmp t => ih σ H fun l => K (σ t::l)
   | .cell c t => AsPtr (σ c) fun b off => loadW P t H b off fun v => ih σ H fun l => K (v::l)) rs
def funW (P : Program) (con : CallT) (f : FuncId) (args : List Value) (H : CH) (K : KP) : Prop :=
 match funAt P [] f with
 | some fn =>
  match fn.body with
  | some c => Must (Nat.ble (lenF args) fn.ntmps)
    (codeW c P con (argT args 0) H fun e => ceP e (fun σ1 H1 => resW P fn.results.toList σ1 H1 fun l => K (packR l) H1) (fun _ _ _ => False) (fun σ1 H1 => resW P fn.results.toList σ1 H1 fun l => K (packR l) H1))
  | none => False
 | none => False
def lps (c : Code) : List Code :=
 Code.rec (motive := fun _ => List Code) [] (fun _ _ _ => []) (fun _ _ x y => appF x y) (fun _ _ _ x y => appF x y) (fun _ _ x => x) (fun c x => c::x) (fun _ _ _ _ _ _ => []) (fun _ => []) (fun _ _ => []) (fun _ => []) (fun _ => []) [] (fun _ => []) c
def lpAt (P : Program) (f i : Nat) : Code :=
 match P.funcs[f]? with
 | some fn => (match fn.body with | some c => (match nthF (lps c) i with | some l => l | none => .skip) | none => .skip)
 | none => .skip
def blkC (c : Code) : Code := match c with | .block _ x => x | x => x
def flatC : Code→List Code
 | .seq a b => flatC a++flatC b
 | c => [c]
def seqL : List Code→Code
 | [] => .skip
 | c::r => .seq c (seqL r)
def takeC (k : Nat) (c : Code) : Code := seqL ((flatC c).take k)
def dropC (k : Nat) (c : Code) : Code := seqL ((flatC c).drop k)
def sliceC (k n : Nat) (c : Code) : Code := seqL (((flatC c).drop k).take n)
end
end Go.CM

namespace Go.CM
open Go
noncomputable section
variable {P : Program} {con : CallT}
theorem AsBool.out {v : Value} {K : Bool→Prop} (h : AsBool v K) : ∃ b,v = .bool b∧K b := by
 cases v <;> first | exact ⟨_,rfl,h⟩ | exact h.elim
theorem AsNat.out {k : IntKind} {v : Value} {K : Nat→Prop} (h : AsNat k v K) : ∃ n,v = .int k (Int.ofNat n)∧K n := by
 cases v <;> try exact h.elim
 rename_i k' z
 have h' : Bool.rec (motive := fun _ => Prop) False (match (generalizing := false) z with | .ofNat n => K n | .negSucc _ => False) (kindEq k k') := h
 rw [kindEq_eq] at h'
 by_cases e : k = k'
 ·subst e
  rw [decide_eq_true rfl] at h'
  cases z with
  | ofNat n => exact ⟨n,rfl,h'⟩
  | negSucc n => exact h'.elim
 ·rw [decide_eq_false e] at h'; exact h'.elim
theorem AsInt.out {k : IntKind} {v : Value} {K : Int→Prop} (h : AsInt k v K) : ∃ n,v = .int k n∧K n := by
 cases v <;> try exact h.elim
 rename_i k' z
 have h' : Bool.rec (motive := fun _ => Prop) False (K z) (kindEq k k') := h
 rw [kindEq_eq] at h'
 by_cases e : k = k'
 ·subst e
  rw [decide_eq_true rfl] at h'
  exact ⟨z,rfl,h'⟩
 ·rw [decide_eq_false e] at h'; exact h'.elim
theorem AsCnt.out {v : Value} {K : Nat→Prop} (h : AsCnt v K) : ∃ k n,v = .int k (Int.ofNat n)∧K n := by
 cases v <;> try exact h.elim
 rename_i k' z
 cases z with
 | ofNat n => exact ⟨k',n,rfl,h⟩
 | negSucc n => exact h.elim
theorem AsPtr.out {v : Value} {K : Nat→Nat→Prop} (h : AsPtr v K) : ∃ b o,v = ptr b o∧K b o := by
 cases v <;> try exact h.elim
 rename_i p
 cases p with
 | none => exact h.elim
 | some a =>
  obtain ⟨b,o,s⟩ := a
  cases s with
  | none => exact ⟨b,o,rfl,h⟩
  | some _ => exact h.elim
theorem AsSlc.out {v : Value} {K : Nat→Nat→Nat→Nat→Prop} (h : AsSlc v K) : ∃ b o l c,v = .slice (some ⟨b,o,none⟩) l c∧K b o l c := by
 cases v <;> try exact h.elim
 rename_i p l c
 cases p with
 | none => exact h.elim
 | some a =>
  obtain ⟨b,o,s⟩ := a
  cases s with
  | none => exact ⟨b,o,l,c,rfl,h⟩
  | some _ => exact h.elim
theorem AsLen.out {v : Value} {K : Nat→Prop} (h : AsLen v K) : ∃ p l c,v = .slice p l c∧K l := by
 cases v <;> first | exact ⟨_,_,_,rfl,h⟩ | exact h.elim
theorem AsStr.out {v : Value} {K : ByteArray→Prop} (h : AsStr v K) : ∃ s,v = .string s∧K s := by
 cases v <;> first | exact ⟨_,rfl,h⟩ | exact h.elim
theorem AsAgg.out {v : Value} {K : List Value→Prop} (h : AsAgg v K) : ∃ cs,v = .agg cs∧K cs.toList := by
 cases v <;> first | exact ⟨_,rfl,h⟩ | exact h.elim
theorem AsTup.out {v : Value} {K : List Value→Prop} (h : AsTup v K) : ∃ cs,v = .tuple cs∧K cs.toList := by
 cases v <;> first | exact ⟨_,rfl,h⟩ | exact h.elim
theorem AsFn.out {v : Value} {K : Nat→List Value→List Value→Prop} (h : AsFn v K) : ∃ g a b,v = .func (.func g) a b∧K g a.toList b.toList := by
 cases v <;> try exact h.elim
 rename_i f a b
 cases f <;> first | exact ⟨_,_,_,rfl,h⟩ | exact h.elim
theorem Nth.out {l : List Value} {i : Nat} {K : Value→Prop} (h : Nth l i K) : ∃ v,l[i]? = some v∧K v := by
 unfold Nth at h
 rw [nthF_eq] at h
 cases e : l[i]? with
 | none => rw [e] at h; exact h.elim
 | some v => rw [e] at h; exact ⟨v,rfl,h⟩
theorem Must.out {p : Bool} {K : Prop} (h : Must p K) : p = true∧K := by
 cases p with
 | false => exact h.elim
 | true => exact ⟨rfl,h⟩
theorem Sc.out {v : Value} {K : Prop} (h : Sc v K) : isCell v = true∧K := by
 have e : isCellF v = isCell v := by cases v <;> rfl
 unfold Sc at h
 rw [e] at h
 exact Must.out h
theorem isCell_cells {v : Value} (h : isCell v = true) : v.cells = #[v] := by cases v <;> first | rfl | cases h
theorem Ld.out {H : CH} {b off : Nat} {K : Value→Prop} (h : Ld H b off K) : ∃ v,H.cell b off = some v∧K v := by
 replace h := h.get
 cases e : H.cell b off with
 | none => rw [e] at h; exact h.elim
 | some v => rw [e] at h; exact ⟨v,rfl,h⟩
theorem St.out {H : CH} {b off : Nat} {vs : List Value} {K : CH→Prop} (h : St H b off vs K) : ∃ H1,H.storeL b off vs = some H1∧K H1 := by
 replace h := h.get
 cases e : H.storeL b off vs with
 | none => rw [e] at h; exact h.elim
 | some v => rw [e] at h; exact ⟨v,rfl,h⟩
def opR (P : Program) (call : CallT) (e : Operand→Value) (H : CH) (op : Op) : Option (Value × CH) :=
 match cop P e H op with
 | some (.val v,H1) => some (v,H1)
 | some (.enter f args,H1) => call f args H1
 | none => none
def SO (P : Program) (con : CallT) (e : Operand→Value) (H : CH) (op : Op) (K : KP) : Prop :=
 ∃ N v H1,(∀ M,N ≤ M→opR P (evalN P con M) e H op = some (v,H1))∧K v H1
theorem SO.val {e : Operand→Value} {H H1 : CH} {op : Op} {K : KP} {v : Value} (h : cop P e H op = some (.val v,H1)) (k : K v H1) : SO P con e H op K :=
 ⟨0,v,H1,fun M _ => by unfold opR; rw [h],k⟩
theorem SO.call {e : Operand→Value} {H H1 : CH} {op : Op} {K : KP} {f : FuncId} {args : Array Value} (h : cop P e H op = some (.enter f args,H1)) (k : Ev P con f args.toList H1 K) : SO P con e H op K := by
 obtain ⟨N,v,H',hv,q⟩ := k
 refine ⟨N,v,H',fun M hM => ?_,q⟩
 unfold opR
 rw [h]
 exact evalN_mono hM f args H1 _ hv
theorem mapE_eq (l : List Operand) (σ : TF) : mapE l σ = l.map (fun o => feval o σ) := by unfold mapE; rw [mapF_eq]
theorem eachN.out : ∀ {n i : Nat} {l : List Value} {K : List Value→Prop},eachN n i l K→l.length = i + n→K (l.drop i)
 | 0,i,l,K,h,hl => by
  rw [List.drop_eq_nil_of_le (by omega)]; exact h
 | n + 1,i,l,K,h,hl => by
  have h' : Nth l i fun x => eachN n (i + 1) l (fun r => K (x::r)) := h
  obtain ⟨v,hv,h2⟩ := h'.out
  have h3 := eachN.out h2 (by omega)
  obtain ⟨hi,rfl⟩ := List.getElem?_eq_some_iff.1 hv
  rw [List.drop_eq_getElem_cons hi]
  exact h3
theorem cellsW.out {t : TypeId} {v : Value} {K : List Value→Prop} (h : cellsW P t v K) : ∃ n,szOf P t = some n∧v.cells.size = n∧K v.cells.toList := by
 unfold cellsW at h
 cases ha : isAggT P t with
 | none => simp only [ha] at h
 | some g =>
  cases hs : szOf P t with
  | none => rw [ha,hs] at h; cases g <;> exact h.elim
  | some n =>
   rw [ha,hs] at h
   cases g with
   | true =>
    have h' : AsAgg v (fun l => Must (eqN (lenF l) n) (eachN n 0 l K)) := h
    obtain ⟨cs,rfl,h2⟩ := h'.out
    obtain ⟨e,h3⟩ := Must.out h2
    have := Nat.eq_of_beq_eq_true e
    rw [lenF_eq,Array.length_toList] at this
    refine ⟨n,rfl,this,?_⟩
    have h4 := eachN.out h3 (by rw [Array.length_toList,this,Nat.zero_add])
    rw [List.drop_zero] at h4
    exact h4
   | false =>
    have h' : Sc v (Must (eqN 1 n) (K [v])) := h
    obtain ⟨hc,h2⟩ := h'.out
    obtain ⟨e,h3⟩ := h2.out
    rw [isCell_cells hc]
    exact ⟨n,rfl,Nat.eq_of_beq_eq_true e,h3⟩
theorem mkRow_eq (t : TypeId) (cs : Array Value) : mkRow t 0 cs.toList = rowOf t cs := by
 unfold mkRow rowOf
 simp only [Array.length_toList]
 congr 2
 funext j
 rw [nthF_eq,Array.getElem?_toList]
theorem setN_eq : ∀ (l : List Value) (x : Value) (i : Nat),setN l x i = l.set i x
 | [],_,_ => rfl
 | y::r,x,0 => rfl
 | y::r,x,i + 1 => by
  have e : setN (y::r) x (i + 1) = y::setN r x i := rfl
  rw [e,setN_eq r x i]; rfl
theorem ovw_eq : ∀ (l : List Value) (cs : Array Value) (off k : Nat),(l.zipIdx k).foldl (fun (cs : Array Value) p => cs.setIfInBounds (off + p.2) p.1) cs = ⟨ovw l cs.toList (off + k)⟩
 | [],cs,off,k => rfl
 | x::r,cs,off,k => by
  have e : ovw (x::r) cs.toList (off + k) = ovw r (setN cs.toList x (off + k)) (Nat.succ (off + k)) := rfl
  rw [List.zipIdx_cons,List.foldl_cons,ovw_eq r _ off (k + 1),e,setN_eq]
  simp only [Array.toList_setIfInBounds]
  rfl
theorem partsW.out {pl : Nat→Option (Nat × TypeId)} {place : Nat→Option (Nat × Nat)} {σ : TF} (hp : ∀ i off t n,pl i = some (off,t)→szOf P t = some n→place i = some (off,n)) : ∀ (ps : List (Nat × Operand)) (cs : Array Value) (K : List Value→Prop),partsW P pl σ ps cs.toList K →
  ∃ cs',Instr.fill place cs (ps.map fun p => (p.1,feval p.2 σ)) = some cs'∧K cs'.toList
 | [],cs,K,h => ⟨cs,rfl,h⟩
 | (i,x)::r,cs,K,h => by
  have h' : (match pl i with
   | some q => cellsW P q.2 (feval x σ) fun l => Must (leN (Nat.add q.1 (lenF l)) (lenF cs.toList)) (partsW P pl σ r (ovw l cs.toList q.1) K)
   | none => False) := h
  cases hq : pl i with
  | none => rw [hq] at h'; exact h'.elim
  | some q =>
   obtain ⟨off,t⟩ := q
   rw [hq] at h'
   obtain ⟨n,h1,h2,h3⟩ := cellsW.out h'
   obtain ⟨h4,h5⟩ := Must.out h3
   have h4' := Nat.le_of_ble_eq_true h4
   rw [lenF_eq,lenF_eq,Array.length_toList,Array.length_toList] at h4'
   have h4'' : off + (feval x σ).cells.size ≤ cs.size := h4'
   have e : ovw (feval x σ).cells.toList cs.toList off = ((feval x σ).cells.zipIdx.foldl (fun (cs : Array Value) p => cs.setIfInBounds (off + p.2) p.1) cs).toList := by
    rw [← Array.foldl_toList,Array.toList_zipIdx,ovw_eq _ cs off 0]
    rfl
   have h5' : partsW P pl σ r (ovw (feval x σ).cells.toList cs.toList off) K := h5
   rw [e] at h5'
   obtain ⟨cs',g1,g2⟩ := partsW.out hp r _ K h5'
   refine ⟨cs',?_,g2⟩
   simp only [List.map_cons,Instr.fill,hp i off t n hq h1]
   rw [if_neg (by simp only [Bool.or_eq_true,decide_eq_true_eq,ne_eq]; omega)]
   exact g1
theorem placesOf_get : ∀ (l : List Field) (ps : List (Nat × Nat)),placesOf P l = some ps→∀ (i : Nat) (f : Field),l[i]? = some f→∃ s,szOf P f.type = some s∧ps[i]? = some (f.offset,s)
 | [],ps,h,i,f,hf => by cases hf
 | g::r,ps,h,i,f,hf => by
  simp only [placesOf] at h
  cases hs : szOf P g.type with
  | none => simp [hs] at h
  | some s =>
   cases hr : placesOf P r with
   | none => simp [hs,hr] at h
   | some l =>
    simp only [hs,hr,Option.some.injEq] at h
    subst h
    cases i with
    | zero =>
     simp only [List.getElem?_cons_zero,Option.some.injEq] at hf
     subst hf
     exact ⟨s,hs,rfl⟩
    | succ i => exact placesOf_get r l hr i f hf
theorem repN_len (z : List Value) : ∀ n,(repN n z).length = n * z.length
 | 0 => by rw [Nat.zero_mul]; rfl
 | n + 1 => by
  have e : repN (n + 1) z = appF z (repN n z) := rfl
  rw [e,appF_eq,List.length_append,repN_len z n,Nat.succ_mul,Nat.add_comm]
theorem repN_get (z : List Value) (hz : 0 < z.length) : ∀ n j,j < n * z.length→(repN n z)[j]? = z[j % z.length]?
 | 0,j,h => by omega
 | n + 1,j,h => by
  have e : repN (n + 1) z = appF z (repN n z) := rfl
  rw [e,appF_eq]
  by_cases hj : j < z.length
  ·rw [List.getElem?_append_left hj,Nat.mod_eq_of_lt hj]
  ·rw [List.getElem?_append_right (by omega),repN_get z hz n (j - z.length) (by rw [Nat.succ_mul] at h; omega),← Nat.mod_eq_sub_mod (by omega)]
theorem rep_eq (z : Array Value) (n : Nat) (hz : 0 < z.size) : (Array.range (n * z.size)).map (fun j => z[j % z.size]!) = ⟨repN n z.toList⟩ := by
 apply Array.ext_getElem?
 intro j
 by_cases hj : j < n * z.size
 ·have h1 : (repN n z.toList)[j]? = z.toList[j % z.toList.length]? := repN_get z.toList (by simpa using hz) n j (by simpa using hj)
  have hm : j % z.size < z.size := Nat.mod_lt _ hz
  simp only [Array.getElem?_map,List.getElem?_toArray,h1]
  simp [hj,hm]
 ·have h1 : (repN n z.toList).length ≤ j := by rw [repN_len]; simp only [Array.length_toList]; omega
  simp only [Array.getElem?_map,List.getElem?_toArray,List.getElem?_eq_none h1]
  simp [hj]
theorem cell_live {H : CH} {b off : Nat} {v : Value} (h : H.cell b off = some v) : ∃ k,H.live b = some k∧k.get off = some v := by
 unfold CH.cell at h
 cases e : H.live b with
 | none => rw [e] at h; cases h
 | some k => rw [e] at h; exact ⟨k,rfl,h⟩
theorem ldL.out {H : CH} {b off : Nat} {k : Blk} (hl : H.live b = some k) : ∀ (n j : Nat) (K : List Value→Prop),ldL H b off n j K→∃ vs,k.list (off + j) n = some vs∧K vs
 | 0,j,K,h => ⟨[],rfl,h⟩
 | n + 1,j,K,h => by
  have h' : Ld H b (off + j) fun v => ldL H b off n (j + 1) fun vs => K (v::vs) := h
  obtain ⟨v,h1,h2⟩ := h'.out
  obtain ⟨k',hk,h3⟩ := cell_live h1
  rw [hl] at hk
  cases hk
  obtain ⟨vs,g1,g2⟩ := ldL.out hl n (j + 1) _ h2
  refine ⟨v::vs,?_,g2⟩
  simp only [Blk.list,h3]
  rw [show off + j + 1 = off + (j + 1) by omega,g1]
theorem loadW.out {t : TypeId} {H : CH} {b off : Nat} {K : Value→Prop} (h : loadW P t H b off K) : ∃ v,loadV P H t b off = some v∧K v := by
 unfold loadW at h
 unfold loadV
 cases ha : isAggT P t with
 | none => simp only [ha] at h
 | some g =>
  cases g with
  | false =>
   simp only [ha] at h ⊢
   exact h.out
  | true =>
   cases hs : szOf P t with
   | none => simp only [ha,hs] at h
   | some n =>
    simp only [ha,hs] at h ⊢
    obtain ⟨h1,h2⟩ := h.out
    obtain ⟨n,rfl⟩ : ∃ m,n = m + 1 := ⟨n - 1,by have := blt_iff.1 h1; omega⟩
    have h2' : Ld H b (off + 0) fun v => ldL H b off n 1 fun vs => K (.agg ⟨v::vs⟩) := h2
    obtain ⟨v,h3,h4⟩ := h2'.out
    obtain ⟨k,hk,h5⟩ := cell_live h3
    obtain ⟨vs,g1,g2⟩ := ldL.out hk n 1 _ h4
    refine ⟨_,?_,g2⟩
    unfold CH.list
    rw [hk]
    rw [Nat.add_zero] at h5
    simp only [Blk.list,h5,g1]
theorem sOk_uns {k : IntKind} (h : sgnF k = false) (x : Int) : sOk k x = true := by
 rw [sgnF_eq] at h
 unfold sOk
 cases x <;> simp [h]
theorem wrap_uns {k : IntKind} (h : sgnF k = false) (x : Int) : k.wrap x = Int.ofNat (Int.toNat (Int.emod x (Int.ofNat (limK k)))) := by
 have e : k.wrap x = x % (limK k : Int) := by
  cases k <;> first | (cases h; done) | skip
  all_goals
   simp only [IntKind.wrap,IntKind.signed,IntKind.bits,limK]
   simp
 have h0 : 0 ≤ x % (limK k : Int) := Int.emod_nonneg _ (by cases k <;> decide)
 rw [e]
 show _ = ((Int.toNat (x % (limK k : Int)) : Nat) : Int)
 omega
theorem natOp.out {op : BinOp} {k : IntKind} {x y : Nat} {K : Value→Prop} (hk : sgnF k = false) (h : natOp (bk op) op k x y K) : ∃ v,cintOp op k (Int.ofNat x) (Int.ofNat y) = some v∧K v := by
 have gen : ∀ {op : BinOp},CInt op k (Int.ofNat x) (Int.ofNat y) K→∃ v,cintOp op k (Int.ofNat x) (Int.ofNat y) = some v∧K v := by
  intro op h
  replace h := h.get
  cases e : cintOp op k (Int.ofNat x) (Int.ofNat y) with
  | none => rw [e] at h; exact h.elim
  | some v => rw [e] at h; exact ⟨v,rfl,h⟩
 cases op with
 | add =>
  refine ⟨_,?_,h⟩
  rw [cadd_nat,hk]
 | sub =>
  refine ⟨_,?_,h⟩
  show (if sOk k (Int.ofNat x - Int.ofNat y) = false then none else some (Value.int k (k.wrap (Int.ofNat x - Int.ofNat y)))) = _
  rw [sOk_uns hk,if_neg (by simp),wrap_uns hk]
  rfl
 | mul =>
  refine ⟨_,?_,h⟩
  show some (Value.int k (k.wrap (Int.ofNat (x * y)))) = _
  rw [wrap_mod k hk]
  rfl
 | quo =>
  obtain ⟨h1,h2⟩ := Must.out (show Must (notB (eqN y 0)) (K (.int k (Int.ofNat (Nat.mod (Nat.div x y) (limK k))))) from h)
  refine ⟨_,?_,h2⟩
  have hy : y ≠ 0 := fun e => by subst e; cases h1
  show (if Int.ofNat y = 0 then none else some (Value.int k (k.wrap ((Int.ofNat x).tdiv (Int.ofNat y))))) = _
  rw [if_neg (by intro e; exact hy (Int.ofNat.inj (e : Int.ofNat y = Int.ofNat 0)))]
  show some (Value.int k (k.wrap (Int.ofNat (x / y)))) = _
  rw [wrap_mod k hk]
  rfl
 | rem =>
  obtain ⟨h1,h2⟩ := Must.out (show Must (notB (eqN y 0)) (K (.int k (Int.ofNat (Nat.mod x y)))) from h)
  refine ⟨_,?_,h2⟩
  have hy : y ≠ 0 := fun e => by subst e; cases h1
  show (if Int.ofNat y = 0 then none else some (Value.int k ((Int.ofNat x).tmod (Int.ofNat y)))) = _
  rw [if_neg (by intro e; exact hy (Int.ofNat.inj (e : Int.ofNat y = Int.ofNat 0)))]
  rfl
 | eql => exact ⟨_,congrArg some (congrArg Value.bool (eqF_eq (Int.ofNat x) (Int.ofNat y)).symm),h⟩
 | neq =>
  refine ⟨_,?_,h⟩
  show some (Value.bool (Int.ofNat x != Int.ofNat y)) = _
  unfold bne
  rw [← eqF_eq]
  show some (Value.bool (!(Nat.beq x y))) = some (Value.bool (notB (Nat.beq x y)))
  cases Nat.beq x y <;> rfl
 | lss => exact ⟨_,congrArg some (congrArg Value.bool (ltF_eq (Int.ofNat x) (Int.ofNat y)).symm),h⟩
 | leq => exact ⟨_,congrArg some (congrArg Value.bool (leF_eq (Int.ofNat x) (Int.ofNat y)).symm),h⟩
 | gtr => exact ⟨_,congrArg some (congrArg Value.bool (ltF_eq (Int.ofNat y) (Int.ofNat x)).symm),h⟩
 | geq => exact ⟨_,congrArg some (congrArg Value.bool (leF_eq (Int.ofNat y) (Int.ofNat x)).symm),h⟩
 | and => exact gen h
 | or => exact gen h
 | xor => exact gen h
 | andNot => exact gen h
 | shl => exact gen h
 | shr => exact gen h
theorem inR_ok {z : Int} (h : -9223372036854775808 ≤ z∧z < 9223372036854775808) : sOk .i64 z = true∧IntKind.i64.wrap z = z := by
 cases z with
 | ofNat n =>
  have hn : n < 9223372036854775808 := by have h2 : (n : Int) < 9223372036854775808 := h.2; omega
  exact ⟨by simp [sOk,limA,blt_iff.2 hn],wrap_small .i64 n hn⟩
 | negSucc n =>
  have hn : n < 9223372036854775808 := by have := h.1; omega
  exact ⟨by simp [sOk,limA,blt_iff.2 hn],wrap_neg .i64 rfl n hn⟩
theorem intOp.out {op : BinOp} {k : IntKind} {x y : Int} {K : Value→Prop} (h : intOp (bk op) op k x y K) : ∃ v,cintOp op k x y = some v∧K v := by
 have gen : ∀ {op : BinOp},CInt op k x y K→∃ v,cintOp op k x y = some v∧K v := by
  intro op h
  replace h := h.get
  cases e : cintOp op k x y with
  | none => rw [e] at h; exact h.elim
  | some v => rw [e] at h; exact ⟨v,rfl,h⟩
 cases op with
 | add =>
  have h' : Bool.rec (motive := fun _ => Prop) (CInt .add k x y K) (InR (Int.add x y) (K (.int k (Int.add x y)))) (kindEq k .i64) := h
  rw [kindEq_eq] at h'
  by_cases e : k = .i64
  ·subst e
   rw [decide_eq_true rfl] at h'
   obtain ⟨h1,h2⟩ := h'
   obtain ⟨g1,g2⟩ := inR_ok h1
   refine ⟨_,?_,h2⟩
   show (if sOk .i64 (Int.add x y) = false then none else some (Value.int .i64 (IntKind.i64.wrap (Int.add x y)))) = _
   rw [g1,g2]; rfl
  ·rw [decide_eq_false e] at h'; exact gen h'
 | sub =>
  have h' : Bool.rec (motive := fun _ => Prop) (CInt .sub k x y K) (InR (Int.sub x y) (K (.int k (Int.sub x y)))) (kindEq k .i64) := h
  rw [kindEq_eq] at h'
  by_cases e : k = .i64
  ·subst e
   rw [decide_eq_true rfl] at h'
   obtain ⟨h1,h2⟩ := h'
   obtain ⟨g1,g2⟩ := inR_ok h1
   refine ⟨_,?_,h2⟩
   show (if sOk .i64 (Int.sub x y) = false then none else some (Value.int .i64 (IntKind.i64.wrap (Int.sub x y)))) = _
   rw [g1,g2]; rfl
  ·rw [decide_eq_false e] at h'; exact gen h'
 | eql =>
  refine ⟨_,?_,h⟩
  show some (Value.bool (x == y)) = some (Value.bool (eqZ x y))
  unfold eqZ; by_cases e : x = y <;> simp [e]
 | neq =>
  refine ⟨_,?_,h⟩
  show some (Value.bool (x != y)) = some (Value.bool (notB (eqZ x y)))
  unfold eqZ notB; by_cases e : x = y <;> simp [e]
 | lss => exact ⟨_,rfl,h⟩
 | leq => exact ⟨_,rfl,h⟩
 | gtr => exact ⟨_,rfl,h⟩
 | geq => exact ⟨_,rfl,h⟩
 | mul => exact gen h
 | quo => exact gen h
 | rem => exact gen h
 | and => exact gen h
 | or => exact gen h
 | xor => exact gen h
 | andNot => exact gen h
 | shl => exact gen h
 | shr => exact gen h
theorem shiftOp.out {op : BinOp} {k k' : IntKind} {x y : Nat} {K : Value→Prop} {t : TypeId} {H : CH} (hk : sgnF k = false) (h : shiftOp (bk op) k x y K) : ∃ v,cbin P H op t (.int k (Int.ofNat x)) (.int k' (Int.ofNat y)) = some v∧K v := by
 cases op <;> try exact h.elim
 case shl =>
  refine ⟨_,?_,h⟩
  show (if Int.ofNat y < 0 then none else some (Value.int k (k.wrap (Int.ofNat x * 2 ^ (min (Int.ofNat y).toNat k.bits))))) = _
  rw [if_neg (by have : (0 : Int) ≤ Int.ofNat y := Int.natCast_nonneg y; omega)]
  have e : (Int.ofNat x * 2 ^ (min (Int.ofNat y).toNat k.bits) : Int) = Int.ofNat (x * 2 ^ (min y k.bits)) := by
   show ((x : Int) * 2 ^ (min y k.bits)) = ((x * 2 ^ (min y k.bits) : Nat) : Int)
   push_cast
   rfl
  rw [e,wrap_mod k hk]
  rfl
 case shr =>
  refine ⟨_,?_,h⟩
  show (if Int.ofNat y < 0 then none else some (Value.int k ((Int.ofNat x).fdiv (2 ^ (min (Int.ofNat y).toNat k.bits))))) = _
  rw [if_neg (by have : (0 : Int) ≤ Int.ofNat y := Int.natCast_nonneg y; omega)]
  have e : ((Int.ofNat x).fdiv (2 ^ (min (Int.ofNat y).toNat k.bits)) : Int) = Int.ofNat (x / 2 ^ (min y k.bits)) := by
   have h2 : ((2 : Int) ^ (min (Int.ofNat y).toNat k.bits)) = ((2 ^ (min y k.bits) : Nat) : Int) := by
    show ((2 : Int) ^ (min y k.bits)) = _
    push_cast
    rfl
   rw [h2]
   exact (Int.ofNat_fdiv x _).symm
  rw [e]
  rfl
end
end Go.CM

namespace Go.CM
open Go
noncomputable section
variable {P : Program} {con : CallT}
abbrev E (σ : TF) : Operand→Value := fun o => feval o σ
theorem OpN.out {σ : TF} {H : CH} {op : Op} {K : KP} (h : OpN P H σ op K) : SO P con (E σ) H op K := by
 replace h := h.get
 split at h
 ·rename_i v H1 e
  exact .val e h
 ·exact h.elim
theorem tyK_nat {t : TypeId} {k : IntKind} (h : tyK P t = .nat k) : P.underlying t = some (.int k)∧sgnF k = false := by
 unfold tyK at h
 split at h <;> try cases h
 rename_i k' e
 cases hs : sgnF k' with
 | true => rw [hs] at h; cases h
 | false => rw [hs] at h; cases h; exact ⟨e,hs⟩
theorem tyK_int {t : TypeId} {k : IntKind} (h : tyK P t = .int k) : P.underlying t = some (.int k)∧sgnF k = true := by
 unfold tyK at h
 split at h <;> try cases h
 rename_i k' e
 cases hs : sgnF k' with
 | true => rw [hs] at h; cases h; exact ⟨e,hs⟩
 | false => rw [hs] at h; cases h
theorem tyK_bool {t : TypeId} (h : tyK P t = .bool) : P.underlying t = some .bool := by
 unfold tyK at h
 split at h <;> first | assumption | cases h | (rename_i k' e; cases hs : sgnF k' <;> (rw [hs] at h; cases h))
theorem tyK_str {t : TypeId} (h : tyK P t = .str) : P.underlying t = some .string := by
 unfold tyK at h
 split at h <;> first | assumption | cases h | (rename_i k' e; cases hs : sgnF k' <;> (rw [hs] at h; cases h))
theorem tyK_nk {t : TypeId} {k : NK} (h : tyK P t = .nk k) : (k = .ptr∧∃ e,P.underlying t = some (.pointer e)) ∨ (k = .slc∧∃ e,P.underlying t = some (.slice e)) ∨ (k = .ifc∧∃ e,P.underlying t = some (.interface e)) ∨ (k = .fnc∧∃ a b c,P.underlying t = some (.func a b c)) := by
 unfold tyK at h
 split at h <;> first | (cases h; done) | (rename_i k' e; cases hs : sgnF k' <;> (rw [hs] at h; cases h); done) | skip
 all_goals (rename_i e; cases h; simp [e])
theorem cbin_nat {H : CH} {op : BinOp} {t : TypeId} {k : IntKind} {a b : Int} (h : isShiftB (bk op) = false) : cbin P H op t (.int k a) (.int k b) = cintOp op k a b := by
 cases op <;> first | (cases h; done) | (simp [cbin])
theorem isNilO_const {k : NK} {o : Operand} (h : isNilO k o = true) : isConstO o = true∧∀ σ,(k = .ptr∧feval o σ = .pointer none ∨ k = .slc∧(∃ l c,feval o σ = .slice none l c) ∨ k = .ifc∧feval o σ = .nilIface ∨ k = .fnc∧feval o σ = .nilFunc) := by
 unfold isNilO at h
 split at h
 ·exact ⟨rfl,fun σ => .inl ⟨rfl,rfl⟩⟩
 ·exact ⟨rfl,fun σ => .inr (.inl ⟨rfl,_,_,rfl⟩)⟩
 ·exact ⟨rfl,fun σ => .inr (.inr (.inr ⟨rfl,rfl⟩))⟩
 ·exact ⟨rfl,fun σ => .inr (.inr (.inl ⟨rfl,rfl⟩))⟩
 ·cases h
theorem nil_ceq {H : CH} {t : TypeId} {k : NK} {x y : Value} {K : Bool→Prop} (ht : tyK P t = .nk k) (hk : k = .ptr∧y = .pointer none ∨ k = .slc∧(∃ l c,y = .slice none l c) ∨ k = .ifc∧y = .nilIface ∨ k = .fnc∧y = .nilFunc) (h : IsNil k x K) :
  ∃ b,ceq P H 10000 t x y = some b∧ceq P H 10000 t y x = some b∧K b := by
 rcases tyK_nk ht with ⟨rfl,e,hu⟩ | ⟨rfl,e,hu⟩ | ⟨rfl,e,hu⟩ | ⟨rfl,e1,e2,e3,hu⟩
 ·rcases hk with ⟨_,rfl⟩ | ⟨h1,_⟩ | ⟨h1,_⟩ | ⟨h1,_⟩ <;> try cases h1
  cases x <;> try exact h.elim
  rename_i p
  cases p with
  | none => exact ⟨true,by simp [ceq,hu],by simp [ceq,hu],h⟩
  | some a => exact ⟨false,by simp [ceq,hu],by simp [ceq,hu],h⟩
 ·rcases hk with ⟨h1,_⟩ | ⟨_,l,c,rfl⟩ | ⟨h1,_⟩ | ⟨h1,_⟩ <;> try cases h1
  cases x <;> try exact h.elim
  rename_i p l' c'
  cases p with
  | none => exact ⟨true,by simp [ceq,hu],by simp [ceq,hu],h⟩
  | some a => exact ⟨false,by simp [ceq,hu],by simp [ceq,hu],h⟩
 ·rcases hk with ⟨h1,_⟩ | ⟨h1,_⟩ | ⟨_,rfl⟩ | ⟨h1,_⟩ <;> try cases h1
  cases x <;> try exact h.elim
  ·exact ⟨false,by simp [ceq,hu],by simp [ceq,hu],h⟩
  ·exact ⟨true,by simp [ceq,hu],by simp [ceq,hu],h⟩
 ·rcases hk with ⟨h1,_⟩ | ⟨h1,_⟩ | ⟨h1,_⟩ | ⟨_,rfl⟩ <;> try cases h1
  cases x <;> try exact h.elim
  ·exact ⟨false,by simp [ceq,hu],by simp [ceq,hu],h⟩
  ·exact ⟨true,by simp [ceq,hu],by simp [ceq,hu],h⟩
theorem cmpB.out {b : BK} {op : BinOp} (hb : bk op = b) {eq : Bool} {K : Value→Prop} (h : cmpB b eq K) : (op = .eql∧K (.bool eq)) ∨ (op = .neq∧K (.bool !eq)) := by
 subst hb
 cases op <;> try exact h.elim
 ·exact .inl ⟨rfl,h⟩
 ·refine .inr ⟨rfl,?_⟩
  cases eq <;> exact h
theorem cbin_ceq {H : CH} {t : TypeId} {x y : Value} {b : Bool} (hx : (∀ k n,x ≠ .int k n)∧(∀ s,x ≠ .string s)) (h : ceq P H 10000 t x y = some b) : cbin P H .eql t x y = some (.bool b)∧cbin P H .neq t x y = some (.bool !b) := by
 obtain ⟨h1,h2⟩ := hx
 constructor
 ·unfold cbin
  split <;> first | (exact absurd rfl (h1 _ _)) | (exact absurd rfl (h2 _)) | (rw [h]; rfl) | simp_all
 ·unfold cbin
  split <;> first | (exact absurd rfl (h1 _ _)) | (exact absurd rfl (h2 _)) | (rw [h]; rfl) | simp_all
theorem IsNil.shape {k : NK} {x : Value} {K : Bool→Prop} (h : IsNil k x K) : (∀ k n,x ≠ .int k n)∧(∀ s,x ≠ .string s) := by
 constructor
 ·rintro k' n rfl
  cases k <;> exact h.elim
 ·rintro s rfl
  cases k <;> exact h.elim
theorem guard_const {t : TypeId} {x y : Operand} {a b : Value} (h : isConstO x = true ∨ isConstO y = true) (hb : ∀ cs,a ≠ .agg cs) : guardOk P t x y a b = true := by
 unfold guardOk
 split
 ·rcases h with h | h <;> simp [h]
 ·exact absurd rfl (hb _)
 ·rfl
theorem wBin.out {op : BinOp} {t t' : TypeId} {x y : Operand} {σ : TF} {H : CH} {K : KP} (h : wBin op t x y t' P con σ H K) : SO P con (E σ) H (.binOp op t x y t') K := by
 have fin : ∀ {v : Value},guardOk P t x y (E σ x) (E σ y) = true→cbin P H op t (E σ x) (E σ y) = some v→K v H→SO P con (E σ) H (.binOp op t x y t') K := by
  intro v hg hc hk
  refine .val (H1 := H) (v := v) ?_ hk
  simp only [cop,hg,cond_true,hc,Option.map_some]
 unfold wBin at h
 split at h
 ·rename_i k hty
  obtain ⟨hu,hs⟩ := tyK_nat hty
  cases hb : isShiftB (bk op) with
  | false =>
   rw [hb] at h
   obtain ⟨a,ha,h⟩ := AsNat.out h
   obtain ⟨b,hb',h⟩ := AsNat.out h
   obtain ⟨v,h1,h2⟩ := natOp.out hs h
   refine fin (v := v) ?_ ?_ h2
   ·show guardOk P t x y (feval x σ) (feval y σ) = true
    rw [ha,hb']; rfl
   ·show cbin P H op t (feval x σ) (feval y σ) = _
    rw [ha,hb',cbin_nat hb]; exact h1
  | true =>
   rw [hb] at h
   obtain ⟨a,ha,h⟩ := AsNat.out h
   obtain ⟨k',b,hb',h⟩ := AsCnt.out h
   obtain ⟨v,h1,h2⟩ := shiftOp.out (P := P) (k' := k') (t := t) (H := H) hs h
   refine fin (v := v) ?_ ?_ h2
   ·show guardOk P t x y (feval x σ) (feval y σ) = true
    rw [ha,hb']; rfl
   ·show cbin P H op t (feval x σ) (feval y σ) = _
    rw [ha,hb']; exact h1
 ·rename_i k hty
  cases hb : isShiftB (bk op) with
  | false =>
   rw [hb] at h
   obtain ⟨a,ha,h⟩ := AsInt.out h
   obtain ⟨b,hb',h⟩ := AsInt.out h
   obtain ⟨v,h1,h2⟩ := intOp.out h
   refine fin (v := v) ?_ ?_ h2
   ·show guardOk P t x y (feval x σ) (feval y σ) = true
    rw [ha,hb']; rfl
   ·show cbin P H op t (feval x σ) (feval y σ) = _
    rw [ha,hb',cbin_nat hb]; exact h1
  | true => rw [hb] at h; exact OpN.out h
 ·rename_i hty
  have hu := tyK_bool hty
  obtain ⟨a,ha,h⟩ := AsBool.out h
  obtain ⟨b,hb',h⟩ := AsBool.out h
  have hc : ceq P H 10000 t (.bool a) (.bool b) = some (eqB a b) := by
   simp only [ceq,hu]
   cases a <;> cases b <;> rfl
  obtain ⟨c1,c2⟩ := cbin_ceq ⟨fun _ _ => by simp,fun _ => by simp⟩ hc
  have hg : guardOk P t x y (E σ x) (E σ y) = true := by
   show guardOk P t x y (feval x σ) (feval y σ) = true
   rw [ha,hb']; rfl
  rcases cmpB.out rfl h with ⟨rfl,h⟩ | ⟨rfl,h⟩
  ·refine fin hg ?_ h
   show cbin P H .eql t (feval x σ) (feval y σ) = _
   rw [ha,hb']; exact c1
  ·refine fin hg ?_ h
   show cbin P H .neq t (feval x σ) (feval y σ) = _
   rw [ha,hb',c2]; cases eqB a b <;> rfl
 ·rename_i hty
  split at h
  ·rename_i hop
   obtain rfl : op = .eql := by cases op <;> first | rfl | cases hop
   obtain ⟨a,ha,h⟩ := AsStr.out h
   obtain ⟨b,hb',h⟩ := AsStr.out h
   refine fin ?_ ?_ h
   ·show guardOk P t x y (feval x σ) (feval y σ) = true
    rw [ha,hb']; rfl
   ·show cbin P H .eql t (feval x σ) (feval y σ) = _
    rw [ha,hb']; rfl
  ·rename_i hop
   obtain rfl : op = .neq := by cases op <;> first | rfl | cases hop
   obtain ⟨a,ha,h⟩ := AsStr.out h
   obtain ⟨b,hb',h⟩ := AsStr.out h
   refine fin ?_ ?_ h
   ·show guardOk P t x y (feval x σ) (feval y σ) = true
    rw [ha,hb']; rfl
   ·show cbin P H .neq t (feval x σ) (feval y σ) = _
    rw [ha,hb']
    show some (Value.bool !(a.toList == b.toList)) = some (Value.bool (notB (a.toList == b.toList)))
    cases (a.toList == b.toList) <;> rfl
  ·exact OpN.out h
 ·rename_i k hty
  have agg : ∀ {v : Value} {K : Bool→Prop},IsNil k v K→∀ cs,v ≠ .agg cs := by
   rintro v K h cs rfl
   cases k <;> exact h.elim
  cases hy : isNilO k y with
  | true =>
   rw [hy] at h
   obtain ⟨hc,hn⟩ := isNilO_const hy
   have sh := IsNil.shape h
   have ag := agg h
   obtain ⟨b,h1,h2,h3⟩ := nil_ceq (H := H) hty (hn σ) h
   obtain ⟨c1,c2⟩ := cbin_ceq sh h1
   have hg : guardOk P t x y (E σ x) (E σ y) = true := guard_const (.inr hc) ag
   rcases cmpB.out rfl h3 with ⟨rfl,h5⟩ | ⟨rfl,h5⟩
   ·exact fin hg c1 h5
   ·exact fin hg c2 h5
  | false =>
   rw [hy] at h
   cases hx : isNilO k x with
   | false => rw [hx] at h; exact OpN.out h
   | true =>
    rw [hx] at h
    obtain ⟨hc,hn⟩ := isNilO_const hx
    obtain ⟨b,h1,h2,h3⟩ := nil_ceq (H := H) hty (hn σ) h
    have sh : (∀ k n,feval x σ ≠ .int k n)∧(∀ s,feval x σ ≠ .string s)∧(∀ cs,feval x σ ≠ .agg cs) := by
     rcases hn σ with ⟨_,e⟩ | ⟨_,l,c,e⟩ | ⟨_,e⟩ | ⟨_,e⟩ <;> rw [e] <;> simp
    obtain ⟨c1,c2⟩ := cbin_ceq ⟨sh.1,sh.2.1⟩ h2
    have hg : guardOk P t x y (E σ x) (E σ y) = true := guard_const (.inl hc) sh.2.2
    rcases cmpB.out rfl h3 with ⟨rfl,h5⟩ | ⟨rfl,h5⟩
    ·exact fin hg c1 h5
    ·exact fin hg c2 h5
 ·exact OpN.out h
end
end Go.CM

namespace Go.CM
open Go
noncomputable section
variable {P : Program} {con : CallT}
theorem convN.out {ks kd : IntKind} {n : Nat} {K : Value→Prop} (hk : sgnF ks = false) (h : convN ks kd n K) : cvOk ks (Int.ofNat n) = true∧K (.int kd (kd.wrap (Int.ofNat n))) := by
 unfold convN at h
 cases hb : kindEq ks .u64 with
 | true =>
  rw [kindEq_eq] at hb
  obtain rfl := of_decide_eq_true hb
  rw [show kindEq IntKind.u64 IntKind.u64 = true from rfl] at h
  refine ⟨rfl,?_⟩
  cases he : kindEq kd .u64 with
  | true =>
   rw [kindEq_eq] at he
   obtain rfl := of_decide_eq_true he
   rw [wrap_mod _ rfl]
   exact h
  | false =>
   rw [he] at h
   cases hs : sgnF kd with
   | true => rw [hs] at h; exact h
   | false => rw [hs] at h; rw [wrap_mod _ hs]; exact h
 | false =>
  rw [hb] at h
  obtain ⟨h1,h2⟩ := Must.out h
  have hl : n < limK ks := blt_iff.1 h1
  refine ⟨?_,?_⟩
  ·unfold cvOk
   cases ks <;> first | (cases hb; done) | (simp only [limA]; exact blt_iff.2 hl)
  ·cases hl2 : Nat.ble (limK ks) (limK kd) with
   | false => rw [hl2] at h2; exact h2
   | true =>
    rw [hl2] at h2
    rw [wrap_small kd n (Nat.lt_of_lt_of_le hl (Nat.le_of_ble_eq_true hl2))]
    exact h2
theorem fieldPart_eq {t : TypeId} {f : Nat} {q : Nat × Option Nat} (h : fieldPart P t f = some q) : ∃ fs fd,P.underlying t = some (.struct fs)∧fs[f]? = some fd∧((isAggT P fd.type = some true∧∃ n,szOf P fd.type = some n∧q = (fd.offset,some n)) ∨ (isAggT P fd.type = some false∧q = (fd.offset,none))) := by
 unfold fieldPart at h
 split at h
 ·rename_i fs hu
  split at h
  ·rename_i fd hf
   split at h
   ·rename_i ha
    cases hs : szOf P fd.type with
    | none => rw [hs] at h; cases h
    | some n => rw [hs] at h; cases h; exact ⟨fs,fd,hu,hf,.inl ⟨ha,n,hs,rfl⟩⟩
   ·rename_i ha
    cases h
    exact ⟨fs,fd,hu,hf,.inr ⟨ha,rfl⟩⟩
   ·cases h
  ·cases h
 ·cases h
theorem fieldOf_eq {t : TypeId} {f o : Nat} (h : fieldOf P t f = some o) : ∃ fs fd s,P.underlying t = some (.struct fs)∧fs[f]? = some fd∧szOf P fd.type = some (s + 1)∧o = fd.offset := by
 unfold fieldOf at h
 split at h
 ·rename_i fs hu
  split at h
  ·rename_i fd hf
   split at h
   ·rename_i s hs
    cases h
    exact ⟨fs,fd,s,hu,hf,hs,rfl⟩
   ·cases h
  ·cases h
 ·cases h
theorem sliceElem_eq {t : TypeId} {s : Nat} (h : sliceElem P t = some s) : ∃ e,P.underlying t = some (.slice e)∧szOf P e = some s := by
 unfold sliceElem at h
 split at h
 ·rename_i e hu; exact ⟨e,hu,h⟩
 ·cases h
theorem isFunT_eq {g : FuncId} (h : isFunT P g = true) (args : Array Value) : ccallF P g args = some (.enter g args) := by
 unfold isFunT at h
 unfold ccallF
 split at h
 ·rename_i fn hf; rw [hf]; simp only [h,cond_true]
 ·cases h
theorem takeDrop (n o : Nat) (cs : Array Value) : (⟨takeF n (dropF o cs.toList)⟩ : Array Value) = cs.extract o (o + n) := by
 rw [takeF_eq,dropF_eq]
 apply Array.ext'
 simp [Array.toList_extract]
theorem wCall.out {c : Call} {σ : TF} {H : CH} {K : KP} (h : wCall c P con σ H K) : SO P con (E σ) H (.call c) K := by
 have vfin : ∀ {v : Value} {H1 : CH},ccall P (E σ) H c = some (.val v,H1)→K v H1→SO P con (E σ) H (.call c) K := fun hc hk => .val (by simp only [cop]; exact hc) hk
 have args0 : ∀ {i : Nat} {t : TypeId},argTy c i = some t→(c.argTypes[i]? : Option TypeId) = some t := by
  intro i t ht
  unfold argTy at ht
  rw [nthF_eq,Array.getElem?_toList] at ht
  exact ht
 have args1 : ∀ {i : Nat} {v : Value},argV c σ i = some v→((c.args.map (E σ))[i]? : Option Value) = some v := by
  intro i v hv
  unfold argV at hv
  rw [nthF_eq,mapE_eq] at hv
  rw [← hv]
  simp
 unfold wCall at h
 split at h
 ·rename_i b hcl
  unfold wBuiltin at h
  split at h
  ·split at h
   ·rename_i s t x y h1 h2 h3 h4
    replace h := h.get
    split at h
    ·rename_i r hr
     refine vfin (v := r.1) (H1 := r.2) ?_ h
     simp only [ccall,hcl]
     have e : cappend P H c.argTypes (c.args.map (E σ)) = cappend P H #[s,t] #[x,y] := by
      unfold cappend
      rw [args0 h1,args0 h2,args1 h3,args1 h4]
      rfl
     rw [e,hr]
     rfl
    ·exact h.elim
   ·exact h.elim
  ·split at h
   ·rename_i s x y h1 h2 h3
    replace h := h.get
    split at h
    ·rename_i r hr
     refine vfin (v := r.1) (H1 := r.2) ?_ h
     simp only [ccall,hcl]
     have e : ccopy P H c.argTypes (c.args.map (E σ)) = ccopy P H #[s] #[x,y] := by
      unfold ccopy
      rw [args0 h1,args1 h2,args1 h3]
      rfl
     rw [e,hr]
     rfl
    ·exact h.elim
   ·exact h.elim
  ·split at h
   ·rename_i s x h1 h2
    replace h := h.get
    split at h
    ·rename_i r hr
     refine vfin (v := r.1) (H1 := r.2) ?_ h
     simp only [ccall,hcl]
     have e : cclear P H c.argTypes (c.args.map (E σ)) = cclear P H #[s] #[x] := by
      unfold cclear
      rw [args0 h1,args1 h2]
      rfl
     rw [e,hr]
     rfl
    ·exact h.elim
   ·exact h.elim
  ·unfold wLen at h
   split at h
   ·rename_i t v h1 h2
    have e : ∀ {u : Value},clen P #[t] #[v] = some u→K u H→SO P con (E σ) H (.call c) K := by
     intro u hu hk
     refine vfin (v := u) (H1 := H) ?_ hk
     simp only [ccall,hcl]
     have e : clen P c.argTypes (c.args.map (E σ)) = clen P #[t] #[v] := by
      unfold clen
      rw [args0 h1,args1 h2]
      rfl
     rw [e,hu]
     rfl
    split at h
    ·rename_i e' hu
     obtain ⟨p,l,cc,rfl,h⟩ := AsLen.out h
     exact e (by simp [clen,hu]) h
    ·rename_i hu
     obtain ⟨s,rfl,h⟩ := AsStr.out h
     exact e (by simp [clen,hu]) h
    ·rename_i n e' hu
     exact e (by simp [clen,hu]) h
    ·exact h.elim
   ·exact h.elim
  ·unfold wMinMax at h
   split at h
   ·rename_i t x y h1 h2
    have ea : (c.args.map (E σ)).toList = [x,y] := by rw [← h2,mapE_eq]; simp
    have e : ∀ {u : Value},cminmax false [x,y] = some u→K u H→SO P con (E σ) H (.call c) K := by
     intro u hu hk
     refine vfin (v := u) (H1 := H) ?_ hk
     simp only [ccall,hcl,ea,hu,Option.map_some]
    split at h
    ·rename_i k hty
     obtain ⟨a,rfl,h3⟩ := AsNat.out h
     obtain ⟨b,rfl,h4⟩ := AsNat.out h3
     refine e (u := .int k (Int.ofNat (Nat.min a b))) ?_ h4
     simp only [cminmax,if_pos,cond_false]
     congr 2
     show (if (b : Int) < (a : Int) then (b : Int) else a) = ((min a b : Nat) : Int)
     split <;> omega
    ·rename_i k hty
     obtain ⟨a,rfl,h3⟩ := AsInt.out h
     obtain ⟨b,rfl,h4⟩ := AsInt.out h3
     have h' : Bool.rec (motive := fun _ => Prop) (K (.int k a) H) (K (.int k b) H) (ltZ b a) := h4
     by_cases hlt : b < a
     ·rw [show ltZ b a = true from decide_eq_true hlt] at h'
      exact e (by simp [cminmax,hlt]) h'
     ·rw [show ltZ b a = false from decide_eq_false hlt] at h'
      exact e (by simp [cminmax,hlt]) h'
    ·exact h.elim
   ·exact h.elim
  ·unfold wMinMax at h
   split at h
   ·rename_i t x y h1 h2
    have ea : (c.args.map (E σ)).toList = [x,y] := by rw [← h2,mapE_eq]; simp
    have e : ∀ {u : Value},cminmax true [x,y] = some u→K u H→SO P con (E σ) H (.call c) K := by
     intro u hu hk
     refine vfin (v := u) (H1 := H) ?_ hk
     simp only [ccall,hcl,ea,hu,Option.map_some]
    split at h
    ·rename_i k hty
     obtain ⟨a,rfl,h3⟩ := AsNat.out h
     obtain ⟨b,rfl,h4⟩ := AsNat.out h3
     refine e (u := .int k (Int.ofNat (Nat.max a b))) ?_ h4
     simp only [cminmax,if_pos,cond_true]
     congr 2
     show (if (b : Int) > (a : Int) then (b : Int) else a) = ((max a b : Nat) : Int)
     split <;> omega
    ·rename_i k hty
     obtain ⟨a,rfl,h3⟩ := AsInt.out h
     obtain ⟨b,rfl,h4⟩ := AsInt.out h3
     have h' : Bool.rec (motive := fun _ => Prop) (K (.int k a) H) (K (.int k b) H) (ltZ a b) := h4
     by_cases hlt : a < b
     ·rw [show ltZ a b = true from decide_eq_true hlt] at h'
      exact e (by simp [cminmax,hlt]) h'
     ·rw [show ltZ a b = false from decide_eq_false hlt] at h'
      exact e (by simp [cminmax,hlt]) h'
    ·exact h.elim
   ·exact h.elim
  ·exact h.elim
 ·rename_i r name hcl
  replace h := h.get
  split at h
  ·rename_i t x hv
   split at h
   ·rename_i q hq
    obtain ⟨h1,h2⟩ := Must.out h
    refine .call (f := q.1) (args := #[q.2]++c.args.map (E σ)) (H1 := H) ?_ ?_
    ·simp only [cop,ccall,hcl]
     have hv' : E σ r = .iface t x := hv
     rw [hv']
     simp only [hq]
     rw [isFunT_eq h1]
     rfl
    ·have e : (#[q.2]++c.args.map (E σ)).toList = q.2::mapE c.args.toList σ := by rw [mapE_eq]; simp
     rw [e]
     exact h2
   ·exact h.elim
  ·exact h.elim
 ·rename_i f hcl
  obtain ⟨g,a,b,hf,h⟩ := AsFn.out h
  obtain ⟨h1,h2⟩ := Must.out h
  refine .call (f := g) (args := (a++c.args.map (E σ))++b) (H1 := H) ?_ ?_
  ·simp only [cop,ccall,hcl]
   have hf' : E σ f = .func (.func g) a b := hf
   rw [hf']
   simp only
   rw [isFunT_eq h1]
   rfl
  ·have e : ((a++c.args.map (E σ))++b).toList = appF a.toList (appF (mapE c.args.toList σ) b.toList) := by rw [mapE_eq,appF_eq,appF_eq]; simp
   rw [e]
   exact h2.get
theorem opW_ok {op : Op} {σ : TF} {H : CH} {K : KP} (h : opW op P con σ H K) : SO P con (E σ) H op K := by
 have vfin : ∀ {v : Value} {op : Op},cop P (E σ) H op = some (.val v,H)→K v H→SO P con (E σ) H op K := fun hc hk => .val hc hk
 cases op <;> try exact h.elim
 case move x => exact .val (v := feval x σ) (H1 := H) rfl h
 case assign x => exact .val (v := feval x σ) (H1 := H) rfl h
 case pick c x y =>
  obtain ⟨b,hb,h⟩ := AsBool.out h
  have hc : cop P (E σ) H (.pick c x y) = some (.val (cond b (feval x σ) (feval y σ)),H) := by
   have hb' : E σ c = .bool b := hb
   simp only [cop,hb']
  cases b with
  | true => exact .val hc h
  | false => exact .val hc h
 case alloc t =>
  have h' : wAlloc t P con σ H K := h
  unfold wAlloc at h'
  split at h'
  ·rename_i z hz
   refine .val (v := ptr H.next 0) (H1 := H.new (rowOf t z.cells)) ?_ ?_
   ·simp only [cop,hz,Option.map_some]
   ·rw [cellsF_eq,mkRow_eq] at h'; exact h'.get
  ·exact h'.elim
 case box t x =>
  obtain ⟨n,h1,h2,h3⟩ := cellsW.out (show cellsW P t (feval x σ) (fun l => Nw H (mkRow t 0 l) fun b H1 => K (ptr b 0) H1) from h)
  refine .val (v := ptr H.next 0) (H1 := H.new (rowOf t (feval x σ).cells)) rfl ?_
  have h3' : K (ptr H.next 0) (H.new (mkRow t 0 (feval x σ).cells.toList)) := h3.get
  rw [mkRow_eq] at h3'
  exact h3'
 case build t parts =>
  have h' : wBuild t parts P con σ H K := h
  unfold wBuild at h'
  have pe : (parts.map fun (i,x) => (i,E σ x)).toList = parts.toList.map fun p => (p.1,feval p.2 σ) := by simp
  split at h'
  ·rename_i z fs hz hu
   split at h'
   ·rename_i ps hps
    rw [cellsF_eq] at h'
    obtain ⟨cs',h1,h2⟩ := partsW.out (place := fun i => ps[i]?) (fun i off t n hi hs => by
     unfold fieldPl at hi
     rw [nthF_eq] at hi
     split at hi
     ·rename_i f hf
      cases hi
      obtain ⟨s,g1,g2⟩ := placesOf_get _ _ hps i f hf
      rw [hs] at g1; cases g1
      exact g2
     ·cases hi) _ _ _ h'
    refine vfin (v := .agg cs') ?_ h2
    simp only [cop]
    rw [pe]
    have e : cbuild P t (parts.toList.map fun p => (p.1,feval p.2 σ)) = some (.agg cs') := by
     unfold cbuild
     simp only [hz,hu,hps,h1]
    rw [e]; rfl
   ·exact h'.elim
  ·rename_i z n e hz hu
   split at h'
   ·rename_i s hs
    rw [cellsF_eq] at h'
    obtain ⟨cs',h1,h2⟩ := partsW.out (place := fun i => some (i * s,s)) (fun i off t n hi hs' => by
     cases hi
     rw [hs] at hs'; cases hs'
     rfl) _ _ _ h'
    refine vfin (v := .agg cs') ?_ h2
    simp only [cop]
    rw [pe]
    have e : cbuild P t (parts.toList.map fun p => (p.1,feval p.2 σ)) = some (.agg cs') := by
     unfold cbuild
     simp only [hz,hu,hs,h1]
    rw [e]; rfl
   ·exact h'.elim
  ·exact h'.elim
 case buildSlice t len parts =>
  have h' : wBuildSlice t len parts P con σ H K := h
  unfold wBuildSlice at h'
  have pe : (parts.map fun (i,x) => (i,E σ x)).toList = parts.toList.map fun p => (p.1,feval p.2 σ) := by simp
  split at h'
  ·rename_i e hu
   split at h'
   ·rename_i s z hs hz
    obtain ⟨h1,h2⟩ := Must.out h'
    simp only [Bool.and_eq_true] at h1
    obtain ⟨g1,g2,g3⟩ := h1
    have g1' := Nat.eq_of_beq_eq_true g1
    rw [lenF_eq,cellsF_eq,Array.length_toList] at g1'
    have g2' := blt_iff.1 g2
    have g3' := Nat.le_of_ble_eq_true g3
    obtain ⟨s,rfl⟩ : ∃ m,s = m + 1 := ⟨s - 1,by omega⟩
    have hrep : repN len (cellsF z) = ((Array.range (len * (s + 1))).map (fun j => z.cells[j % z.cells.size]!)).toList := by
     rw [cellsF_eq,← g1',rep_eq z.cells len (by omega)]
    rw [hrep] at h2
    obtain ⟨cs',h3,h4⟩ := partsW.out (place := fun i => some (i * (s + 1),s + 1)) (fun i off t n hi hs' => by
     cases hi
     rw [hs] at hs'; cases hs'
     rfl) _ _ _ h2
    refine .val (v := .slice (some ⟨H.next,0,none⟩) len len) (H1 := H.new (rowOf e cs')) ?_ ?_
    ·simp only [cop]
     rw [pe]
     have e' : cbuildSlice P H t len (parts.toList.map fun p => (p.1,feval p.2 σ)) = some (.slice (some ⟨H.next,0,none⟩) len len,H.new (rowOf e cs')) := by
      unfold cbuildSlice
      simp only [hu,hs,hz]
      rw [if_pos ⟨g1',g3'⟩,h3]
     rw [e']; rfl
    ·have h4' : K (.slice (some ⟨H.next,0,none⟩) len len) (H.new (mkRow e 0 cs'.toList)) := h4.get
     rw [mkRow_eq] at h4'
     exact h4'
   ·exact h'.elim
  ·exact h'.elim
 case load t x =>
  obtain ⟨b,off,hb,h⟩ := AsPtr.out (show AsPtr (feval x σ) (fun b off => loadW P t H b off fun v => K v H) from h)
  obtain ⟨v,h1,h2⟩ := loadW.out h
  refine vfin (v := v) ?_ h2
  have hb' : E σ x = .pointer (some ⟨b,off,none⟩) := hb
  simp only [cop,hb',h1,Option.map_some]
 case store t x y =>
  obtain ⟨b,off,hb,h⟩ := AsPtr.out (show AsPtr (feval x σ) (fun b off => cellsW P t (feval y σ) fun l => St H b off l fun H1 => K undV H1) from h)
  obtain ⟨n,h1,h2,h3⟩ := cellsW.out h
  obtain ⟨H1,h4,h5⟩ := St.out h3
  refine .val (v := undV) (H1 := H1) ?_ h5
  have hb' : E σ x = .pointer (some ⟨b,off,none⟩) := hb
  have e : storeV P H t b off (feval y σ) = some H1 := by
   unfold storeV
   simp only [h1,h2,Nat.beq_refl,cond_true,h4]
  simp only [cop,hb']
  rw [e]; rfl
 case nilCheck x =>
  have h' : NotNil P (feval x σ) (K (feval x σ) H) := h
  unfold NotNil at h'
  split at h'
  ·rename_i p hp
   cases p with
   | none => exact h'.elim
   | some a =>
    have hp' : E σ x = .pointer (some a) := hp
    refine vfin (v := feval x σ) ?_ h'
    simp only [cop,hp']
  ·rename_i f a b hf
   cases f with
   | func g =>
    have hf' : E σ x = .func (.func g) a b := hf
    refine vfin (v := feval x σ) ?_ h'
    simp only [cop,hf']
   | method name =>
    have hf' : E σ x = .func (.method name) a b := hf
    have hg := MethOk.get h'
    split at hg
    ·rename_i z hz
     split at hg
     ·rename_i t y
      split at hg
      ·rename_i q hq
       refine vfin (v := feval x σ) ?_ hg
       have hf2 : feval x σ = .func (.method name) a b := hf
       simp only [cop,hf',methOk,hz,hq,hf2]
      ·exact hg.elim
     ·exact hg.elim
    ·exact hg.elim
   | _ => exact h'.elim
  ·rename_i t v hv
   have hv' : E σ x = .iface t v := hv
   refine vfin (v := feval x σ) ?_ h'
   simp only [cop,hv']
  ·exact h'.elim
 case binOp op t x y t' => exact wBin.out h
 case unOp op t x =>
  cases op <;> try exact OpN.out h
  obtain ⟨b,hb,h⟩ := AsBool.out h
  refine vfin (v := .bool (notB b)) ?_ h
  have hb' : E σ x = .bool b := hb
  simp only [cop,hb',cun,Option.map_some]
  cases b <;> rfl
 case convert s d x =>
  have h' : wConv s d x P con σ H K := h
  unfold wConv at h'
  have fin : ∀ {ks kd : IntKind} {n : Int},P.underlying s = some (.int ks)→P.underlying d = some (.int kd)→feval x σ = .int ks n→cvOk ks n = true→K (.int kd (kd.wrap n)) H→SO P con (E σ) H (.convert s d x) K := by
   intro ks kd n h1 h2 h3 h4 h5
   refine vfin ?_ h5
   have h3' : E σ x = .int ks n := h3
   simp only [cop,h3',cconv,h1,h2,h4]
   rfl
  split at h'
  ·rename_i ks kd e1 e2
   obtain ⟨n,hn,h2⟩ := AsNat.out h'
   obtain ⟨g1,g2⟩ := convN.out (tyK_nat e1).2 h2
   exact fin (tyK_nat e1).1 (tyK_nat e2).1 hn g1 g2
  ·rename_i ks kd e1 e2
   obtain ⟨n,hn,h2⟩ := AsNat.out h'
   obtain ⟨g1,g2⟩ := convN.out (tyK_nat e1).2 h2
   exact fin (tyK_nat e1).1 (tyK_int e2).1 hn g1 g2
  ·rename_i ks kd e1 e2
   obtain ⟨n,hn,h2⟩ := AsInt.out h'
   obtain ⟨g1,g2⟩ := Must.out h2
   exact fin (tyK_int e1).1 (tyK_nat e2).1 hn g1 (by rw [wrap_uns (tyK_nat e2).2]; exact g2)
  ·rename_i ks kd e1 e2
   obtain ⟨n,hn,h2⟩ := AsInt.out h'
   obtain ⟨g1,g2⟩ := Must.out h2
   exact fin (tyK_int e1).1 (tyK_int e2).1 hn g1 g2
  ·rename_i e1 e2
   obtain ⟨n,hn,h2⟩ := AsStr.out h'
   refine vfin ?_ h2
   have hn' : E σ x = .string n := hn
   simp only [cop,hn',cconv,tyK_str e1,tyK_str e2]
   rfl
  ·exact OpN.out h'
 case makeInterface t x =>
  have h' : wMkI t x P con σ H K := h
  unfold wMkI at h'
  split at h'
  ·exact h'.elim
  ·rename_i u hne hu
   refine vfin ?_ h'
   simp only [cop,hu]
  ·exact h'.elim
 case makeFunc f x y =>
  cases f with
  | func g =>
   refine vfin ?_ h
   simp only [cop]
   rw [mapE_eq,mapE_eq]
   congr 4 <;> (apply Array.ext'; simp)
  | method g =>
   refine vfin ?_ h
   simp only [cop]
   rw [mapE_eq,mapE_eq]
   congr 4 <;> (apply Array.ext'; simp)
  | _ => exact h.elim
 case makeSlice t l c =>
  have h' : MkS P H t (feval l σ) (feval c σ) K := h
  replace h' := h'.get
  split at h'
  ·rename_i r hr
   refine .val (v := r.1) (H1 := r.2) ?_ h'
   simp only [cop]
   rw [hr]; rfl
  ·exact h'.elim
 case slice t x lo hi mx =>
  have h' : Slc P H t (feval x σ) (optE lo σ) (optE hi σ) (optE mx σ) (fun v => K v H) := h
  replace h' := h'.get
  split at h'
  ·rename_i v hv
   refine vfin (v := v) ?_ h'
   have oe : ∀ o : Option Operand,optE o σ = o.map (E σ) := fun o => by cases o <;> rfl
   rw [oe,oe,oe] at hv
   simp only [cop]
   rw [hv]; rfl
  ·exact h'.elim
 case fieldAddr s x f =>
  have h' : wFieldAt s x f P con σ H K := h
  unfold wFieldAt at h'
  split at h'
  ·rename_i o ho
   obtain ⟨fs,fd,n,h1,h2,h3,rfl⟩ := fieldOf_eq ho
   obtain ⟨b,off,hb,h4⟩ := AsPtr.out h'
   refine vfin ?_ h4
   have hb' : E σ x = .pointer (some ⟨b,off,none⟩) := hb
   simp only [cop,hb',cfieldAt,h1,h2,h3]
   rfl
  ·exact h'.elim
 case field t x f =>
  have h' : wField t x f P con σ H K := h
  unfold wField at h'
  split at h'
  ·rename_i q hq
   obtain ⟨cs,hc,h2⟩ := AsAgg.out h'
   obtain ⟨fs,fd,g1,g2,g3⟩ := fieldPart_eq hq
   have hc' : E σ x = .agg cs := hc
   rcases g3 with ⟨ha,n,hs,rfl⟩ | ⟨ha,rfl⟩
   ·have h2' : K (.agg ⟨takeF n (dropF fd.offset cs.toList)⟩) H := h2
    rw [takeDrop] at h2'
    refine vfin ?_ h2'
    simp only [cop,hc',cfield,g1,g2,partV,ha,hs]
    rfl
   ·have h2' : Nth cs.toList fd.offset fun v => K v H := h2
    obtain ⟨v,e1,e2⟩ := h2'.out
    refine vfin (v := v) ?_ e2
    rw [Array.getElem?_toList] at e1
    simp only [cop,hc',cfield,g1,g2,partV,ha,e1]
    rfl
  ·exact h'.elim
 case indexAddr t x y =>
  have h' : wIndexAt t x y P con σ H K := h
  unfold wIndexAt at h'
  split at h'
  ·rename_i s hs
   obtain ⟨e,hu,hsz⟩ := sliceElem_eq hs
   obtain ⟨b,off,l,c,hx,h2⟩ := AsSlc.out h'
   obtain ⟨k,i,hy,h3⟩ := AsCnt.out h2
   obtain ⟨h4,h5⟩ := Must.out h3
   have hlt : i < l := blt_iff.1 h4
   refine vfin ?_ h5
   have hx' : E σ x = .slice (some ⟨b,off,none⟩) l c := hx
   have hy' : E σ y = .int k (Int.ofNat i) := hy
   simp only [cop,hx',hy',cindexAt,hu,hsz]
   rw [if_pos ⟨Int.natCast_nonneg i,by show (i : Int) < (l : Int); omega⟩]
   rfl
  ·rename_i hs
   split at h'
   ·rename_i n e hu
    split at h'
    ·rename_i s hsz
     obtain ⟨b,off,hx,h2⟩ := AsPtr.out h'
     obtain ⟨k,i,hy,h3⟩ := AsCnt.out h2
     obtain ⟨h4,h5⟩ := Must.out h3
     have hlt : i < n := blt_iff.1 h4
     refine vfin ?_ h5
     have hx' : E σ x = .pointer (some ⟨b,off,none⟩) := hx
     have hy' : E σ y = .int k (Int.ofNat i) := hy
     simp only [cop,hx',hy',cindexAt,hu,hsz]
     rw [if_pos ⟨Int.natCast_nonneg i,by show (i : Int) < (n : Int); omega⟩]
     rfl
    ·exact h'.elim
   ·exact h'.elim
 case index t x y => exact OpN.out h
 case extract x i =>
  obtain ⟨cs,hc,h2⟩ := AsTup.out (show AsTup (feval x σ) (fun l => Nth l i fun v => K v H) from h)
  obtain ⟨v,e1,e2⟩ := Nth.out h2
  refine vfin (v := v) ?_ e2
  rw [Array.getElem?_toList] at e1
  have hc' : E σ x = .tuple cs := hc
  simp only [cop,hc',e1]
 case call c => exact wCall.out h
end
end Go.CM

namespace Go.CM
open Go
noncomputable section
variable {P : Program} {con : CallT}
theorem Rt.known {σ : TF} {a : TM} (h : Rt σ a) {d : Nat} {v : Value} (e : σ d = v) : Rt (upd σ d v) a := fun t => by
 rw [upd_at,h t]
 split
 ·rename_i ht; rw [ht,e]
 ·rfl
theorem wantW.out {o : Oper} {ops : Array Oper} {σ : TF} {a : TM} (ha : Rt σ a) {K : Bool→TF→Prop} (h : wantW o ops.toList σ K) : ∃ σ',Rt σ' a∧K (Region.wanted o (yieldC ops a)) σ' := by
 unfold wantW at h
 unfold Region.wanted
 cases hg : o.guard with
 | none => rw [hg] at h; exact ⟨σ,ha,h⟩
 | some g =>
  obtain ⟨j,w⟩ := g
  rw [hg] at h
  have h' : Option.rec (motive := fun _ => Prop) (K false σ) (fun o => Option.rec (motive := fun _ => Prop) (K false σ)
   (fun d => AsWant (σ d) (K false (upd σ d undV)) fun b => Bool.rec (motive := fun _ => Prop) (K (notW w) (upd σ d (.bool false))) (K w (upd σ d (.bool true))) b) o.dst) (nthF ops.toList j) := h
  rw [nthF_eq,Array.getElem?_toList] at h'
  simp only [yieldC]
  cases ho : ops[j]? with
  | none => rw [ho] at h'; exact ⟨σ,ha,h'⟩
  | some o' =>
   rw [ho] at h'
   have h2 : Option.rec (motive := fun _ => Prop) (K false σ) (fun d => AsWant (σ d) (K false (upd σ d undV)) fun b => Bool.rec (motive := fun _ => Prop) (K (notW w) (upd σ d (.bool false))) (K w (upd σ d (.bool true))) b) o'.dst := h'
   simp only [Option.bind_some]
   cases hd : o'.dst with
   | none => rw [hd] at h2; exact ⟨σ,ha,h2⟩
   | some d =>
    rw [hd] at h2
    have h3 : AsWant (σ d) (K false (upd σ d undV)) fun b => Bool.rec (motive := fun _ => Prop) (K (notW w) (upd σ d (.bool false))) (K w (upd σ d (.bool true))) b := h2
    have had := ha d
    unfold aget at had
    simp only [Option.bind_some]
    cases hget : a.get d with
    | none =>
     rw [hget] at had
     have e : σ d = .tuple #[] := had.symm
     rw [e] at h3
     exact ⟨_,ha.known e,h3⟩
    | some v =>
     rw [hget] at had
     have e : v = σ d := had
     subst e
     cases hv : σ d <;> rw [hv] at h3 <;> try exact h3.elim
     ·rename_i b
      have h4 : Bool.rec (motive := fun _ => Prop) (K (notW w) (upd σ d (.bool false))) (K w (upd σ d (.bool true))) b := h3
      cases b with
      | false => exact ⟨_,ha.known hv,by cases w <;> exact h4⟩
      | true => exact ⟨_,ha.known hv,by cases w <;> exact h4⟩
     ·rename_i cs
      have h4 : (match cs.toList with | [] => K false (upd σ d undV) | _ => False) := h3
      split at h4
      ·rename_i hcs
       have hcs' : cs = #[] := by apply Array.ext'; simpa using hcs
       exact ⟨_,ha.known (hv.trans (by rw [hcs']; rfl)),h4⟩
      ·exact h4.elim
theorem Rt.fun {σ : TF} {a : TM} (h : Rt σ a) : aeval a = E σ := by funext o; exact h.eval o
theorem stepOp_opR (P : Program) (call : CallT) (ops : Array Oper) (o : Oper) (a : TM) (H : CH) : stepOp P call ops o a H = cond (Region.wanted o (yieldC ops a)) (opR P call (aeval a) H o.op) (some (undV,H)) := by
 unfold stepOp opR
 cases Region.wanted o (yieldC ops a) with
 | false => rfl
 | true => rfl
theorem stepW.out {o : Oper} {ops : Array Oper} {σ : TF} {a : TM} (ha : Rt σ a) {H : CH} {K : Bool→TF→KP} (h : stepW P con ops.toList o σ H K) :
  ∃ N v H1 σ',(∀ M,N ≤ M→stepOp P (evalN P con M) ops o a H = some (v,H1))∧Rt σ' a∧K (Region.wanted o (yieldC ops a)) σ' v H1 := by
 obtain ⟨σ',ha',h'⟩ := wantW.out ha h
 have e : ∀ M,stepOp P (evalN P con M) ops o a H = cond (Region.wanted o (yieldC ops a)) (opR P (evalN P con M) (E σ') H o.op) (some (undV,H)) := fun M => by
  rw [stepOp_opR,ha'.fun]
 cases hw : Region.wanted o (yieldC ops a) with
 | false =>
  rw [hw] at h'
  refine ⟨0,undV,H,σ',fun M _ => ?_,ha',h'⟩
  rw [e M,hw]; rfl
 | true =>
  rw [hw] at h'
  obtain ⟨N,v,H1,h1,h2⟩ := opW_ok (show opW o.op P con σ' H (K true σ') from h')
  refine ⟨N,v,H1,σ',fun M hM => ?_,ha',h2⟩
  rw [e M,hw]; exact h1 M hM
theorem opsW.out {n : Nat} (hn : n < 1048576) {ops : Array Oper} : ∀ (l : List Oper) (_ : ∀ o ∈ l,dstOk n o.dst = true) {σ : TF} {a : TM} (_ : Rt σ a) {H : CH} {K : KT},opsW l ops.toList P con σ H K →
  ∃ N a1 H1 σ1,(∀ M,N ≤ M→evalOps P (evalN P con M) ops l a H = some (a1,H1))∧Rt σ1 a1∧K σ1 H1
 | [],_,σ,a,ha,H,K,h => ⟨0,a,H,σ,fun _ _ => rfl,ha,h⟩
 | o::l,hd,σ,a,ha,H,K,h => by
  have h' : stepW P con ops.toList o σ H fun _ σ v H1 => opsW l ops.toList P con (fput σ o.dst v) H1 K := h
  obtain ⟨N,v,H1,σ',h1,ha',h2⟩ := stepW.out ha h'
  obtain ⟨N2,a1,H2,σ1,g1,g2,g3⟩ := opsW.out hn l (fun o ho => hd o (List.mem_cons_of_mem _ ho)) (ha'.put hn (hd o (List.mem_cons_self ..)) v) h2
  refine ⟨N + N2,a1,H2,σ1,fun M hM => ?_,g2,g3⟩
  simp only [evalOps]
  rw [h1 M (by omega)]
  exact g1 M (by omega)
def RRel (r : RecW) (q : Rec) : Prop := r.at_ = q.at_∧r.op = q.op∧r.got = q.got∧Rt r.σ q.tm∧heapDep r.op = true
inductive RRels : List RecW→List Rec→Prop
 | nil : RRels [] []
 | cons {r q rs qs} : RRel r q→RRels rs qs→RRels (r::rs) (q::qs)
theorem dOpsW.out {n : Nat} (hn : n < 1048576) {ops : Array Oper} : ∀ (l : List Oper) (_ : ∀ o ∈ l,dstOk n o.dst = true) (i : Nat) {σ : TF} {a : TM} (_ : Rt σ a) {H : CH} {hs : List CH} {rs : List RecW} {qs : List Rec} (_ : RRels rs qs) {K : TF→CH→List CH→List RecW→Prop},dOpsW l ops.toList P con i σ H hs rs K →
  ∃ N a1 H1 σ1 hs1 rs1 qs1,(∀ M,N ≤ M→drawOps P (evalN P con M) ops l i a H hs qs = some (a1,H1,hs1,qs1))∧Rt σ1 a1∧RRels rs1 qs1∧K σ1 H1 hs1 rs1
 | [],_,i,σ,a,ha,H,hs,rs,qs,hr,K,h => ⟨0,a,H,σ,H::hs,rs,qs,fun _ _ => rfl,ha,hr,h⟩
 | o::l,hd,i,σ,a,ha,H,hs,rs,qs,hr,K,h => by
  have hd' : ∀ o ∈ l,dstOk n o.dst = true := fun o ho => hd o (List.mem_cons_of_mem _ ho)
  have h' : Bool.rec (motive := fun _ => Prop)
   (stepW P con ops.toList o σ H fun b σ v H1 => Bool.rec (motive := fun _ => Prop)
    (dOpsW l ops.toList P con (Nat.succ i) (fput σ o.dst v) H1 hs (Bool.rec (motive := fun _ => List RecW) rs (⟨i,σ,o.op,v⟩::rs) (b && heapDep o.op)) K)
    (dOpsW l ops.toList P con (Nat.succ i) (fput σ o.dst v) H1 (H::hs) rs K) (isEff o.op))
   (dOpsW l ops.toList P con (Nat.succ i) σ H hs rs K) (isAlloc o.op) := h
  cases hal : isAlloc o.op with
  | true =>
   rw [hal] at h'
   obtain ⟨N,a1,H1,σ1,hs1,rs1,qs1,g1,g2⟩ := dOpsW.out hn l hd' (i + 1) ha hr h'
   refine ⟨N,a1,H1,σ1,hs1,rs1,qs1,fun M hM => ?_,g2⟩
   simp only [drawOps,hal]
   exact g1 M hM
  | false =>
   rw [hal] at h'
   obtain ⟨N,v,H1,σ',h1,ha',h2⟩ := stepW.out ha h'
   have hp := ha'.put hn (hd o (List.mem_cons_self ..)) v
   cases hef : isEff o.op with
   | true =>
    rw [hef] at h2
    obtain ⟨N2,a1,H2,σ1,hs1,rs1,qs1,g1,g2⟩ := dOpsW.out hn l hd' (i + 1) hp hr h2
    refine ⟨N + N2,a1,H2,σ1,hs1,rs1,qs1,fun M hM => ?_,g2⟩
    simp only [drawOps,hal]
    rw [h1 M (by omega)]
    simp only [hef]
    exact g1 M (by omega)
   | false =>
    rw [hef] at h2
    have h3 : dOpsW l ops.toList P con (i + 1) (fput σ' o.dst v) H1 hs (Bool.rec (motive := fun _ => List RecW) rs (⟨i,σ',o.op,v⟩::rs) (Region.wanted o (yieldC ops a) && heapDep o.op)) K := h2
    have hrr : RRels (Bool.rec (motive := fun _ => List RecW) rs (⟨i,σ',o.op,v⟩::rs) (Region.wanted o (yieldC ops a) && heapDep o.op)) (recOf i o (Region.wanted o (yieldC ops a)) a v qs) := by
     unfold recOf
     cases hc : (Region.wanted o (yieldC ops a) && heapDep o.op) with
     | false => exact hr
     | true =>
      simp only [Bool.and_eq_true] at hc
      exact .cons ⟨rfl,rfl,rfl,ha',hc.2⟩ hr
    obtain ⟨N2,a1,H2,σ1,hs1,rs1,qs1,g1,g2⟩ := dOpsW.out hn l hd' (i + 1) hp hrr h3
    refine ⟨N + N2,a1,H2,σ1,hs1,rs1,qs1,fun M hM => ?_,g2⟩
    simp only [drawOps,hal]
    rw [h1 M (by omega)]
    simp only [hef]
    exact g1 M (by omega)
theorem floatsW.out {n : Nat} (hn : n < 1048576) : ∀ (l : List Oper) (_ : ∀ o ∈ l,dstOk n o.dst = true) {σ : TF} {a : TM} (_ : Rt σ a) {H : CH} {K : KT},floatsW l P σ H K →
  ∃ a1 H1 σ1,drawFloats P l a H = some (a1,H1)∧Rt σ1 a1∧K σ1 H1
 | [],_,σ,a,ha,H,K,h => ⟨a,H,σ,rfl,ha,h⟩
 | o::l,hd,σ,a,ha,H,K,h => by
  have hd' : ∀ o ∈ l,dstOk n o.dst = true := fun o ho => hd o (List.mem_cons_of_mem _ ho)
  have h' : (match o.op with
   | .alloc t => (match zeroOf P t with | some z => Nw H (mkRow t 0 (cellsF z)) fun b H1 => floatsW l P (fput σ o.dst (ptr b 0)) H1 K | none => False)
   | _ => floatsW l P σ H K) := h
  simp only [drawFloats]
  split at h'
  ·rename_i t ht
   simp only [ht]
   split at h'
   ·rename_i z hz
    simp only [hz]
    rw [cellsF_eq,mkRow_eq] at h'
    exact floatsW.out hn l hd' (ha.put hn (hd o (List.mem_cons_self ..)) _) h'.get
   ·exact h'.elim
  ·rename_i hne
   split
   ·rename_i t ht; exact absurd ht (hne t)
   ·exact floatsW.out hn l hd' ha h'
theorem cop_heapDep {e : Operand→Value} {H H1 : CH} {op : Op} {f : FuncId} {args : Array Value} (h : heapDep op = true) : cop P e H op ≠ some (.enter f args,H1) := by
 intro hc
 cases op <;> first | (cases h; done) | skip
 ·simp only [cop] at hc
  split at hc
  ·split at hc
   ·obtain ⟨a,_,h2⟩ := mapV hc; cases h2
   ·cases hc
  ·cases hc
 ·rename_i b t x y t'
  simp only [cop] at hc
  cases hg : guardOk P t x y (e x) (e y) with
  | false => rw [hg] at hc; cases hc
  | true =>
   rw [hg] at hc
   simp only [cond_true] at hc
   obtain ⟨a,_,h2⟩ := mapV hc; cases h2
 ·simp only [cop] at hc
  obtain ⟨a,_,h2⟩ := mapV hc; cases h2
theorem chkW.out {lo hi : Nat} {r : RecW} {q : Rec} (hr : RRel r q) : ∀ (hs : List CH) (k : Nat) {K : Prop},chkW P con lo hi r hs k K→recChk P lo hi q k hs = true∧K
 | [],k,K,h => ⟨rfl,h⟩
 | H::hs,k,K,h => by
  have h' : Bool.rec (motive := fun _ => Prop) (chkW P con lo hi r hs (k + 1) K) (opW r.op P con r.σ H fun v _ => Same r.got v (chkW P con lo hi r hs (k + 1) K)) (Nat.ble lo k && Nat.ble k hi) := h
  simp only [recChk]
  cases hb : (Nat.ble lo k && Nat.ble k hi) with
  | false =>
   rw [hb] at h'
   obtain ⟨h1,h2⟩ := chkW.out hr hs (k + 1) h'
   exact ⟨by simp [h1],h2⟩
  | true =>
   rw [hb] at h'
   obtain ⟨N,v,H1,h1,h2⟩ := opW_ok (show opW r.op P con r.σ H _ from h')
   obtain ⟨h3,h4⟩ := Must.out h2.get
   obtain ⟨g1,g2⟩ := chkW.out hr hs (k + 1) h4
   obtain ⟨e1,e2,e3,e4,e5⟩ := hr
   have h5 := h1 N (Nat.le_refl _)
   unfold opR at h5
   refine ⟨?_,g2⟩
   rw [e4.fun,← e2,← e3]
   cases hc : cop P (E r.σ) H r.op with
   | none => rw [hc] at h5; cases h5
   | some x =>
    obtain ⟨cn,H2⟩ := x
    cases cn with
    | enter f args => exact absurd hc (cop_heapDep e5)
    | val u =>
     rw [hc] at h5
     simp only [Option.some.injEq,Prod.mk.injEq] at h5
     obtain ⟨rfl,rfl⟩ := h5
     simp only [h3,cond_true,g1,Bool.and_self]
theorem recsW.out {ms : Array Nat} {es : List Nat} {hs : List CH} {rs : List RecW} {qs : List Rec} (hr : RRels rs qs) : ∀ {K : Prop},recsW P con ms es hs rs K→recsChk P ms es hs qs = true∧K := by
 induction hr with
 | nil => exact fun h => ⟨rfl,h⟩
 | @cons r q rs qs hr hrs ih =>
  intro K h
  have h' : Bool.rec (motive := fun _ => Prop) (chkW P con (kmin ms es r.at_) (kmax ms es r.at_) r hs 0 (recsW P con ms es hs rs K)) (recsW P con ms es hs rs K) (Nat.beq (kmin ms es r.at_) (kmax ms es r.at_)) := h
  unfold recsChk
  rw [← hr.1]
  cases hb : Nat.beq (kmin ms es r.at_) (kmax ms es r.at_) with
  | true =>
   rw [hb] at h'
   obtain ⟨h1,h2⟩ := ih h'
   rw [h1]
   exact ⟨rfl,h2⟩
  | false =>
   rw [hb] at h'
   obtain ⟨h1,h2⟩ := chkW.out hr hs 0 h'
   obtain ⟨h3,h4⟩ := ih h2
   rw [h1,h3]
   exact ⟨rfl,h4⟩
theorem drawW.out {n : Nat} (hn : n < 1048576) {ops : Array Oper} (hd : ∀ o ∈ ops.toList,dstOk n o.dst = true) {σ : TF} {a : TM} (ha : Rt σ a) {H : CH} {K : KT} (h : drawW ops P con σ H K) :
  ∃ N a1 H1 σ1,(∀ M,N ≤ M→evalDraw P (evalN P con M) ops a H = some (a1,H1))∧Rt σ1 a1∧K σ1 H1 := by
 obtain ⟨a0,H0,σ0,h1,h2,h3⟩ := floatsW.out hn ops.toList hd ha h
 obtain ⟨N,a1,H1,σ1,hs1,rs1,qs1,g1,g2,g3,g4⟩ := dOpsW.out hn ops.toList hd 0 h2 (hs := []) (.nil) h3
 obtain ⟨k1,k2⟩ := recsW.out g3 g4
 refine ⟨N,a1,H1,σ1,fun M hM => ?_,g2,k2⟩
 unfold evalDraw
 rw [h1]
 simp only [g1 M hM,k1,cond_true]
theorem codeW_ok {n : Nat} (hn : n < 1048576) : ∀ (c : Code),codeOk n c = true→∀ {σ : TF} {H : CH} {K : KX},codeW c P con σ H K→SC P con c σ H K := by
 intro c
 induction c with
 | skip => intro _ σ H K h a ha; exact ⟨0,.normal,a,H,σ,fun _ _ => rfl,ha,h⟩
 | region id ops draw =>
  intro hok σ H K h a ha
  simp only [codeOk,Bool.and_eq_true] at hok
  have hd : ∀ o ∈ ops.toList,dstOk n o.dst = true := fun o ho => by
   have := List.all_eq_true.1 hok.1 o ho
   simp only [Bool.and_eq_true] at this
   exact this.1
  have h' : Bool.rec (motive := fun _ => Prop) (opsW ops.toList ops.toList P con σ H fun σ1 H1 => K .normal σ1 H1) (drawW ops P con σ H fun σ1 H1 => K .normal σ1 H1) draw := h
  cases draw with
  | false =>
   obtain ⟨N,a1,H1,σ1,h1,h2,h3⟩ := opsW.out hn ops.toList hd ha h'
   refine ⟨N,.normal,a1,H1,σ1,fun M hM => ?_,h2,h3⟩
   simp only [evalCode,h1 M hM]
  | true =>
   obtain ⟨N,a1,H1,σ1,h1,h2,h3⟩ := drawW.out hn hd ha h'
   refine ⟨N,.normal,a1,H1,σ1,fun M hM => ?_,h2,h3⟩
   simp only [evalCode,h1 M hM]
 | seq x y ihx ihy =>
  intro hok σ H K h
  simp only [codeOk,Bool.and_eq_true] at hok
  refine SC.seq ?_
  have h' : codeW x P con σ H fun e => ceP e (fun σ1 H1 => codeW y P con σ1 H1 K) (fun i => K (.exit i)) (K .ret) := h
  refine (ihx hok.1 h').mono fun e σ1 H1 q => ?_
  cases e with
  | normal => exact ihy hok.2 q
  | exit i => exact q
  | ret => exact q
 | cond c x y ihx ihy =>
  intro hok σ H K h
  simp only [codeOk,Bool.and_eq_true] at hok
  have h' : AsBool (feval c σ) fun b => Bool.rec (motive := fun _ => Prop) (codeW y P con σ H K) (codeW x P con σ H K) b := h
  obtain ⟨b,hb,h2⟩ := h'.out
  refine SC.cond hb (fun e => ?_) (fun e => ?_)
  ·subst e; exact ihx hok.1.2 h2
  ·subst e; exact ihy hok.2 h2
 | block id c ih =>
  intro hok σ H K h
  simp only [codeOk] at hok
  exact SC.block (ih hok h)
 | loop c ih => intro hok σ H K h; exact h.get
 | exit id => intro _ σ H K h a ha; exact ⟨0,.exit id,a,H,σ,fun _ _ => rfl,ha,h⟩
 | ret => intro _ σ H K h a ha; exact ⟨0,.ret,a,H,σ,fun _ _ => rfl,ha,h⟩
 | rangeFunc f ps x y => intro _ σ H K h; exact h.elim
 | scope x => intro _ σ H K h; exact h.elim
 | label l => intro _ σ H K h; exact h.elim
 | goto l => intro _ σ H K h; exact h.elim
 | refuse s => intro _ σ H K h; exact h.elim
theorem LoopC.ind {α : Type} {n : Nat} {c : Code} {Q : KX} (hok : (Nat.blt n 1048576 && codeOk n c) = true) (I : α→TF→CH→Prop) (μ : α→Nat)
  (h : ∀ x σ H,I x σ H→codeW c P con σ H (fun e => ceP e (fun σ1 H1 => ∃ y,μ y < μ x∧I y σ1 H1) (fun i => Q (.exit i)) (Q .ret)))
  (x : α) (σ : TF) (H : CH) (hI : I x σ H) : LoopC P con c σ H Q := by
 simp only [Bool.and_eq_true] at hok
 refine ⟨SC.loop I μ (fun x σ H hI => (codeW_ok (blt_iff.1 hok.1) c hok.2 (h x σ H hI)).mono fun e σ1 H1 q => ?_) x σ H hI⟩
 cases e with
 | normal => exact .inl ⟨rfl,q⟩
 | exit i => exact .inr ⟨by simp,q⟩
 | ret => exact .inr ⟨by simp,q⟩
theorem LoopC.indP {α : Type} {n id : Nat} {c : Code} {Q : KX} (Post : TF→CH→Prop) (hok : (Nat.blt n 1048576 && codeOk n c) = true) (I : α→TF→CH→Prop) (μ : α→Nat)
  (h : ∀ x σ H,I x σ H→codeW c P con σ H (fun e => ceP e (fun σ1 H1 => ∃ y,μ y < μ x∧I y σ1 H1) (fun i σ1 H1 => i = id∧Post σ1 H1) (Q .ret)))
  (hp : ∀ σ H,Post σ H→Q (.exit id) σ H) (x : α) (σ : TF) (H : CH) (hI : I x σ H) : LoopC P con c σ H Q := by
 simp only [Bool.and_eq_true] at hok
 refine ⟨SC.loop I μ (fun x σ H hI => (codeW_ok (blt_iff.1 hok.1) c hok.2 (h x σ H hI)).mono fun e σ1 H1 q => ?_) x σ H hI⟩
 cases e with
 | normal => exact .inl ⟨rfl,q⟩
 | exit i =>
  obtain ⟨rfl,q2⟩ := q
  exact .inr ⟨by simp,hp _ _ q2⟩
 | ret => exact .inr ⟨by simp,q⟩
theorem resW.out : ∀ (rs : List ResultVar) {σ : TF} {a : TM} (_ : Rt σ a) {H : CH} {K : List Value→Prop},resW P rs σ H K→∃ l,cresults P H a rs = some l∧K l
 | [],σ,a,ha,H,K,h => ⟨[],rfl,h⟩
 | .tmp t::r,σ,a,ha,H,K,h => by
  have h' : resW P r σ H fun l => K (σ t::l) := h
  obtain ⟨l,h1,h2⟩ := resW.out r ha h'
  exact ⟨σ t::l,by simp only [cresults,h1,ha t],h2⟩
 | .cell c t::r,σ,a,ha,H,K,h => by
  have h' : AsPtr (σ c) fun b off => loadW P t H b off fun v => resW P r σ H fun l => K (v::l) := h
  obtain ⟨b,off,hb,h2⟩ := h'.out
  obtain ⟨v,h3,h4⟩ := loadW.out h2
  obtain ⟨l,h5,h6⟩ := resW.out r ha h4
  refine ⟨v::l,?_,h6⟩
  have hb' : aget a c = .pointer (some ⟨b,off,none⟩) := (ha c).trans hb
  simp only [cresults,hb',h3,h5]
theorem funW_ok {f : FuncId} {args : List Value} {H : CH} {K : KP} (hc : con f ⟨args⟩ H = none) (h : funW P con f args H K) : Ev P con f args H K := by
 unfold funW at h
 split at h
 ·rename_i fn hf
  split at h
  ·rename_i c hb
   obtain ⟨h1,h2⟩ := Must.out h
   rw [lenF_eq] at h1
   obtain ⟨hf1,hok⟩ := funAt_ok f fn hf
   unfold fnOk at hok
   simp only [hb,Bool.and_eq_true] at hok
   have hk : fn.ntmps < 1048575 := blt_iff.1 hok.1.1
   refine Ev.of_code hf hb h1 hc ((codeW_ok (by omega) c hok.2 h2).mono fun e σ1 H1 q => ?_)
   cases e with
   | normal => exact fun a ha => resW.out _ ha q
   | exit i => exact q
   | ret => exact fun a ha => resW.out _ ha q
  ·exact h.elim
 ·exact h.elim
end
def Bnd {α : Type} (v : α) (K : α→Prop) : Prop := K v
def Rz (b : Bool) (k : Nat) (s : TF) (j : Nat) : Nat→TF
 | 0 => s
 | n + 1 => upd (upd (Rz b k s j n) k (.bool b)) (j + n) unit
end Go.CM

