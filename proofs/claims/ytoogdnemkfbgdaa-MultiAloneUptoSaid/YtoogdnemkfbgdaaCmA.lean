/- A deterministic evaluator of the model's code over a canonical heap, and each of its plain operations against the model's own: whenever the evaluator answers, the model does the same in a related world. No conditions beyond the ones each theorem states. -/
import Derived.Orders
import Derived.KernelRfl
import Derived.Laws.CopyRow
import Derived.ChangeKeysEq
import Derived.Laws.StructEq
set_option linter.unusedVariables false
set_option linter.unusedSimpArgs false

namespace Go.CM
open Go
inductive T (α : Type) where
  | leaf
  | node (l : T α) (v : Option α) (r : T α)
def T.get {α : Type} : T α→Nat→Option α
  | .leaf,_ => none
  | .node l v r,i => cond (Nat.beq i 0) v (cond (Nat.beq (i % 2) 1) (l.get (i / 2)) (r.get (i / 2 - 1)))
def T.set {α : Type} : Nat→T α→Nat→α→T α
  | 0,t,_,_ => t
  | n + 1,.leaf,i,x => cond (Nat.beq i 0) (.node .leaf (some x) .leaf) (cond (Nat.beq (i % 2) 1) (.node (T.set n .leaf (i / 2) x) none .leaf) (.node .leaf none (T.set n .leaf (i / 2 - 1) x)))
  | n + 1,.node l v r,i,x => cond (Nat.beq i 0) (.node l (some x) r) (cond (Nat.beq (i % 2) 1) (.node (T.set n l (i / 2) x) v r) (.node l v (T.set n r (i / 2 - 1) x)))
structure M (α : Type) where
  base : Nat→Option α
  own : T α
  fm : Bool := false
def M.get {α : Type} (m : M α) (i : Nat) : Option α :=
  match m.own.get i with
  | some x => some x
  | none => m.base i
def M.setB {α : Type} (m : M α) (i : Nat) (x : α) : M α := { base := fun j => cond (Nat.beq i j) (some x) (m.get j),own := .leaf,fm := m.fm }
def M.set {α : Type} (m : M α) (i : Nat) (x : α) : M α :=
  cond m.fm (m.setB i x) (cond (Nat.blt i 1099511627775) { m with own := T.set 40 m.own i x } (m.setB i x))
structure Blk where
  elem : TypeId
  size : Nat
  es : Nat
  wr : Bool
  dead : Bool
  cells : M Value
def Blk.get (b : Blk) (j : Nat) : Option Value := cond (Nat.blt j b.size) (b.cells.get j) none
structure CH where
  next : Nat
  blks : M Blk
def CH.blk (H : CH) (b : Nat) : Option Blk := H.blks.get b
def CH.live (H : CH) (b : Nat) : Option Blk :=
  match H.blks.get b with
  | some k => cond k.dead none (some k)
  | none => none
def CH.cell (H : CH) (b off : Nat) : Option Value :=
  match H.live b with
  | some k => k.get off
  | none => none
def isCell : Value→Bool
  | .agg _ => false
  | .tuple _ => false
  | _ => true
def Blk.setL (k : Blk) : (off : Nat)→List Value→Option Blk
  | _,[] => some k
  | off,v::r => cond (Nat.blt off k.size && isCell v) (Blk.setL { k with cells := k.cells.set off v } (off + 1) r) none
def CH.storeL (H : CH) (b off : Nat) (vs : List Value) : Option CH :=
  match H.live b with
  | some k =>
    cond k.wr
      (match k.setL off vs with
       | some k1 => some { H with blks := H.blks.set b k1 }
       | none => none)
      none
  | none => none
def Blk.list (k : Blk) : (off n : Nat)→Option (List Value)
  | _,0 => some []
  | off,n + 1 =>
    match k.get off with
    | some v =>
      match k.list (off + 1) n with
      | some vs => some (v::vs)
      | none => none
    | none => none
def CH.list (H : CH) (b off n : Nat) : Option (List Value) :=
  match H.live b with
  | some k => k.list off n
  | none => none
def CH.new (H : CH) (k : Blk) : CH := { next := H.next + 1,blks := H.blks.set H.next k }
def rowOf (elem : TypeId) (cs : Array Value) : Blk :=
  { elem,size := cs.size,es := 0,wr := true,dead := false,cells := { base := fun j => cs[j]?,own := .leaf } }
inductive CN where
  | val (v : Value)
  | enter (f : FuncId) (args : Array Value)
def undV : Value := .tuple #[]
def isAggT (P : Program) (t : TypeId) : Option Bool :=
  match P.underlying t with
  | some (.struct _) => some true
  | some (.array _ _) => some true
  | some _ => some false
  | none => none
def szOf (P : Program) (t : TypeId) : Option Nat :=
  match P.info? t with
  | some i => some i.size
  | none => none
def vpure : Nat→Value→Bool
  | 0,_ => false
  | n + 1,v =>
    match v with
    | .bool _ => true
    | .int _ _ => true
    | .float _ _ => true
    | .string _ => true
    | .pointer none => true
    | .slice none _ _ => true
    | .map none => true
    | .chan none => true
    | .nilFunc => true
    | .nilIface => true
    | .func _ a b => a.toList.all (vpure n) && b.toList.all (vpure n)
    | .agg cs => cs.toList.all (vpure n)
    | .tuple cs => cs.toList.all (vpure n)
    | _ => false
def zeroOf (P : Program) (t : TypeId) : Option Value :=
  match P.info? t with
  | some i =>
    match i.zero with
    | some z => cond (vpure 100 z) (some z) none
    | none => none
  | none => none
def loadV (P : Program) (H : CH) (t : TypeId) (b off : Nat) : Option Value :=
  match isAggT P t with
  | some true =>
    match szOf P t with
    | some n =>
      match H.list b off n with
      | some vs => some (.agg vs.toArray)
      | none => none
    | none => none
  | some false => H.cell b off
  | none => none
def storeV (P : Program) (H : CH) (t : TypeId) (b off : Nat) (v : Value) : Option CH :=
  match szOf P t with
  | some n => cond (Nat.beq v.cells.size n) (H.storeL b off v.cells.toList) none
  | none => none
def partV (P : Program) (t : TypeId) (cs : Array Value) (off : Nat) : Option Value :=
  match isAggT P t with
  | some true =>
    match szOf P t with
    | some n => some (.agg (cs.extract off (off + n)))
    | none => none
  | some false => cs[off]?
  | none => none
def ptr (b off : Nat) : Value := .pointer (some ⟨b,off,none⟩)
def CH.ours (H : CH) (b : Nat) : Bool :=
  match H.live b with
  | some k => k.wr
  | none => false
def ceqFields (eq : TypeId→Value→Value→Option Bool) (P : Program) (xs ys : Array Value) : List Field→Option Bool
  | [] => some true
  | f::r =>
    cond (f.name == "_") (ceqFields eq P xs ys r)
      (match partV P f.type xs f.offset,partV P f.type ys f.offset with
       | some x,some y =>
         match eq f.type x y with
         | some true => ceqFields eq P xs ys r
         | some false => some false
         | none => none
       | _,_ => none)
def ceq (P : Program) (H : CH) : Nat→TypeId→Value→Value→Option Bool
  | 0,_,_,_ => none
  | d + 1,t,x,y =>
    match P.underlying t with
    | none => none
    | some u =>
      match u,x,y with
      | .bool,.bool a,.bool b => some (a == b)
      | .int _,.int k a,.int k' b => if k = k' then some (a == b) else none
      | .string,.string a,.string b => some (a == b)
      | .pointer _,.pointer none,.pointer b => some b.isNone
      | .pointer _,.pointer (some _),.pointer none => some false
      | .pointer e,.pointer (some a),.pointer (some b) =>
        match szOf P e,a.spot,b.spot with
        | some (_ + 1),none,none => cond (H.ours a.block && H.ours b.block) (some (Nat.beq a.block b.block && Nat.beq a.off b.off)) none
        | _,_,_ => none
      | .interface _,.nilIface,.nilIface => some true
      | .interface _,.nilIface,.iface _ _ => some false
      | .interface _,.iface _ _,.nilIface => some false
      | .struct fs,.agg xs,.agg ys => cond (P.stoodInHeld t) none (ceqFields (ceq P H d) P xs ys fs.toList)
      | .slice _,.slice none _ _,.slice b _ _ => some b.isNone
      | .slice _,.slice (some _) _ _,.slice none _ _ => some false
      | .func _ _ _,.nilFunc,.nilFunc => some true
      | .func _ _ _,.nilFunc,.func _ _ _ => some false
      | .func _ _ _,.func _ _ _,.nilFunc => some false
      | _,_,_ => none
def isConstO : Operand→Bool
  | .const _ => true
  | _ => false
def guardOk (P : Program) (t : TypeId) (x y : Operand) (a b : Value) : Bool :=
  match a,b with
  | .nilIface,.nilIface => isConstO x || isConstO y
  | .agg _,.agg _ => !P.eqGuardType P.depth t
  | _,_ => true
def limA : IntKind→Nat
  | .i8 => 128
  | .i16 => 32768
  | .i32 => 2147483648
  | .i64 => 9223372036854775808
  | .u8 => 256
  | .u16 => 65536
  | .u32 => 4294967296
  | .u64 => 18446744073709551616
def sOk (k : IntKind) (x : Int) : Bool :=
  match x with
  | .ofNat n => !k.signed || Nat.blt n (limA k)
  | .negSucc n => !k.signed || Nat.blt n (limA k)
def cvOk (k : IntKind) (x : Int) : Bool :=
  match k,x with
  | .u64,_ => true
  | k,.ofNat n => Nat.blt n (limA k)
  | k,.negSucc n => !k.signed || Nat.blt n (limA k)
def cintOp (op : BinOp) (k : IntKind) (a b : Int) : Option Value :=
  match op with
  | .add => if sOk k (a + b) = false then none else some (.int k (k.wrap (a + b)))
  | .sub => if sOk k (a - b) = false then none else some (.int k (k.wrap (a - b)))
  | .mul => some (.int k (k.wrap (a * b)))
  | .quo => if b = 0 then none else some (.int k (k.wrap (a.tdiv b)))
  | .rem => if b = 0 then none else some (.int k (a.tmod b))
  | .and => some (.int k (k.wrap (BitVec.ofInt k.bits a &&& BitVec.ofInt k.bits b).toNat))
  | .or => some (.int k (k.wrap (BitVec.ofInt k.bits a ||| BitVec.ofInt k.bits b).toNat))
  | .xor => some (.int k (k.wrap (BitVec.ofInt k.bits a ^^^ BitVec.ofInt k.bits b).toNat))
  | .andNot => some (.int k (k.wrap (BitVec.ofInt k.bits a &&& ~~~BitVec.ofInt k.bits b).toNat))
  | .eql => some (.bool (a == b))
  | .neq => some (.bool (a != b))
  | .lss => some (.bool (a < b))
  | .leq => some (.bool (a ≤ b))
  | .gtr => some (.bool (a > b))
  | .geq => some (.bool (a ≥ b))
  | _ => none
def cstrOp (op : BinOp) (x y : ByteArray) : Option Value :=
  match op with
  | .eql => some (.bool (x.toList == y.toList))
  | .neq => some (.bool (!(x.toList == y.toList)))
  | .lss => some (.bool (Op.bytesLess x.toList y.toList))
  | _ => none
def cbin (P : Program) (H : CH) (op : BinOp) (t : TypeId) (x y : Value) : Option Value :=
  match op,x,y with
  | .shl,.int k a,.int _ b => if b < 0 then none else some (.int k (k.wrap (a * 2 ^ (min b.toNat k.bits))))
  | .shr,.int k a,.int _ b => if b < 0 then none else some (.int k (a.fdiv (2 ^ (min b.toNat k.bits))))
  | op,.int k a,.int k' b => if k = k' then cintOp op k a b else none
  | op,.string a,.string b => cstrOp op a b
  | .eql,x,y => (ceq P H 10000 t x y).map fun b => .bool b
  | .neq,x,y => (ceq P H 10000 t x y).map fun b => .bool !b
  | _,_,_ => none
def cun (op : UnOp) (x : Value) : Option Value :=
  match op,x with
  | .neg,.int k n => some (.int k (k.wrap (0 - n)))
  | .xor,.int k n => some (.int k (k.wrap (BitVec.ofInt k.bits (if k.signed then -1 else k.max) ^^^ BitVec.ofInt k.bits n).toNat))
  | .not,.bool b => some (.bool !b)
  | _,_ => none
def cconv (P : Program) (src dst : TypeId) (x : Value) : Option Value :=
  match P.underlying src,P.underlying dst,x with
  | some (.int ks),some (.int k),.int _ n => if cvOk ks n = false then none else some (.int k (k.wrap n))
  | some .string,some .string,.string s => some (.string s)
  | _,_,_ => none
def cbound (x : Value) (y : Nat) : Option Nat :=
  match x with
  | .int _ i => if 0 ≤ i∧i ≤ y then some i.toNat else none
  | _ => none
def cbounds (len cap : Nat) (low high max : Option Value) : Option (Nat × Nat × Nat) :=
  match (match max with | some v => cbound v cap | none => some cap) with
  | none => none
  | some m =>
    match (match high,max with | some v,_ => cbound v m | none,none => some len | none,some _ => none) with
    | none => none
    | some h =>
      match (match low with | some v => cbound v h | none => some 0) with
      | none => none
      | some l => some (l,h,m)
def open? (H : CH) (b off cap s : Nat) : Option Bool :=
  match H.blk b with
  | some k => cond (Nat.blt 0 k.es && Nat.beq (off + cap * k.es) k.size) (cond (Nat.beq k.es s) (some true) none) (some false)
  | none => none
def cslice (P : Program) (H : CH) (t : TypeId) (x : Value) (lo hi mx : Option Value) : Option Value :=
  match P.underlying t,x with
  | some .string,.string s =>
    match mx,cbounds s.size s.size lo hi none with
    | none,some (l,h,_) => some (.string (s.extract l h))
    | _,_ => none
  | some (.slice e),.slice none len cap =>
    match cbounds len cap lo hi mx,szOf P e with
    | some (l,h,m),some _ => some (.slice none (h - l) (m - l))
    | _,_ => none
  | some (.slice e),.slice (some a) len cap =>
    match cbounds len cap lo hi mx,szOf P e,a.spot with
    | some (l,h,m),some (s + 1),none =>
      match cond (Nat.ble h m) (open? H a.block a.off cap (s + 1)) none,mx with
      | some op,none => some (.slice (some (cond (Nat.beq m l && !op) a ⟨a.block,a.off + l * (s + 1),none⟩)) (h - l) (m - l))
      | some _,some _ => some (.slice (some (cond (Nat.beq m l) a ⟨a.block,a.off + l * (s + 1),none⟩)) (h - l) (m - l))
      | _,_ => none
    | _,_,_ => none
  | some (.array n e),.pointer (some a) =>
    match cbounds n n lo hi mx,szOf P e,a.spot with
    | some (l,h,m),some (s + 1),none => some (.slice (some (cond (Nat.beq m l) a ⟨a.block,a.off + l * (s + 1),none⟩)) (h - l) (m - l))
    | _,_,_ => none
  | _,_ => none
def cfieldAt (P : Program) (s : TypeId) (x : Value) (f : Nat) : Option Value :=
  match P.underlying s,x with
  | some (.struct fs),.pointer (some a) =>
    match fs[f]? with
    | some fd =>
      match szOf P fd.type,a.spot with
      | some (_ + 1),none => some (ptr a.block (a.off + fd.offset))
      | _,_ => none
    | none => none
  | _,_ => none
def cfield (P : Program) (t : TypeId) (x : Value) (f : Nat) : Option Value :=
  match P.underlying t,x with
  | some (.struct fs),.agg cs =>
    match fs[f]? with
    | some fd => partV P fd.type cs fd.offset
    | none => none
  | _,_ => none
def cindexAt (P : Program) (t : TypeId) (x ix : Value) : Option Value :=
  match P.underlying t,x,ix with
  | some (.array n e),.pointer (some a),.int _ i =>
    match szOf P e,a.spot with
    | some s,none => if 0 ≤ i∧i < n then some (ptr a.block (a.off + i.toNat * s)) else none
    | _,_ => none
  | some (.slice e),.slice (some a) len _,.int _ i =>
    match szOf P e,a.spot with
    | some s,none => if 0 ≤ i∧i < len then some (ptr a.block (a.off + i.toNat * s)) else none
    | _,_ => none
  | _,_,_ => none
def cindex (P : Program) (t : TypeId) (x ix : Value) : Option Value :=
  match P.underlying t,x,ix with
  | some (.array n e),.agg cs,.int _ i =>
    match szOf P e with
    | some s => if 0 ≤ i∧i < n then partV P e cs (i.toNat * s) else none
    | none => none
  | some .string,.string s,.int _ i =>
    if 0 ≤ i then
      match s[i.toNat]? with
      | some b => some (.int .u8 b.toNat)
      | none => none
    else none
  | _,_,_ => none
def placesOf (P : Program) : List Field→Option (List (Nat × Nat))
  | [] => some []
  | f::r =>
    match szOf P f.type,placesOf P r with
    | some s,some l => some ((f.offset,s)::l)
    | _,_ => none
def cbuild (P : Program) (t : TypeId) (parts : List (Nat × Value)) : Option Value :=
  match zeroOf P t,P.underlying t with
  | some z,some (.struct fs) =>
    match placesOf P fs.toList with
    | some ps =>
      match Instr.fill (fun i => ps[i]?) z.cells parts with
      | some cs => some (.agg cs)
      | none => none
    | none => none
  | some z,some (.array _ e) =>
    match szOf P e with
    | some s =>
      match Instr.fill (fun i => some (i * s,s)) z.cells parts with
      | some cs => some (.agg cs)
      | none => none
    | none => none
  | _,_ => none
def zerosBlk (elem : TypeId) (z : Array Value) (n : Nat) : Blk :=
  { elem,size := n * z.size,es := 0,wr := true,dead := false,cells := { base := fun j => z[j % z.size]?,own := .leaf } }
def limit : Int := 281474976710656
def cmakeSlice (P : Program) (H : CH) (t : TypeId) (len cap : Value) : Option (Value × CH) :=
  match P.underlying t,len,cap with
  | some (.slice e),.int _ l,.int _ c =>
    match P.info? e,zeroOf P e with
    | some i,some z =>
      if 0 ≤ l∧l ≤ c∧c ≤ 9223372036854775807∧(i.bytes : Int) * c ≤ limit∧i.size = z.cells.size∧0 < i.size then
        some (.slice (some ⟨H.next,0,none⟩) l.toNat c.toNat,H.new (zerosBlk e z.cells c.toNat))
      else none
    | _,_ => none
  | _,_,_ => none
def cbuildSlice (P : Program) (H : CH) (t : TypeId) (len : Nat) (parts : List (Nat × Value)) : Option (Value × CH) :=
  match P.underlying t with
  | some (.slice e) =>
    match szOf P e,zeroOf P e with
    | some (s + 1),some z =>
      if z.cells.size = s + 1∧len * (s + 1) ≤ 16777216 then
        match Instr.fill (fun i => some (i * (s + 1),s + 1)) ((Array.range (len * (s + 1))).map (fun j => z.cells[j % z.cells.size]!)) parts with
        | some cs => some (.slice (some ⟨H.next,0,none⟩) len len,H.new (rowOf e cs))
        | none => none
      else none
    | _,_ => none
  | _ => none
def srcCells (H : CH) (s n : Nat) : Value→Option (List Value)
  | .slice (some a) _ _ =>
    match a.spot with
    | none => H.list a.block a.off (n * s)
    | some _ => none
  | .slice none _ _ => some []
  | _ => none
def grownRow (e : TypeId) (s : Nat) (k : Blk) (off len xl : Nat) (new : List Value) : Blk :=
  { elem := e,size := (len + xl) * s,es := s,wr := true,dead := false,
    cells := { base := fun j => cond (Nat.blt j (len * s)) (k.get (off + j)) (new[j - len * s]?),own := .leaf } }
def freshRow (e : TypeId) (s : Nat) (xl : Nat) (new : List Value) : Blk :=
  { elem := e,size := xl * s,es := s,wr := true,dead := false,cells := { base := fun j => new[j]?,own := .leaf } }
def CH.storeA (H : CH) (b off : Nat) (vs : List Value) : Option CH :=
  match H.live b with
  | some k => cond k.cells.fm none (H.storeL b off vs)
  | none => none
theorem CH.of_storeA {H H1 : CH} {b off : Nat} {vs : List Value} (h : H.storeA b off vs = some H1) : H.storeL b off vs = some H1 := by
  unfold CH.storeA at h
  cases hl : H.live b with
  | none => rw [hl] at h; cases h
  | some k =>
    rw [hl] at h
    cases hf : k.cells.fm with
    | true => simp only [hf,cond_true] at h; cases h
    | false => simpa only [hf,cond_false] using h
def fmBad (k : Blk) (off cap : Nat) : Bool := k.cells.fm && !(Nat.blt 0 k.es && Nat.beq (off + cap * k.es) k.size)
def cappend (P : Program) (H : CH) (argTypes : Array TypeId) (args : Array Value) : Option (Value × CH) :=
  match (argTypes[0]? : Option TypeId),(argTypes[1]? : Option TypeId),(args[0]? : Option Value),(args[1]? : Option Value) with
  | some st,some xt,some (.slice base len cap),some (.slice xa xl xc) =>
    match P.underlying st,P.underlying xt with
    | some (.slice e),some (.slice _) =>
      match P.info? e,zeroOf P e with
      | some i,some z =>
        match i.size with
        | 0 => none
        | s + 1 =>
          match srcCells H (s + 1) xl (.slice xa xl xc) with
          | none => none
          | some new =>
            cond (Nat.beq new.length (xl * (s + 1)))
            (cond (Nat.ble (len + xl) cap)
              (match base with
               | none => cond (Nat.beq (len + xl) 0) (some (.slice none 0 cap,H)) none
               | some a =>
                 match a.spot,xl with
                 | none,0 => some (.slice base len cap,H)
                 | none,_ + 1 =>
                   match H.storeA a.block (a.off + len * (s + 1)) new with
                   | some H1 => some (.slice base (len + xl) cap,H1)
                   | none => none
                 | some _,_ => none)
              (cond (Nat.ble ((2 * (len + xl) + 1000) * i.bytes) 281474976710656 && Nat.beq z.cells.size (s + 1) && Nat.ble (len + xl) 1152921504606846976)
                (match base with
                 | none =>
                   cond (Nat.beq len 0) (some (.slice (some ⟨H.next,0,none⟩) xl xl,H.new (freshRow e (s + 1) xl new))) none
                 | some a =>
                   match a.spot,H.live a.block with
                   | none,some k =>
                     cond (fmBad k a.off cap) none (cond (Nat.ble (a.off + len * (s + 1)) k.size)
                       (cond (Nat.blt 0 k.es && Nat.beq (a.off + cap * k.es) k.size)
                         (cond (Nat.beq k.es (s + 1) && k.wr && new.all isCell && Nat.beq k.elem e)
                           (some (.slice (some ⟨H.next,0,none⟩) (len + xl) (len + xl),({ H with blks := H.blks.set a.block { k with dead := true } } : CH).new (grownRow e (s + 1) k a.off len xl new)))
                           none)
                         (some (.slice (some ⟨H.next,0,none⟩) (len + xl) (len + xl),H.new (grownRow e (s + 1) k a.off len xl new))))
                       none)
                   | _,_ => none)
                none))
            none
      | _,_ => none
    | _,_ => none
  | _,_,_,_ => none
def ccopy (P : Program) (H : CH) (argTypes : Array TypeId) (args : Array Value) : Option (Value × CH) :=
  match (argTypes[0]? : Option TypeId),(args[0]? : Option Value),(args[1]? : Option Value) with
  | some dt,some (.slice base dl _),some (.slice xa xl xc) =>
    match P.underlying dt with
    | some (.slice e) =>
      match szOf P e,srcCells H ((szOf P e).getD 0) (Nat.min xl dl) (.slice xa xl xc) with
      | some _,some cs =>
        match base with
        | none => some (.int .i64 (Nat.min xl dl : Nat),H)
        | some a =>
          match a.spot,H.storeL a.block a.off cs with
          | none,some H1 => some (.int .i64 (Nat.min xl dl : Nat),H1)
          | _,_ => none
      | _,_ => none
    | _ => none
  | _,_,_ => none
def cclear (P : Program) (H : CH) (argTypes : Array TypeId) (args : Array Value) : Option (Value × CH) :=
  match (argTypes[0]? : Option TypeId),(args[0]? : Option Value) with
  | some t,some (.slice base n _) =>
    match P.underlying t with
    | some (.slice e) =>
      match zeroOf P e with
      | some z =>
        cond (Nat.beq z.cells.size 1) (match base with
        | none => some (.tuple #[],H)
        | some a =>
          match a.spot,H.storeL a.block a.off (List.replicate n z.cells[0]!) with
          | none,some H1 => some (.tuple #[],H1)
          | _,_ => none) none
      | none => none
    | _ => none
  | _,_ => none
def clen (P : Program) (argTypes : Array TypeId) (args : Array Value) : Option Value :=
  match (argTypes[0]? : Option TypeId),(args[0]? : Option Value) with
  | some t,some x =>
    match P.underlying t,x with
    | some .string,.string s => some (.int .i64 (s.size : Nat))
    | some (.array n _),_ => some (.int .i64 n)
    | some (.slice _),.slice _ n _ => some (.int .i64 n)
    | _,_ => none
  | _,_ => none
def cminmax (mx : Bool) : List Value→Option Value
  | .int k x::[.int k' y] => if k = k' then some (.int k (cond mx (if y > x then y else x) (if y < x then y else x))) else none
  | _ => none
def ccallF (P : Program) (f : FuncId) (args : Array Value) : Option CN :=
  match P.funcs[f]? with
  | some fn => cond fn.body.isSome (some (.enter f args)) none
  | none => none
def cmethod (P : Program) (t : TypeId) (v : Value) (name : String) : Option (FuncId × Value) :=
  match P.info? t with
  | some i =>
    match i.methods.find? (·.name == name) with
    | some m =>
      match m.path.toList,m.func,P.underlying t with
      | [],some (f,true),some (.pointer _) => some (f,v)
      | _,_,_ => none
    | none => none
  | none => none
def methOk {α : Type} (P : Program) (name : String) (l : List Value) (k : Option α) : Option α :=
  match l with
  | [.iface t v] => (match cmethod P t v name with | some _ => k | none => none)
  | _ => none
def ccall (P : Program) (e : Operand→Value) (H : CH) (c : Call) : Option (CN × CH) :=
  match c.callee with
  | .builtin .append => (cappend P H c.argTypes (c.args.map e)).map fun r => (.val r.1,r.2)
  | .builtin .copy => (ccopy P H c.argTypes (c.args.map e)).map fun r => (.val r.1,r.2)
  | .builtin .clear => (cclear P H c.argTypes (c.args.map e)).map fun r => (.val r.1,r.2)
  | .builtin .len => (clen P c.argTypes (c.args.map e)).map fun r => (.val r,H)
  | .builtin .min => (cminmax false (c.args.map e).toList).map fun r => (.val r,H)
  | .builtin .max => (cminmax true (c.args.map e).toList).map fun r => (.val r,H)
  | .builtin _ => none
  | .invoke r name =>
    match e r with
    | .iface t v =>
      match cmethod P t v name with
      | some (f,rc) => (ccallF P f (#[rc]++c.args.map e)).map fun r => (r,H)
      | none => none
    | _ => none
  | .value f =>
    match e f with
    | .func (.func g) first captured => (ccallF P g ((first++c.args.map e)++captured)).map fun r => (r,H)
    | _ => none
def cop (P : Program) (e : Operand→Value) (H : CH) (op : Op) : Option (CN × CH) :=
  let v (x : Option Value) : Option (CN × CH) := x.map fun x => (.val x,H)
  let vh (x : Option (Value × CH)) : Option (CN × CH) := x.map fun x => (.val x.1,x.2)
  let u (x : Option CH) : Option (CN × CH) := x.map fun x => (.val undV,x)
  match op with
  | .move x => some (.val (e x),H)
  | .assign x => some (.val (e x),H)
  | .pick c a b =>
    match e c with
    | .bool t => some (.val (cond t (e a) (e b)),H)
    | _ => none
  | .alloc elem => vh ((zeroOf P elem).map fun z => (ptr H.next 0,H.new (rowOf elem z.cells)))
  | .box elem x => some (.val (ptr H.next 0),H.new (rowOf elem (e x).cells))
  | .build t parts => v (cbuild P t (parts.map fun (i,x) => (i,e x)).toList)
  | .buildSlice t len parts => vh (cbuildSlice P H t len (parts.map fun (i,x) => (i,e x)).toList)
  | .load t a =>
    match e a with
    | .pointer (some a) =>
      match a.spot with
      | none => v (loadV P H t a.block a.off)
      | some _ => none
    | _ => none
  | .store t a x =>
    match e a with
    | .pointer (some a) =>
      match a.spot with
      | none => u (storeV P H t a.block a.off (e x))
      | some _ => none
    | _ => none
  | .nilCheck x =>
    match e x with
    | .pointer (some a) => some (.val (.pointer (some a)),H)
    | .func (.func f) a b => some (.val (.func (.func f) a b),H)
    | .iface t v => some (.val (.iface t v),H)
    | .func (.method name) a b => methOk P name a.toList (some (.val (.func (.method name) a b),H))
    | _ => none
  | .binOp op t x y _ => cond (guardOk P t x y (e x) (e y)) (v (cbin P H op t (e x) (e y))) none
  | .unOp op _ x => v (cun op (e x))
  | .convert src dst x => v (cconv P src dst (e x))
  | .makeInterface t x =>
    match P.underlying t with
    | some (.interface _) => none
    | some _ => some (.val (.iface t (e x)),H)
    | none => none
  | .makeFunc (.func f) first captured => some (.val (.func (.func f) (first.map e) (captured.map e)),H)
  | .makeFunc (.method f) first captured => some (.val (.func (.method f) (first.map e) (captured.map e)),H)
  | .makeSlice t l c => vh (cmakeSlice P H t (e l) (e c))
  | .slice t x lo hi mx => v (cslice P H t (e x) (lo.map e) (hi.map e) (mx.map e))
  | .fieldAddr s x f => v (cfieldAt P s (e x) f)
  | .field t x f => v (cfield P t (e x) f)
  | .indexAddr t x ix => v (cindexAt P t (e x) (e ix))
  | .index t x ix => v (cindex P t (e x) (e ix))
  | .extract t ix =>
    match e t with
    | .tuple vs =>
      match vs[ix]? with
      | some x => some (.val x,H)
      | none => none
    | _ => none
  | .call c => ccall P e H c
  | _ => none
abbrev TM := M Value
def tm0 : TM := { base := fun _ => none,own := .leaf }
def aget (a : TM) (t : Nat) : Value :=
  match a.get t with
  | some v => v
  | none => undV
def aeval (a : TM) : Operand→Value
  | .tmp t => aget a t
  | .const v => v
  | .global _ => undV
  | .func f => .func (.func f) #[] #[]
def aput (a : TM) (dst : Option Tmp) (v : Value) : TM :=
  match dst with
  | some d => { a with own := T.set 20 a.own d v }
  | none => a
def tOf : Nat→List Value→TM
  | _,[] => tm0
  | i,v::r => aput (tOf (i + 1) r) (some i) v
def yieldC (ops : Array Oper) (a : TM) (j : Nat) : Option Bool :=
  match ((ops[j]?).bind (·.dst)).bind (a.get ·) with
  | some (.bool b) => some b
  | _ => none
abbrev CallT := FuncId→Array Value→CH→Option (Value × CH)
def stepOp (P : Program) (call : CallT) (ops : Array Oper) (o : Oper) (a : TM) (H : CH) : Option (Value × CH) :=
  match Region.wanted o (yieldC ops a) with
  | false => some (undV,H)
  | true =>
    match cop P (aeval a) H o.op with
    | some (.val v,H1) => some (v,H1)
    | some (.enter f args,H1) => call f args H1
    | none => none
def evalOps (P : Program) (call : CallT) (ops : Array Oper) : List Oper→TM→CH→Option (TM × CH)
  | [],a,H => some (a,H)
  | o::r,a,H =>
    match stepOp P call ops o a H with
    | some (v,H1) => evalOps P call ops r (aput a o.dst v) H1
    | none => none
def veqL (eq : Value→Value→Bool) : List Value→List Value→Bool
  | [],[] => true
  | x::xs,y::ys => eq x y && veqL eq xs ys
  | _,_ => false
def veq : Nat→Value→Value→Bool
  | 0,_,_ => false
  | n + 1,x,y =>
    match x,y with
    | .bool a,.bool b => a == b
    | .int k a,.int k' b => decide (k = k') && decide (a = b)
    | .string a,.string b => decide (a = b)
    | .pointer a,.pointer b => decide (a = b)
    | .slice a l c,.slice b l' c' => decide (a = b) && Nat.beq l l' && Nat.beq c c'
    | .nilFunc,.nilFunc => true
    | .nilIface,.nilIface => true
    | .iface t a,.iface t' b => Nat.beq t t' && veq n a b
    | .func f a b,.func g c d => decide (f = g) && veqL (veq n) a.toList c.toList && veqL (veq n) b.toList d.toList
    | .agg a,.agg b => veqL (veq n) a.toList b.toList
    | _,_ => false
def isAlloc : Op→Bool
  | .alloc _ => true
  | _ => false
def isEff : Op→Bool
  | .box .. => true
  | .buildSlice .. => true
  | .store .. => true
  | .makeSlice .. => true
  | .call c => (match c.callee with | .builtin .len => false | .builtin .min => false | .builtin .max => false | _ => true)
  | _ => false
def drawFloats (P : Program) : List Oper→TM→CH→Option (TM × CH)
  | [],a,H => some (a,H)
  | o::r,a,H =>
    match o.op with
    | .alloc t =>
      match zeroOf P t with
      | some z => drawFloats P r (aput a o.dst (ptr H.next 0)) (H.new (rowOf t z.cells))
      | none => none
    | _ => drawFloats P r a H
def heapDep : Op→Bool
  | .load .. => true
  | .slice .. => true
  | .binOp .eql .. => true
  | .binOp .neq .. => true
  | _ => false
structure Rec where
  at_ : Nat
  tm : TM
  op : Op
  got : Value
def recOf (i : Nat) (o : Oper) (wanted : Bool) (a : TM) (v : Value) (rs : List Rec) : List Rec :=
  cond (wanted && heapDep o.op) (⟨i,a,o.op,v⟩::rs) rs
def drawOps (P : Program) (call : CallT) (ops : Array Oper) : List Oper→Nat→TM→CH→List CH→List Rec→Option (TM × CH × List CH × List Rec)
  | [],_,a,H,hs,rs => some (a,H,H::hs,rs)
  | o::r,i,a,H,hs,rs =>
    match isAlloc o.op with
    | true => drawOps P call ops r (i + 1) a H hs rs
    | false =>
      match stepOp P call ops o a H with
      | some (v,H1) =>
        match isEff o.op with
        | true => drawOps P call ops r (i + 1) (aput a o.dst v) H1 (H::hs) rs
        | false => drawOps P call ops r (i + 1) (aput a o.dst v) H1 hs (recOf i o (Region.wanted o (yieldC ops a)) a v rs)
      | none => none
def effs (ops : Array Oper) : List Nat :=
  (List.range ops.size).filter fun i => match ops[i]? with | some o => isEff o.op | none => false
def kmin (ms : Array Nat) (es : List Nat) (i : Nat) : Nat := (es.filter fun e => (ms.getD i 0).testBit e).length
def kmax (ms : Array Nat) (es : List Nat) (i : Nat) : Nat := (es.filter fun e => !(ms.getD e 0).testBit i).length
def recChk (P : Program) (lo hi : Nat) (r : Rec) : Nat→List CH→Bool
  | _,[] => true
  | k,H::hs =>
    cond (Nat.ble lo k && Nat.ble k hi)
      (match cop P (aeval r.tm) H r.op with
       | some (.val v,_) => veq 100 r.got v
       | _ => false)
      true && recChk P lo hi r (k + 1) hs
def recsChk (P : Program) (ms : Array Nat) (es : List Nat) (hs : List CH) : List Rec→Bool
  | [] => true
  | r::rs => cond (Nat.beq (kmin ms es r.at_) (kmax ms es r.at_)) true (recChk P (kmin ms es r.at_) (kmax ms es r.at_) r 0 hs) && recsChk P ms es hs rs
def evalDraw (P : Program) (call : CallT) (ops : Array Oper) (a : TM) (H : CH) : Option (TM × CH) :=
  match drawFloats P ops.toList a H with
  | none => none
  | some (a0,HH) =>
    match drawOps P call ops ops.toList 0 a0 HH [] [] with
    | none => none
    | some (a1,H1,hs,rs) => cond (recsChk P (Region.before ops) (effs ops) hs.reverse rs) (some (a1,H1)) none
inductive CE where
  | normal
  | exit (id : Nat)
  | ret
def loopN (body : TM→CH→Option (CE × TM × CH)) : Nat→TM→CH→Option (CE × TM × CH)
  | 0,_,_ => none
  | n + 1,a,H =>
    match body a H with
    | some (.normal,a1,H1) => loopN body n a1 H1
    | some (.exit id,a1,H1) => some (.exit id,a1,H1)
    | some (.ret,a1,H1) => some (.ret,a1,H1)
    | none => none
def evalCode (P : Program) (call : CallT) (lf : Nat) : Code→TM→CH→Option (CE × TM × CH)
  | .skip,a,H => some (.normal,a,H)
  | .region _ ops draw,a,H =>
    match draw with
    | false =>
      match evalOps P call ops ops.toList a H with
      | some (a1,H1) => some (.normal,a1,H1)
      | none => none
    | true =>
      match evalDraw P call ops a H with
      | some (a1,H1) => some (.normal,a1,H1)
      | none => none
  | .seq x y,a,H =>
    match evalCode P call lf x a H with
    | some (.normal,a1,H1) => evalCode P call lf y a1 H1
    | some (.exit id,a1,H1) => some (.exit id,a1,H1)
    | some (.ret,a1,H1) => some (.ret,a1,H1)
    | none => none
  | .cond c x y,a,H =>
    match aeval a c with
    | .bool true => evalCode P call lf x a H
    | .bool false => evalCode P call lf y a H
    | _ => none
  | .block id c,a,H =>
    match evalCode P call lf c a H with
    | some (.exit id',a1,H1) => cond (Nat.beq id' id) (some (.normal,a1,H1)) (some (.exit id',a1,H1))
    | some (.normal,a1,H1) => some (.normal,a1,H1)
    | some (.ret,a1,H1) => some (.ret,a1,H1)
    | none => none
  | .loop c,a,H => loopN (evalCode P call lf c) lf a H
  | .exit id,a,H => some (.exit id,a,H)
  | .ret,a,H => some (.ret,a,H)
  | _,_,_ => none
def cresults (P : Program) (H : CH) (a : TM) : List ResultVar→Option (List Value)
  | [] => some []
  | .tmp t::r =>
    match cresults P H a r with
    | some l => some (aget a t::l)
    | none => none
  | .cell c t::r =>
    match aget a c with
    | .pointer (some p) =>
      match p.spot with
      | none =>
        match loadV P H t p.block p.off,cresults P H a r with
        | some v,some l => some (v::l)
        | _,_ => none
      | some _ => none
    | _ => none
def packR : List Value→Value
  | [v] => v
  | l => .tuple l.toArray
def operandOk (n : Nat) : Operand→Bool
  | .tmp t => Nat.blt t n
  | .const v => vpure 100 v
  | .global _ => false
  | .func _ => true
def dstOk (n : Nat) : Option Tmp→Bool
  | some d => Nat.blt d n
  | none => true
def readsT (ops : Array Oper) (o : Oper) : List Tmp :=
  (o.op.operands.toList.filterMap fun | .tmp t => some t | _ => none) ++
  (match o.guard with
   | some (g,_) => ((ops[g]?).bind (·.dst)).toList
   | none => [])
def pairOk (ops : Array Oper) (ms : Array Nat) (i j : Nat) : Bool :=
  match ops[i]?,ops[j]? with
  | some x,some y =>
    (match x.dst with
     | some d =>
       Nat.beq i j || (!(y.dst == some d) &&
         (!(readsT ops y).contains d || (ms.getD j 0).testBit i || (!isAlloc x.op && (ms.getD i 0).testBit j)))
     | none => true) &&
    (!(isEff x.op && isEff y.op && Nat.blt i j) || (ms.getD j 0).testBit i) &&
    (!(ms.getD i 0).testBit j || x.after.toList.any fun e => Region.binds .any e && (Nat.beq e.on j || (ms.getD e.on 0).testBit j))
  | _,_ => true
def drawOk (ops : Array Oper) : Bool :=
  let ms := Region.before ops
  let n := ops.size
  ((List.range n).all fun i => match ops[i]? with
    | some o => (o.after.toList.all fun e => !Region.binds .any e || Nat.blt e.on i) && (!isAlloc o.op || o.guard.isNone) &&
        (match o.guard with | some (g,_) => Nat.blt g n | none => true)
    | none => true) &&
  ((List.range n).all fun i => (List.range n).all fun j => pairOk ops ms i j)
def codeOk (n : Nat) : Code→Bool
  | .region _ ops draw => (ops.toList.all fun o => dstOk n o.dst && o.op.operands.toList.all (operandOk n)) && (!draw || drawOk ops)
  | .seq a b => codeOk n a && codeOk n b
  | .cond c a b => operandOk n c && codeOk n a && codeOk n b
  | .block _ c => codeOk n c
  | .loop c => codeOk n c
  | .skip => true
  | .exit _ => true
  | .ret => true
  | _ => true
def fnOk (fn : Func) : Bool :=
  Nat.blt fn.ntmps 1048575 && !(fn.name == "runtime.NumGoroutine") &&
  (match fn.body with
   | some c => codeOk fn.ntmps c
   | none => false)
def evalCall (P : Program) (known : FuncId→Option Value) (lf : Nat) : Nat→CallT
  | 0,_,_,_ => none
  | n + 1,f,args,H =>
    match known f with
    | some v => cond (Nat.beq args.size 0) (some (v,H)) none
    | none =>
      match P.funcs[f]? with
      | none => none
      | some fn =>
        cond (fnOk fn && Nat.ble args.size fn.ntmps)
          (match fn.body with
           | none => none
           | some c =>
             match evalCode P (evalCall P known lf n) lf c (tOf 0 args.toList) H with
             | some (.exit _,_,_) => none
             | some (.normal,a1,H1) => (cresults P H1 a1 fn.results.toList).map fun l => (packR l,H1)
             | some (.ret,a1,H1) => (cresults P H1 a1 fn.results.toList).map fun l => (packR l,H1)
             | none => none)
          none
def H0 : CH := { next := 0,blks := { base := fun _ => none,own := .leaf } }
def known0 : FuncId→Option Value := fun _ => none
end Go.CM

namespace Go.CM
open Go
theorem beqF {i j : Nat} (h : i ≠ j) : Nat.beq i j = false := by
  cases hb : Nat.beq i j with
  | false => rfl
  | true => exact absurd (Nat.eq_of_beq_eq_true hb) h
theorem beqT {i j : Nat} (h : i = j) : Nat.beq i j = true := by subst h; exact Nat.beq_refl i
theorem of_beqT {i j : Nat} (h : Nat.beq i j = true) : i = j := Nat.eq_of_beq_eq_true h
theorem of_beqF {i j : Nat} (h : Nat.beq i j = false) : i ≠ j := by
  intro e; subst e; simp at h
theorem T.get_set_aux {α : Type} (x : α) (n i j : Nat) (l : T α) (v : Option α) (r : T α)
    (ih : ∀ (t : T α) (i j : Nat),i + 1 < 2 ^ n→(T.set n t i x).get j = if i = j then some x else t.get j) (h : i + 1 < 2 ^ (n + 1)) :
    (T.set (n + 1) (.node l v r) i x).get j = if i = j then some x else (T.node l v r).get j := by
  have hp : 2 ^ (n + 1) = 2 * 2 ^ n := by rw [Nat.pow_succ]; omega
  simp only [T.set]
  by_cases hi : i = 0
  · subst hi
    simp only [Nat.beq_refl,cond_true,T.get]
    by_cases hj : j = 0
    · subst hj; simp
    · simp [beqF hj,Ne.symm hj]
  · simp only [beqF hi,cond_false]
    by_cases hi2 : i % 2 = 1
    · simp only [hi2,Nat.beq_refl,cond_true,T.get]
      rw [ih _ _ _ (by omega)]
      by_cases hj : j = 0
      · subst hj; simp [hi]
      · simp only [beqF hj,cond_false]
        by_cases hj2 : j % 2 = 1
        · simp only [hj2,Nat.beq_refl,cond_true]
          have : i / 2 = j / 2 ↔ i = j := by omega
          simp [this]
        · simp only [beqF hj2,cond_false]
          have : i ≠ j := by omega
          simp [this]
    · simp only [beqF hi2,cond_false,T.get]
      rw [ih _ _ _ (by omega)]
      by_cases hj : j = 0
      · subst hj; simp [hi]
      · simp only [beqF hj,cond_false]
        by_cases hj2 : j % 2 = 1
        · simp only [hj2,Nat.beq_refl,cond_true]
          have : i ≠ j := by omega
          simp [this]
        · simp only [beqF hj2,cond_false]
          have : i / 2 - 1 = j / 2 - 1 ↔ i = j := by omega
          simp [this]
theorem T.get_set {α : Type} (x : α) : ∀ (n : Nat) (t : T α) (i j : Nat),i + 1 < 2 ^ n→(T.set n t i x).get j = if i = j then some x else t.get j
  | 0,t,i,j,h => by simp at h
  | n + 1,.node l v r,i,j,h => T.get_set_aux x n i j l v r (fun t i j => T.get_set x n t i j) h
  | n + 1,.leaf,i,j,h => by
    have h1 := T.get_set_aux x n i j .leaf none .leaf (fun t i j => T.get_set x n t i j) h
    have e1 : (T.set (n + 1) (.node .leaf none .leaf) i x) = T.set (n + 1) .leaf i x := rfl
    have e2 : (T.node .leaf none .leaf : T α).get j = (T.leaf : T α).get j := by
      simp only [T.get]
      cases Nat.beq j 0 <;> cases Nat.beq (j % 2) 1 <;> rfl
    rw [← e1,h1,e2]
theorem M.get_setB {α : Type} (m : M α) (i j : Nat) (x : α) : (m.setB i x).get j = if i = j then some x else m.get j := by
  simp only [M.setB,M.get,T.get]
  by_cases e : i = j
  · subst e; simp
  · simp [beqF e,e]
theorem M.get_set {α : Type} (m : M α) (i j : Nat) (x : α) : (m.set i x).get j = if i = j then some x else m.get j := by
  unfold M.set
  cases hf : m.fm with
  | true => exact M.get_setB m i j x
  | false =>
    simp only [cond_false]
    by_cases h : i < 1099511627775
    · have : Nat.blt i 1099511627775 = true := by simpa [Nat.blt_eq] using h
      rw [this]
      simp only [cond_true,M.get,T.get_set x 40 m.own i j (by omega)]
      by_cases e : i = j <;> simp [e]
    · have : Nat.blt i 1099511627775 = false := by
        cases hb : Nat.blt i 1099511627775 with
        | false => rfl
        | true => exact absurd (by simpa [Nat.blt_eq] using hb) h
      rw [this]
      exact M.get_setB m i j x
structure BI where
  to : Nat
  sh : Nat
  cs : Nat
  as : Nat
  es : Nat
abbrev Ren := Nat→Option BI
inductive VR (ρ : Ren) : Value→Value→Prop
  | bool (b : Bool) : VR ρ (.bool b) (.bool b)
  | int (k : IntKind) (n : Int) : VR ρ (.int k n) (.int k n)
  | float (k : FloatKind) (n : Nat) : VR ρ (.float k n) (.float k n)
  | string (s : ByteArray) : VR ρ (.string s) (.string s)
  | ptr0 : VR ρ (.pointer none) (.pointer none)
  | ptr {b off : Nat} {i : BI} : ρ b = some i→VR ρ (.pointer (some ⟨b,off,none⟩)) (.pointer (some ⟨i.to,off + i.sh,none⟩))
  | sl0 (l c : Nat) : VR ρ (.slice none l c) (.slice none l c)
  | sl {b off : Nat} {i : BI} (l c : Nat) : ρ b = some i→VR ρ (.slice (some ⟨b,off,none⟩) l c) (.slice (some ⟨i.to,off + i.sh,none⟩) l c)
  | slU {b off : Nat} {i : BI} (l c c' : Nat) : ρ b = some i→0 < i.es→off + c * i.es = i.cs→c ≤ c'→(off + i.sh) + c' * i.es ≤ i.as →
      VR ρ (.slice (some ⟨b,off,none⟩) l c) (.slice (some ⟨i.to,off + i.sh,none⟩) l c')
  | slE {b off off' : Nat} {i : BI} (c' : Nat) : ρ b = some i→0 < i.es→off = i.cs→off' + c' * i.es ≤ i.as →
      VR ρ (.slice (some ⟨b,off,none⟩) 0 0) (.slice (some ⟨i.to,off',none⟩) 0 c')
  | slW {b off : Nat} {i : BI} (a : Addr) : ρ b = some i→i.es = 0→VR ρ (.slice (some ⟨b,off,none⟩) 0 0) (.slice (some a) 0 0)
  | map0 : VR ρ (.map none) (.map none)
  | chan0 : VR ρ (.chan none) (.chan none)
  | nilFunc : VR ρ .nilFunc .nilFunc
  | nilIface : VR ρ .nilIface .nilIface
  | func (fn : Fn) {f f' c c' : Array Value} : f.size = f'.size→(∀ (i : Nat) (x y : Value),f[i]? = some x→f'[i]? = some y→VR ρ x y) →
      c.size = c'.size→(∀ (i : Nat) (x y : Value),c[i]? = some x→c'[i]? = some y→VR ρ x y)→VR ρ (.func fn f c) (.func fn f' c')
  | iface (t : TypeId) {x y : Value} : VR ρ x y→VR ρ (.iface t x) (.iface t y)
  | agg {c c' : Array Value} : c.size = c'.size→(∀ (i : Nat) (x y : Value),c[i]? = some x→c'[i]? = some y→VR ρ x y)→VR ρ (.agg c) (.agg c')
  | tuple {c c' : Array Value} : c.size = c'.size→(∀ (i : Nat) (x y : Value),c[i]? = some x→c'[i]? = some y→VR ρ x y)→VR ρ (.tuple c) (.tuple c')
def AR (ρ : Ren) (c c' : Array Value) : Prop := c.size = c'.size∧∀ (i : Nat) (x y : Value),c[i]? = some x→c'[i]? = some y→VR ρ x y
inductive LR (ρ : Ren) : List Value→List Value→Prop
  | nil : LR ρ [] []
  | cons {x y : Value} {xs ys : List Value} : VR ρ x y→LR ρ xs ys→LR ρ (x::xs) (y::ys)
def Ext (ρ ρ' : Ren) : Prop := ∀ b i,ρ b = some i→ρ' b = some i
theorem Ext.refl (ρ : Ren) : Ext ρ ρ := fun _ _ h => h
theorem Ext.trans {ρ ρ' ρ'' : Ren} (h : Ext ρ ρ') (h' : Ext ρ' ρ'') : Ext ρ ρ'' := fun b i e => h' b i (h b i e)
theorem VR.mono {ρ ρ' : Ren} (h : Ext ρ ρ') {x y : Value} (v : VR ρ x y) : VR ρ' x y := by
  induction v with
  | bool b => exact .bool b
  | int k n => exact .int k n
  | float k n => exact .float k n
  | string s => exact .string s
  | ptr0 => exact .ptr0
  | ptr e => exact .ptr (h _ _ e)
  | sl0 l c => exact .sl0 l c
  | sl l c e => exact .sl l c (h _ _ e)
  | slU l c c' e h1 h2 h3 h4 => exact .slU l c c' (h _ _ e) h1 h2 h3 h4
  | slE c' e h1 h2 h3 => exact .slE c' (h _ _ e) h1 h2 h3
  | slW a e h1 => exact .slW a (h _ _ e) h1
  | map0 => exact .map0
  | chan0 => exact .chan0
  | nilFunc => exact .nilFunc
  | nilIface => exact .nilIface
  | func fn h1 _ h3 _ ih2 ih4 => exact .func fn h1 ih2 h3 ih4
  | iface t _ ih => exact .iface t ih
  | agg h1 _ ih => exact .agg h1 ih
  | tuple h1 _ ih => exact .tuple h1 ih
theorem AR.mono {ρ ρ' : Ren} (h : Ext ρ ρ') {x y : Array Value} (v : AR ρ x y) : AR ρ' x y :=
  ⟨v.1,fun i a b ha hb => (v.2 i a b ha hb).mono h⟩
theorem LR.mono {ρ ρ' : Ren} (h : Ext ρ ρ') {x y : List Value} (v : LR ρ x y) : LR ρ' x y := by
  induction v with
  | nil => exact .nil
  | cons a _ ih => exact .cons (a.mono h) ih
theorem LR.length {ρ : Ren} {x y : List Value} (v : LR ρ x y) : x.length = y.length := by
  induction v with
  | nil => rfl
  | cons _ _ ih => simp [ih]
theorem LR.get {ρ : Ren} {x y : List Value} (v : LR ρ x y) : ∀ (i : Nat) (a : Value),x[i]? = some a→∃ b,y[i]? = some b∧VR ρ a b := by
  induction v with
  | nil => intro i a h; simp at h
  | cons p _ ih =>
    intro i a h
    cases i with
    | zero => simp at h; subst h; exact ⟨_,by simp,p⟩
    | succ i => simp at h; obtain ⟨b,hb,hv⟩ := ih i a h; exact ⟨b,by simpa using hb,hv⟩
theorem LR.of_get {ρ : Ren} : ∀ {x y : List Value},x.length = y.length→(∀ (i : Nat) (a b : Value),x[i]? = some a→y[i]? = some b→VR ρ a b)→LR ρ x y
  | [],[],_,_ => .nil
  | a::xs,b::ys,h,hg => .cons (hg 0 a b (by simp) (by simp)) (LR.of_get (by simpa using h) fun i p q hp hq => hg (i + 1) p q (by simpa using hp) (by simpa using hq))
  | [],_::_,h,_ => by simp at h
  | _::_,[],h,_ => by simp at h
theorem AR.toL {ρ : Ren} {c c' : Array Value} (h : AR ρ c c') : LR ρ c.toList c'.toList :=
  LR.of_get (by simpa using h.1) fun i a b ha hb => h.2 i a b (by simpa using ha) (by simpa using hb)
theorem LR.toA {ρ : Ren} {x y : List Value} (h : LR ρ x y) : AR ρ x.toArray y.toArray :=
  ⟨by simpa using h.length,fun i a b ha hb => by
    obtain ⟨b',hb',hv⟩ := h.get i a (by simpa using ha)
    have : b = b' := by simp at hb; rw [hb] at hb'; exact Option.some.inj hb'
    exact this ▸ hv⟩
theorem LR.append {ρ : Ren} {a b c d : List Value} (h : LR ρ a b) (h' : LR ρ c d) : LR ρ (a++c) (b++d) := by
  induction h with
  | nil => exact h'
  | cons p _ ih => exact .cons p ih
theorem AR.append {ρ : Ren} {a b c d : Array Value} (h : AR ρ a b) (h' : AR ρ c d) : AR ρ (a++c) (b++d) := by
  have := (h.toL.append h'.toL).toA
  rwa [show (a.toList++c.toList).toArray = a++c from Array.ext' (by simp),show (b.toList++d.toList).toArray = b++d from Array.ext' (by simp)] at this
theorem AR.nil {ρ : Ren} : AR ρ #[] #[] := ⟨rfl,fun i x y h _ => by simp at h⟩
theorem VR.aggA {ρ : Ren} {c c' : Array Value} (h : AR ρ c c') : VR ρ (.agg c) (.agg c') := .agg h.1 h.2
theorem VR.tupA {ρ : Ren} {c c' : Array Value} (h : AR ρ c c') : VR ρ (.tuple c) (.tuple c') := .tuple h.1 h.2
theorem VR.funcA {ρ : Ren} (fn : Fn) {f f' c c' : Array Value} (h : AR ρ f f') (h' : AR ρ c c') : VR ρ (.func fn f c) (.func fn f' c') := .func fn h.1 h.2 h'.1 h'.2
theorem VR.undef (ρ : Ren) : VR ρ undV Go.undef := .tuple rfl (fun i x y h _ => by simp at h)
theorem VR.cells {ρ : Ren} {x y : Value} (h : VR ρ x y) : AR ρ x.cells y.cells := by
  have one : ∀ {a b : Value},VR ρ a b→AR ρ #[a] #[b] := fun {a b} h => (LR.cons h .nil).toA
  cases h with
  | agg h1 h2 => exact ⟨h1,h2⟩
  | _ => exact one (by constructor <;> assumption)
theorem VR.isCell {ρ : Ren} {x y : Value} (h : VR ρ x y) (hx : isCell x = true) : y.oneCell' = true := by
  cases h <;> first | rfl | simp [CM.isCell] at hx
structure BR (ρ : Ren) (k : Blk) (i : BI) (w : World) : Prop where
  ex : ∃ (c : Array Value) (fz : Nat × Nat),w.heap[i.to]? = some (.cells c k.elem fz)∧c.size = i.as∧(k.wr = true→fz = (0,0)) ∧
    ∀ j,j < i.cs→∃ x y,k.get j = some x∧c[j + i.sh]? = some y∧VR ρ x y
structure HR (ρ : Ren) (H : CH) (w : World) : Prop where
  fresh : ∀ b i,ρ b = some i→b < H.next
  blk : ∀ b i,ρ b = some i→∃ k,H.blks.get b = some k∧k.size = i.cs∧k.es = i.es∧(i.to < w.heap.size∧i.sh + i.cs ≤ i.as)∧(k.dead = false→BR ρ k i w)
  inj : ∀ b1 b2 i1 i2 k1 k2,ρ b1 = some i1→ρ b2 = some i2→H.blks.get b1 = some k1→H.blks.get b2 = some k2→k1.dead = false→k2.dead = false→(k1.wr = true ∨ k2.wr = true)→i1.to = i2.to→b1 = b2
def Im (ρ : Ren) (H : CH) (n : Nat) : Prop := ∃ b i k,ρ b = some i∧H.blks.get b = some k∧k.dead = false∧k.wr = true∧i.to = n
structure Sim (ρ ρ' : Ren) (H H' : CH) (w w' : World) : Prop where
  ext : Ext ρ ρ'
  hr : HR ρ' H' w'
  os : w'.os = w.os
  tape : w'.tape = w.tape
  output : w'.output = w.output
  size : w.heap.size ≤ w'.heap.size
  same : ∀ n,n < w.heap.size→¬ Im ρ H n→w'.heap[n]? = w.heap[n]?
  im : ∀ n,n < w.heap.size→Im ρ' H' n→Im ρ H n
  form : ∀ (n : Nat) (c : Array Value) (t : TypeId) (fz : Nat × Nat),w.heap[n]? = some (Obj.cells c t fz)→∃ c' : Array Value,w'.heap[n]? = some (Obj.cells c' t fz)
  new : ∀ n,w.heap.size ≤ n→n < w'.heap.size→∃ (c : Array Value) (t : TypeId),w'.heap[n]? = some (Obj.cells c t (0,0))
  next : H.next ≤ H'.next
  fresh : ∀ b i,ρ b = none→ρ' b = some i→H.next ≤ b
  cf : ∀ b,b < H.next→ρ b = none→H'.blks.get b = H.blks.get b
theorem Sim.refl {ρ : Ren} {H : CH} {w : World} (h : HR ρ H w) : Sim ρ ρ H H w w where
  ext := Ext.refl _
  hr := h
  os := rfl
  tape := rfl
  output := rfl
  size := Nat.le_refl _
  same := fun _ _ _ => rfl
  im := fun _ _ h => h
  form := fun n c t fz h => ⟨c,h⟩
  new := fun n h1 h2 => absurd h2 (by omega)
  next := Nat.le_refl _
  fresh := fun b i h1 h2 => by rw [h1] at h2; cases h2
  cf := fun _ _ _ => rfl
theorem Sim.trans {ρ ρ1 ρ2 : Ren} {H H1 H2 : CH} {w w1 w2 : World} (a : Sim ρ ρ1 H H1 w w1) (b : Sim ρ1 ρ2 H1 H2 w1 w2) : Sim ρ ρ2 H H2 w w2 where
  ext := a.ext.trans b.ext
  hr := b.hr
  os := b.os.trans a.os
  tape := b.tape.trans a.tape
  output := b.output.trans a.output
  size := Nat.le_trans a.size b.size
  same := fun n hn hi => (b.same n (Nat.lt_of_lt_of_le hn a.size) fun h => hi (a.im n hn h)).trans (a.same n hn hi)
  im := fun n hn h => a.im n hn (b.im n (Nat.lt_of_lt_of_le hn a.size) h)
  form := fun n c t fz h => by
    obtain ⟨c1,h1⟩ := a.form n c t fz h
    exact b.form n c1 t fz h1
  new := fun n h1 h2 => by
    rcases Nat.lt_or_ge n w1.heap.size with h | h
    · obtain ⟨c,t,hc⟩ := a.new n h1 h
      obtain ⟨c',hc'⟩ := b.form n c t _ hc
      exact ⟨c',t,hc'⟩
    · exact b.new n h h2
  next := Nat.le_trans a.next b.next
  fresh := fun x i h1 h2 => by
    cases h : ρ1 x with
    | some j => exact a.fresh x j h1 h
    | none => exact Nat.le_trans a.next (b.fresh x i h h2)
  cf := fun x hx hn => by
    have h1 : ρ1 x = none := by
      cases h : ρ1 x with
      | none => rfl
      | some j => exact absurd (a.fresh x j hn h) (by omega)
    exact (b.cf x (Nat.lt_of_lt_of_le hx a.next) h1).trans (a.cf x hx hn)
theorem HR.of_heap {ρ : Ren} {H : CH} {w w' : World} (h : HR ρ H w) (e : w'.heap = w.heap) : HR ρ H w' where
  fresh := h.fresh
  blk := fun b i hb => by
    obtain ⟨k,h1,h2,h3,h4,h5⟩ := h.blk b i hb
    exact ⟨k,h1,h2,h3,⟨by rw [e]; exact h4.1,h4.2⟩,fun hd => ⟨by rw [e]; exact (h5 hd).ex⟩⟩
  inj := h.inj
theorem Sim.drew {ρ : Ren} {H : CH} {w : World} (h : HR ρ H w) : Sim ρ ρ H H w w.drew :=
  { Sim.refl h with hr := h.of_heap rfl,os := rfl,tape := rfl,output := rfl,size := Nat.le_refl _,same := fun _ _ _ => rfl,form := fun n c t fz h => ⟨c,h⟩,new := fun n h1 h2 => absurd h2 (by simp; omega) }
theorem HR.congr {ρ : Ren} {H H' : CH} {w : World} (h : HR ρ H w) (e : ∀ b,H'.blks.get b = H.blks.get b) (hn : H'.next = H.next) : HR ρ H' w where
  fresh := fun b i hb => by rw [hn]; exact h.fresh b i hb
  blk := fun b i hb => by rw [e]; exact h.blk b i hb
  inj := fun b1 b2 i1 i2 k1 k2 h1 h2 h3 h4 => h.inj b1 b2 i1 i2 k1 k2 h1 h2 (by rw [← e]; exact h3) (by rw [← e]; exact h4)
theorem live_some {H : CH} {b : Nat} {k : Blk} (h : H.live b = some k) : H.blks.get b = some k∧k.dead = false := by
  unfold CH.live at h
  cases hb : H.blks.get b with
  | none => simp [hb] at h
  | some k' =>
    simp only [hb] at h
    cases hd : k'.dead with
    | true => simp [hd] at h
    | false => simp [hd] at h; subst h; exact ⟨rfl,hd⟩
theorem blt_iff {a b : Nat} : Nat.blt a b = true ↔ a < b := by simp [Nat.blt_eq]
theorem Blk.get_lt {k : Blk} {j : Nat} {v : Value} (h : k.get j = some v) : j < k.size := by
  unfold Blk.get at h
  cases hb : Nat.blt j k.size with
  | true => exact blt_iff.1 hb
  | false => simp [hb] at h
theorem HR.cell {ρ : Ren} {H : CH} {w : World} (hr : HR ρ H w) {b off : Nat} {i : BI} {x : Value} (hb : ρ b = some i) (h : H.cell b off = some x) :
    ∃ y,w.cell? ⟨i.to,off + i.sh,none⟩ = some y∧VR ρ x y := by
  unfold CH.cell at h
  cases hl : H.live b with
  | none => simp [hl] at h
  | some k =>
    simp only [hl] at h
    obtain ⟨hk,hd⟩ := live_some hl
    obtain ⟨k',hk',hs,_,_,hbr⟩ := hr.blk b i hb
    obtain rfl : k' = k := Option.some.inj (hk'.symm.trans hk)
    obtain ⟨c,fz,hc,_,_,hj⟩ := (hbr hd).ex
    have hlt := Blk.get_lt h
    obtain ⟨x',y,hx,hy,hv⟩ := hj off (by omega)
    obtain rfl : x' = x := Option.some.inj (hx.symm.trans h)
    exact ⟨y,by simp [World.cell?,hc,hy],hv⟩
theorem Blk.list_get {k : Blk} : ∀ {n off : Nat} {l : List Value},k.list off n = some l→l.length = n∧∀ j,j < n→∃ x,l[j]? = some x∧k.get (off + j) = some x
  | 0,off,l,h => by simp [Blk.list] at h; subst h; exact ⟨rfl,fun j hj => absurd hj (by omega)⟩
  | n + 1,off,l,h => by
    simp only [Blk.list] at h
    cases hg : k.get off with
    | none => simp [hg] at h
    | some v =>
      simp only [hg] at h
      cases hl : k.list (off + 1) n with
      | none => simp [hl] at h
      | some vs =>
        simp [hl] at h
        subst h
        obtain ⟨hn,hj⟩ := Blk.list_get hl
        refine ⟨by simp [hn],fun j hjn => ?_⟩
        cases j with
        | zero => exact ⟨v,by simp,by simpa using hg⟩
        | succ j =>
          obtain ⟨x,hx,hgx⟩ := hj j (by omega)
          exact ⟨x,by simpa using hx,by rw [show off + (j + 1) = off + 1 + j by omega]; exact hgx⟩
theorem add_addr (t o n : Nat) : (⟨t,o,none⟩ : Addr).add n = ⟨t,o + n,none⟩ := by
  unfold Addr.add; split <;> simp_all
theorem HR.list {ρ : Ren} {H : CH} {w : World} (hr : HR ρ H w) {b off n : Nat} {i : BI} {l : List Value} (P : Program) (hb : ρ b = some i) (h : H.list b off n = some l) :
    ∃ l',(loadCells ⟨i.to,off + i.sh,none⟩ n).run P w = .ok l'.toArray w∧LR ρ l l' := by
  unfold CH.list at h
  cases hl : H.live b with
  | none => simp [hl] at h
  | some k =>
    simp only [hl] at h
    obtain ⟨hn,hj⟩ := Blk.list_get h
    have hc : ∀ j,j < n→∃ x,l[j]? = some x∧∃ y,w.cell? ⟨i.to,off + j + i.sh,none⟩ = some y∧VR ρ x y := fun j hjn => by
      obtain ⟨x,hx,hg⟩ := hj j hjn
      exact ⟨x,hx,hr.cell hb (by simp [CH.cell,hl,hg])⟩
    let f : Nat→Value := fun j => (w.cell? ⟨i.to,off + j + i.sh,none⟩).getD Go.undef
    refine ⟨(List.range n).map f,?_,?_⟩
    · apply run_loadCells
      intro j hjn
      obtain ⟨x,_,y,hy,_⟩ := hc j hjn
      rw [add_addr,show off + i.sh + j = off + j + i.sh by omega]
      simp [f,hy]
    · refine LR.of_get (by simp [hn]) fun j x y hx hy => ?_
      have hjn : j < n := by
        have := (List.getElem?_eq_some_iff.1 hx).1
        omega
      obtain ⟨x',hx',y',hy',hv⟩ := hc j hjn
      obtain rfl : x' = x := Option.some.inj (hx'.symm.trans hx)
      have : y = y' := by simp [hjn,f,hy'] at hy; exact hy.symm
      exact this ▸ hv
def Ren.put (ρ : Ren) (b : Nat) (i : BI) : Ren := fun x => if x = b then some i else ρ x
theorem Ren.put_same (ρ : Ren) (b : Nat) (i : BI) : ρ.put b i b = some i := by simp [Ren.put]
theorem Ren.put_other (ρ : Ren) (b : Nat) (i : BI) {x : Nat} (h : x ≠ b) : ρ.put b i x = ρ x := by simp [Ren.put,h]
theorem HR.next_none {ρ : Ren} {H : CH} {w : World} (hr : HR ρ H w) {b : Nat} (h : H.next ≤ b) : ρ b = none := by
  cases e : ρ b with
  | none => rfl
  | some i => exact absurd (hr.fresh b i e) (by omega)
theorem Ext.put {ρ : Ren} {b : Nat} {i : BI} (h : ρ b = none) : Ext ρ (ρ.put b i) := fun x j hx => by
  rw [Ren.put_other]
  · exact hx
  · intro e; subst e; rw [h] at hx; cases hx
theorem CH.new_get (H : CH) (k : Blk) (b : Nat) : (H.new k).blks.get b = if H.next = b then some k else H.blks.get b := M.get_set _ _ _ _
theorem heap_alloc_old (w : World) (o : Obj) {n : Nat} (h : n < w.heap.size) : (w.alloc o).heap[n]? = w.heap[n]? := by
  simp only [World.alloc,Array.getElem?_push]
  simp [Nat.ne_of_lt h]
theorem heap_alloc_new (w : World) (o : Obj) : (w.alloc o).heap[w.heap.size]? = some o := by
  show (w.heap.push o)[w.heap.size]? = some o
  simp
theorem BR.mono {ρ ρ' : Ren} {k : Blk} {i : BI} {w w' : World} (h : BR ρ k i w) (he : Ext ρ ρ') (hw : w'.heap[i.to]? = w.heap[i.to]?) : BR ρ' k i w' := by
  obtain ⟨c,fz,h1,h2,h4,h5⟩ := h.ex
  refine ⟨c,fz,by rw [hw]; exact h1,h2,h4,fun j hj => ?_⟩
  obtain ⟨x,y,hx,hy,hv⟩ := h5 j hj
  exact ⟨x,y,hx,hy,hv.mono he⟩
theorem HR.alloc {ρ : Ren} {H : CH} {w : World} (hr : HR ρ H w) (k : Blk) (c : Array Value) (hs : k.size ≤ c.size)
    (hc : ∀ j,j < k.size→∃ x y,k.get j = some x∧c[j]? = some y∧VR ρ x y) :
    Sim ρ (ρ.put H.next ⟨w.heap.size,0,k.size,c.size,k.es⟩) H (H.new k) w (w.alloc (.cells c k.elem)) := by
  have hn : ρ H.next = none := hr.next_none (Nat.le_refl _)
  have hext : Ext ρ (ρ.put H.next ⟨w.heap.size,0,k.size,c.size,k.es⟩) := Ext.put hn
  have hnew : BR (ρ.put H.next ⟨w.heap.size,0,k.size,c.size,k.es⟩) k ⟨w.heap.size,0,k.size,c.size,k.es⟩ (w.alloc (.cells c k.elem)) :=
    ⟨c,(0,0),heap_alloc_new _ _,rfl,fun _ => rfl,fun j hj => by
      obtain ⟨x,y,hx,hy,hv⟩ := hc j hj
      exact ⟨x,y,hx,by simpa using hy,hv.mono hext⟩⟩
  refine { ext := hext,hr := ?_,os := rfl,tape := rfl,output := rfl,size := by simp,same := fun n hn _ => heap_alloc_old _ _ hn,im := ?_,form := ?_,new := ?_,next := Nat.le_succ _,fresh := ?_,cf := ?_ }
  · refine { fresh := ?_,blk := ?_,inj := ?_ }
    · intro b i hb
      by_cases e : b = H.next
      · subst e; exact Nat.lt_succ_self _
      · rw [Ren.put_other _ _ _ e] at hb
        exact Nat.lt_succ_of_lt (hr.fresh b i hb)
    · intro b i hb
      by_cases e : b = H.next
      · subst e
        rw [Ren.put_same] at hb
        obtain rfl := Option.some.inj hb
        exact ⟨k,by simp [CH.new_get],rfl,rfl,⟨by simp,by simpa using hs⟩,fun _ => hnew⟩
      · rw [Ren.put_other _ _ _ e] at hb
        obtain ⟨k',h1,h2,h3,h4,h5⟩ := hr.blk b i hb
        exact ⟨k',by simp [CH.new_get,Ne.symm e,h1],h2,h3,⟨by simp; omega,h4.2⟩,fun hd' => (h5 hd').mono hext (heap_alloc_old _ _ h4.1)⟩
    · intro b1 b2 i1 i2 k1 k2 h1 h2 h3 h4 h5 h6 hor h7
      have old : ∀ b i,b ≠ H.next→ρ.put H.next ⟨w.heap.size,0,k.size,c.size,k.es⟩ b = some i→i.to < w.heap.size := fun b i e hb => by
        rw [Ren.put_other _ _ _ e] at hb
        obtain ⟨_,_,_,_,h,_⟩ := hr.blk b i hb
        exact h.1
      by_cases e1 : b1 = H.next
      · by_cases e2 : b2 = H.next
        · rw [e1,e2]
        · exfalso
          have := old b2 i2 e2 h2
          subst e1
          rw [Ren.put_same] at h1
          obtain rfl := Option.some.inj h1
          simp at h7
          omega
      · by_cases e2 : b2 = H.next
        · exfalso
          have := old b1 i1 e1 h1
          subst e2
          rw [Ren.put_same] at h2
          obtain rfl := Option.some.inj h2
          simp at h7
          omega
        · rw [Ren.put_other _ _ _ e1] at h1
          rw [Ren.put_other _ _ _ e2] at h2
          simp only [CH.new_get,Ne.symm e1,if_false] at h3
          simp only [CH.new_get,Ne.symm e2,if_false] at h4
          exact hr.inj b1 b2 i1 i2 k1 k2 h1 h2 h3 h4 h5 h6 hor h7
  · rintro n hn ⟨b,i,k',hb,hk',hd',hw',rfl⟩
    by_cases e : b = H.next
    · subst e
      rw [Ren.put_same] at hb
      obtain rfl := Option.some.inj hb
      simp at hn
    · rw [Ren.put_other _ _ _ e] at hb
      simp only [CH.new_get,Ne.symm e,if_false] at hk'
      exact ⟨b,i,k',hb,hk',hd',hw',rfl⟩
  · intro n c' t fz h
    have hn : n < w.heap.size := (Array.getElem?_eq_some_iff.1 h).1
    exact ⟨c',by rw [heap_alloc_old _ _ hn]; exact h⟩
  · intro n h1 h2
    have : n = w.heap.size := by simp at h2; omega
    subst this
    exact ⟨c,k.elem,heap_alloc_new _ _⟩
  · intro b i h1 h2
    by_cases e : b = H.next
    · omega
    · rw [Ren.put_other _ _ _ e,h1] at h2; cases h2
  · intro b hb _
    simp [CH.new_get,Nat.ne_of_gt hb]
theorem heap_setCell_other (w : World) (a : Addr) (v : Value) {n : Nat} (h : a.block ≠ n) : (w.setCell a v).heap[n]? = w.heap[n]? := by
  simp only [World.setCell,Array.getElem?_modify,h,if_false]
theorem heap_setCell_same (w : World) (b o : Nat) (v : Value) {c : Array Value} {t : TypeId} {fz : Nat × Nat} (h : w.heap[b]? = some (.cells c t fz)) :
    (w.setCell ⟨b,o,none⟩ v).heap[b]? = some (.cells (c.setIfInBounds o v) t fz) := by
  simp [World.setCell,Array.getElem?_modify,h]
theorem HR.set1 {ρ : Ren} {H : CH} {w : World} {b off : Nat} {i : BI} {k : Blk} {x y : Value} (hr : HR ρ H w) (hb : ρ b = some i) (hk : H.blks.get b = some k) (hd : k.dead = false) (hw : k.wr = true)
    (ho : off < k.size) (hv : VR ρ x y) :
    Sim ρ ρ H { H with blks := H.blks.set b { k with cells := k.cells.set off x } } w (w.setCell ⟨i.to,off + i.sh,none⟩ y) ∧
      (∃ z,w.cell? ⟨i.to,off + i.sh,none⟩ = some z)∧w.frozen? ⟨i.to,off + i.sh,none⟩ = false := by
  obtain ⟨k',hk',hs,hes,hto,hbr⟩ := hr.blk b i hb
  obtain rfl : k' = k := Option.some.inj (hk'.symm.trans hk)
  obtain ⟨c,fz,hc,has,hfz,hj⟩ := (hbr hd).ex
  obtain rfl := hfz hw
  have hoff : off + i.sh < c.size := by omega
  have hheap : ∀ n,n ≠ i.to→(w.setCell ⟨i.to,off + i.sh,none⟩ y).heap[n]? = w.heap[n]? := fun n hn => by
    exact heap_setCell_other _ _ _ (Ne.symm hn)
  have hheap' : (w.setCell ⟨i.to,off + i.sh,none⟩ y).heap[i.to]? = some (.cells (c.setIfInBounds (off + i.sh) y) k'.elem (0,0)) := by
    exact heap_setCell_same _ _ _ _ hc
  refine ⟨?_,⟨c[off + i.sh],by simp [World.cell?,hc,hoff]⟩,by simp [World.frozen?,hc]⟩
  refine { ext := Ext.refl _,hr := ?_,os := rfl,tape := rfl,output := rfl,size := by simp,same := ?_,im := ?_,form := ?_,new := fun n h1 h2 => absurd h2 (by simp; omega),next := Nat.le_refl _,fresh := fun b i h1 h2 => (by rw [h1] at h2; cases h2),cf := ?_ }
  · refine { fresh := hr.fresh,blk := ?_,inj := ?_ }
    · intro b2 i2 hb2
      by_cases e : b = b2
      · subst e
        obtain rfl := Option.some.inj (hb.symm.trans hb2)
        refine ⟨{ k' with cells := k'.cells.set off x },by simp [M.get_set],hs,hes,⟨by simpa using hto.1,hto.2⟩,fun _ => ⟨c.setIfInBounds (off + i.sh) y,(0,0),hheap',by simpa using has,fun _ => rfl,fun j hj' => ?_⟩⟩
        obtain ⟨p,q,hp,hq,hpq⟩ := hj j hj'
        have hjs : j < k'.size := by omega
        by_cases e : off = j
        · subst e
          refine ⟨x,y,?_,by simp [hoff],hv⟩
          simp [Blk.get,blt_iff.2 hjs,M.get_set]
        · refine ⟨p,q,?_,?_,hpq⟩
          · simp only [Blk.get,blt_iff.2 hjs,cond_true,M.get_set,e,if_false]
            simpa [Blk.get,blt_iff.2 hjs] using hp
          · rw [Array.getElem?_setIfInBounds_ne (by omega)]; exact hq
      · obtain ⟨k2,g1,g2,g3,g4,g5⟩ := hr.blk b2 i2 hb2
        refine ⟨k2,by simp [M.get_set,e,g1],g2,g3,⟨by simpa using g4.1,g4.2⟩,fun hd2 => (g5 hd2).mono (Ext.refl _) (hheap _ ?_)⟩
        intro e2
        exact e (hr.inj b b2 i i2 k' k2 hb hb2 hk g1 hd hd2 (.inl hw) e2.symm)
    · intro b1 b2 i1 i2 k1 k2 h1 h2 h3 h4 h5 h6 hor h7
      have lk : ∀ b1 k1,(H.blks.set b { k' with cells := k'.cells.set off x }).get b1 = some k1→k1.dead = false→∃ k,H.blks.get b1 = some k∧k.dead = false∧k.wr = k1.wr := fun b1 k1 h hd1 => by
        rw [M.get_set] at h
        by_cases e : b = b1
        · subst e; simp at h; exact ⟨k',hk,hd,by rw [← h]⟩
        · simp only [e,if_false] at h; exact ⟨k1,h,hd1,rfl⟩
      obtain ⟨m1,g1,g2,g5⟩ := lk b1 k1 h3 h5
      obtain ⟨m2,g3,g4,g6⟩ := lk b2 k2 h4 h6
      exact hr.inj b1 b2 i1 i2 m1 m2 h1 h2 g1 g3 g2 g4 (by rw [g5,g6]; exact hor) h7
  · intro n _ hi
    exact hheap n fun e => hi ⟨b,i,k',hb,hk,hd,hw,e.symm⟩
  · rintro n hn ⟨b2,i2,k2,h1,h2,h3,h4,rfl⟩
    rw [M.get_set] at h2
    by_cases e : b = b2
    · subst e
      exact ⟨b,i2,k',h1,hk,hd,hw,rfl⟩
    · simp only [e,if_false] at h2
      exact ⟨b2,i2,k2,h1,h2,h3,h4,rfl⟩
  · intro n c2 t fz h
    by_cases e : n = i.to
    · subst e
      rw [hc] at h
      cases h
      exact ⟨_,hheap'⟩
    · exact ⟨c2,by rw [hheap n e]; exact h⟩
  · intro b2 _ hn
    have : b ≠ b2 := fun e => by subst e; rw [hb] at hn; cases hn
    simp [M.get_set,this]
theorem Sim.congr {ρ ρ' : Ren} {H H' H2 : CH} {w w' : World} (h : Sim ρ ρ' H H' w w') (e : ∀ b,H2.blks.get b = H'.blks.get b) (hn : H2.next = H'.next) : Sim ρ ρ' H H2 w w' :=
  { h with hr := h.hr.congr e hn,next := by rw [hn]; exact h.next,cf := fun b h1 h2 => by rw [e]; exact h.cf b h1 h2,
           im := fun n hn' ⟨b,i,k,h1,h2,h3⟩ => h.im n hn' ⟨b,i,k,h1,by rw [← e]; exact h2,h3⟩ }
theorem HR.setL (P : Program) : ∀ (vs vs' : List Value) {ρ : Ren} {H : CH} {w : World} {b off o n : Nat} {i : BI} {k k1 : Blk} (_ : HR ρ H w) (_ : ρ b = some i) (_ : H.blks.get b = some k) (_ : k.dead = false) (_ : k.wr = true)
    (_ : k.setL off vs = some k1) (_ : LR ρ vs vs') (_ : o + n = off + i.sh),
    ∃ w',(storeCells ⟨i.to,o,none⟩ vs' n).run P w = .ok () w'∧Sim ρ ρ H { H with blks := H.blks.set b k1 } w w'
  | [],_,ρ,H,w,b,off,o,n,i,k,k1,hr,hb,hk,hd,hw,hs,hl,ho => by
    cases hl
    simp only [Blk.setL,Option.some.injEq] at hs
    subst hs
    refine ⟨w,rfl,(Sim.refl hr).congr (fun x => ?_) rfl⟩
    rw [M.get_set]
    by_cases e : b = x
    · subst e; simp [hk]
    · simp [e]
  | v::r,_,ρ,H,w,b,off,o,n,i,k,k1,hr,hb,hk,hd,hw,hs,hl,ho => by
    cases hl with
    | @cons _ v' _ r' hv hr' =>
    simp only [Blk.setL] at hs
    cases hc : (Nat.blt off k.size && isCell v) with
    | false => simp [hc] at hs
    | true =>
      simp only [hc,cond_true] at hs
      simp only [Bool.and_eq_true] at hc
      obtain ⟨h1,⟨z,hz⟩,h3⟩ := hr.set1 hb hk hd hw (blt_iff.1 hc.1) hv
      have hadd : (⟨i.to,o,none⟩ : Addr).add n = ⟨i.to,off + i.sh,none⟩ := by rw [add_addr,ho]
      have hst : (store ((⟨i.to,o,none⟩ : Addr).add n) v').run P w = .ok () (w.setCell ⟨i.to,off + i.sh,none⟩ v') := by
        rw [hadd,run_store P w _ v' _ (hv.isCell hc.2),hz]
        simp [h3]
      obtain ⟨w',h4,h5⟩ := HR.setL P r r' (n := n + 1) (o := o) (off := off + 1) (k := { k with cells := k.cells.set off v }) h1.hr hb (by simp [M.get_set]) hd hw hs hr' (by omega)
      refine ⟨w',?_,(h1.trans h5).congr (fun x => ?_) rfl⟩
      · simp only [storeCells,Sem.run_bind,hst,Result.andThen_ok,h4]
      · simp only [M.get_set]
        by_cases e : b = x <;> simp [e]
theorem HR.storeL {ρ : Ren} {H H1 : CH} {w : World} (P : Program) {b off : Nat} {i : BI} {vs vs' : List Value} (hr : HR ρ H w) (hb : ρ b = some i) (h : H.storeL b off vs = some H1) (hl : LR ρ vs vs') :
    ∃ w',(storeCells ⟨i.to,off + i.sh,none⟩ vs').run P w = .ok () w'∧Sim ρ ρ H H1 w w' := by
  unfold CH.storeL at h
  cases hk : H.live b with
  | none => simp [hk] at h
  | some k =>
    simp only [hk] at h
    obtain ⟨hg,hd⟩ := live_some hk
    cases hw : k.wr with
    | false => simp [hw] at h
    | true =>
      simp only [hw,cond_true] at h
      cases hs : k.setL off vs with
      | none => simp [hs] at h
      | some k1 =>
        simp only [hs,Option.some.injEq] at h
        subst h
        exact hr.setL P vs vs' hb hg hd hw hs hl (by omega)
end Go.CM

namespace Go.CM
open Go
variable {P : Program} {ρ : Ren} {H : CH} {w : World}
theorem VR.of_pure (ρ : Ren) : ∀ (n : Nat) (v : Value),vpure n v = true→VR ρ v v
  | 0,v,h => by simp [vpure] at h
  | n + 1,v,h => by
    have arr : ∀ a : Array Value,a.toList.all (vpure n) = true→AR ρ a a := fun a ha => ⟨rfl,fun i x y hx hy => by
      obtain rfl : x = y := Option.some.inj (hx.symm.trans hy)
      exact VR.of_pure ρ n x (List.all_eq_true.1 ha x (by simpa using Array.mem_of_getElem? hx))⟩
    cases v with
    | bool b => exact .bool b
    | int k n => exact .int k n
    | float k b => exact .float k b
    | complex k a b => simp [vpure] at h
    | string s => exact .string s
    | pointer a => cases a with
      | none => exact .ptr0
      | some a => simp [vpure] at h
    | slice a l c => cases a with
      | none => exact .sl0 l c
      | some a => simp [vpure] at h
    | map r => cases r with
      | none => exact .map0
      | some a => simp [vpure] at h
    | chan r => cases r with
      | none => exact .chan0
      | some a => simp [vpure] at h
    | func fn a b =>
      simp only [vpure,Bool.and_eq_true] at h
      exact .funcA fn (arr a h.1) (arr b h.2)
    | nilFunc => exact .nilFunc
    | iface t v => simp [vpure] at h
    | nilIface => exact .nilIface
    | agg c => exact .aggA (arr c (by simpa [vpure] using h))
    | tuple c => exact .tupA (arr c (by simpa [vpure] using h))
theorem run_isAggT {t : TypeId} {b : Bool} (h : isAggT P t = some b) (w : World) : (isAgg t).run P w = .ok b w := by
  unfold isAggT at h
  cases hu : P.underlying t with
  | none => simp [hu] at h
  | some d =>
    simp only [isAgg,Sem.run_bind,run_underlying hu,Result.andThen_ok]
    cases d <;> simp_all
theorem run_szOf {t : TypeId} {n : Nat} (h : szOf P t = some n) (w : World) : (sizeOf t).run P w = .ok n w := by
  unfold szOf at h
  cases hi : P.info? t with
  | none => simp [hi] at h
  | some i =>
    simp only [hi,Option.some.injEq] at h
    subst h
    simp [sizeOf,run_typeInfo w hi]
theorem szOf_info {t : TypeId} {i : TypeInfo} (h : P.info? t = some i) : szOf P t = some i.size := by simp [szOf,h]
theorem run_zeroOf {t : TypeId} {z : Value} (h : zeroOf P t = some z) (w : World) : (zeroValue t).run P w = .ok z w := by
  unfold zeroOf at h
  cases hi : P.info? t with
  | none => simp [hi] at h
  | some i =>
    simp only [hi] at h
    cases hz : i.zero with
    | none => simp [hz] at h
    | some z' =>
      simp only [hz] at h
      cases hp : vpure 100 z' with
      | false => simp [hp] at h
      | true =>
        simp only [hp,cond_true,Option.some.injEq] at h
        subst h
        simp [zeroValue,run_typeInfo w hi,hz]
theorem zeroOf_pure {t : TypeId} {z : Value} (h : zeroOf P t = some z) (ρ : Ren) : VR ρ z z := by
  unfold zeroOf at h
  cases hi : P.info? t with
  | none => simp [hi] at h
  | some i =>
    simp only [hi] at h
    cases hz : i.zero with
    | none => simp [hz] at h
    | some z' =>
      simp only [hz] at h
      cases hp : vpure 100 z' with
      | false => simp [hp] at h
      | true =>
        simp only [hp,cond_true,Option.some.injEq] at h
        subst h
        exact .of_pure ρ 100 z' hp
theorem HR.loadV (hr : HR ρ H w) {t b off : Nat} {i : BI} {x : Value} (hb : ρ b = some i) (h : loadV P H t b off = some x) :
    ∃ y,(loadVar t ⟨i.to,off + i.sh,none⟩).run P w = .ok y w∧VR ρ x y := by
  unfold CM.loadV at h
  cases ha : isAggT P t with
  | none => simp [ha] at h
  | some a =>
    simp only [ha] at h
    simp only [loadVar,Sem.run_bind,run_isAggT ha,Result.andThen_ok]
    cases a with
    | true =>
      simp only at h
      cases hs : szOf P t with
      | none => simp [hs] at h
      | some n =>
        simp only [hs] at h
        cases hl : H.list b off n with
        | none => simp [hl] at h
        | some vs =>
          simp only [hl,Option.some.injEq] at h
          subst h
          obtain ⟨l',h1,h2⟩ := hr.list P hb hl
          exact ⟨.agg l'.toArray,by simp [run_szOf hs,h1],.aggA h2.toA⟩
    | false =>
      simp only at h
      obtain ⟨y,hy,hv⟩ := hr.cell hb h
      exact ⟨y,by simp [hy],hv⟩
theorem HR.storeV (hr : HR ρ H w) {t b off : Nat} {i : BI} {x y : Value} {H1 : CH} (hb : ρ b = some i) (h : storeV P H t b off x = some H1) (hv : VR ρ x y) :
    ∃ w',(storeVar t ⟨i.to,off + i.sh,none⟩ y).run P w = .ok () w'∧Sim ρ ρ H H1 w w' := by
  unfold CM.storeV at h
  cases hs : szOf P t with
  | none => simp [hs] at h
  | some n =>
    simp only [hs] at h
    cases hn : Nat.beq x.cells.size n with
    | false => simp [hn] at h
    | true =>
      simp only [hn,cond_true] at h
      have hc := hv.cells
      obtain ⟨w',h1,h2⟩ := hr.storeL P hb h hc.toL
      have he : y.cells.size = n := by rw [← hc.1]; exact of_beqT hn
      exact ⟨w',by simp [storeVar,run_szOf hs,he,h1],h2⟩
theorem run_partV {t off : Nat} {cs cs' : Array Value} {x : Value} (h : partV P t cs off = some x) (hc : AR ρ cs cs') (w : World) :
    ∃ y,(part t cs' off).run P w = .ok y w∧VR ρ x y := by
  unfold partV at h
  cases ha : isAggT P t with
  | none => simp [ha] at h
  | some a =>
    simp only [ha] at h
    simp only [part,Sem.run_bind,run_isAggT ha,Result.andThen_ok]
    cases a with
    | true =>
      simp only at h
      cases hs : szOf P t with
      | none => simp [hs] at h
      | some n =>
        simp only [hs,Option.some.injEq] at h
        subst h
        refine ⟨.agg (cs'.extract off (off + n)),by simp [run_szOf hs],.aggA ⟨by simp [hc.1],fun i x y hx hy => ?_⟩⟩
        rw [Array.getElem?_extract] at hx hy
        split at hx
        · rename_i hlt
          rw [if_pos (by rw [← hc.1]; exact hlt)] at hy
          exact hc.2 _ x y hx hy
        · cases hx
    | false =>
      simp only at h
      have hlt := (Array.getElem?_eq_some_iff.1 h).1
      have h2 : cs'[off]? = some (cs'[off]'(by rw [← hc.1]; exact hlt)) := Array.getElem?_eq_getElem _
      exact ⟨_,by simp [h2],hc.2 off x _ h h2⟩
theorem HR.ours {b : Nat} {i : BI} (hr : HR ρ H w) (hb : ρ b = some i) (h : H.ours b = true) :
    ∃ k c,H.blks.get b = some k∧k.dead = false∧w.heap[i.to]? = some (.cells c k.elem (0,0)) := by
  unfold CH.ours at h
  cases hl : H.live b with
  | none => simp [hl] at h
  | some k =>
    simp only [hl] at h
    obtain ⟨hk,hd⟩ := live_some hl
    obtain ⟨k',hk',_,_,_,hbr⟩ := hr.blk b i hb
    obtain rfl : k' = k := Option.some.inj (hk'.symm.trans hk)
    obtain ⟨c,fz,hc,_,hfz,_⟩ := (hbr hd).ex
    obtain rfl := hfz h
    exact ⟨k',c,hk,hd,hc⟩
theorem ours_wr {b : Nat} {k : Blk} (h : H.ours b = true) (hk : H.blks.get b = some k) : k.wr = true := by
  unfold CH.ours CH.live at h
  rw [hk] at h
  simp only at h
  cases hd : k.dead with
  | true => simp [hd] at h
  | false => simpa [hd] using h
theorem run_sameAddr (hr : HR ρ H w) {b1 o1 b2 o2 : Nat} {i1 i2 : BI} (h1 : ρ b1 = some i1) (h2 : ρ b2 = some i2) (g1 : H.ours b1 = true) (g2 : H.ours b2 = true) :
    (sameAddr ⟨i1.to,o1 + i1.sh,none⟩ ⟨i2.to,o2 + i2.sh,none⟩).run P w = .ok (Nat.beq b1 b2 && Nat.beq o1 o2) w := by
  obtain ⟨k1,c1,hk1,hd1,hc1⟩ := hr.ours h1 g1
  obtain ⟨k2,c2,hk2,hd2,hc2⟩ := hr.ours h2 g2
  unfold sameAddr
  by_cases e : b1 = b2
  · subst e
    obtain rfl := Option.some.inj (h1.symm.trans h2)
    simp only [beq_self_eq_true,if_true,Nat.beq_refl,Bool.true_and]
    show (Pure.pure _ : Sem Bool).run P w = _
    simp only [Sem.run_pure]
    congr 1
    by_cases e2 : o1 = o2
    · subst e2; simp
    · rw [beqF e2]
      simp [Nat.add_right_cancel_iff,e2]
  · have hne : i1.to ≠ i2.to := fun he => e (hr.inj b1 b2 i1 i2 k1 k2 h1 h2 hk1 hk2 hd1 hd2 (.inl (ours_wr g1 hk1)) he)
    have f1 : ∀ o,w.frozen? ⟨i1.to,o,none⟩ = false := fun o => by simp [World.frozen?,hc1]
    have f2 : ∀ o,w.frozen? ⟨i2.to,o,none⟩ = false := fun o => by simp [World.frozen?,hc2]
    have s1 : w.shape? i1.to = some (k1.elem,c1.size) := by simp [World.shape?,hc1]
    have s2 : w.shape? i2.to = some (k2.elem,c2.size) := by simp [World.shape?,hc2]
    rw [beqF e]
    simp [hne,f1,f2,noView,viewAt,s1,s2,mayBeOne,stringish]
theorem run_eqFields {eq : TypeId→Value→Value→Option Bool} {d : Nat} {xs ys xs' ys' : Array Value}
    (heq : ∀ t x y x' y' b,eq t x y = some b→VR ρ x x'→VR ρ y y'→(Op.equalIn d t x' y').run P w = .ok b w) (hx : AR ρ xs xs') (hy : AR ρ ys ys') :
    ∀ (fs : List Field) (b : Bool),ceqFields eq P xs ys fs = some b→(Op.eqFields d xs' ys' fs).run P w = .ok b w
  | [],b,h => by simp [ceqFields] at h; subst h; rfl
  | f::r,b,h => by
    simp only [ceqFields] at h
    simp only [Op.eqFields]
    cases hn : f.name == "_" with
    | true =>
      have : f.name = "_" := by simpa using hn
      simp only [hn,cond_true] at h
      simp only [this,ne_eq,not_true_eq_false,if_false]
      exact run_eqFields heq hx hy r b h
    | false =>
      have hne : f.name ≠ "_" := by simpa using hn
      simp only [hn,cond_false] at h
      rw [if_pos hne]
      cases hpx : partV P f.type xs f.offset with
      | none => simp [hpx] at h
      | some x =>
        cases hpy : partV P f.type ys f.offset with
        | none => simp [hpx,hpy] at h
        | some y =>
          simp only [hpx,hpy] at h
          obtain ⟨x',h1,hv1⟩ := run_partV hpx hx w
          obtain ⟨y',h2,hv2⟩ := run_partV hpy hy w
          cases he : eq f.type x y with
          | none => simp [he] at h
          | some c =>
            simp only [he] at h
            simp only [Sem.run_bind,h1,Result.andThen_ok,h2,heq _ _ _ _ _ _ he hv1 hv2]
            cases c with
            | true => simp only at h; simpa using run_eqFields heq hx hy r b h
            | false => simp only [Option.some.injEq] at h; subst h; simp
set_option maxHeartbeats 4000000 in
theorem run_ceq (hr : HR ρ H w) : ∀ (d : Nat) (t : TypeId) (x y x' y' : Value) (b : Bool),ceq P H d t x y = some b→VR ρ x x'→VR ρ y y'→(Op.equalIn d t x' y').run P w = .ok b w
  | 0,t,x,y,x',y',b,h,_,_ => by simp [ceq] at h
  | d + 1,t,x,y,x',y',b,h,hx,hy => by
    cases hu : P.underlying t with
    | none => simp [ceq,hu] at h
    | some u =>
      simp only [ceq,hu] at h
      split at h
      · rename_i p q
        cases hx; cases hy
        simp at h; subst h
        simp [Op.equalIn,run_underlying hu]
      · rename_i k0 k p k' q
        cases hx; cases hy
        split at h
        · rename_i hk; subst hk
          simp at h; subst h
          simp [Op.equalIn,run_underlying hu]
        · cases h
      · rename_i p q
        cases hx; cases hy
        simp at h; subst h
        simp [Op.equalIn,run_underlying hu]
      · rename_i e q
        cases hx
        cases hy <;> (simp at h; subst h; simp [Op.equalIn,run_underlying hu])
      · rename_i e p
        cases hx; cases hy
        simp at h; subst h
        simp [Op.equalIn,run_underlying hu]
      · rename_i e p q
        cases hx with
        | @ptr b1 o1 i1 e1 =>
        cases hy with
        | @ptr b2 o2 i2 e2 =>
        cases hs : szOf P e with
        | none => simp [hs] at h
        | some n =>
          cases n with
          | zero => simp [hs] at h
          | succ n =>
            simp only [hs] at h
            cases hg : (H.ours b1 && H.ours b2) with
            | false => simp [hg] at h
            | true =>
              simp only [hg,cond_true,Option.some.injEq] at h
              simp only [Bool.and_eq_true] at hg
              subst h
              simp only [Op.equalIn,Sem.run_bind,run_underlying hu,Result.andThen_ok,run_szOf hs]
              simp [run_sameAddr hr e1 e2 hg.1 hg.2]
      · cases hx; cases hy; simp at h; subst h; simp [Op.equalIn,run_underlying hu]
      · cases hx; cases hy; simp at h; subst h; simp [Op.equalIn,run_underlying hu]
      · cases hx; cases hy; simp at h; subst h; simp [Op.equalIn,run_underlying hu]
      · rename_i fs xs ys
        cases hx with
        | agg c1 c2 =>
        cases hy with
        | agg c3 c4 =>
        cases hs : P.stoodInHeld t with
        | true => simp [hs] at h
        | false =>
          simp only [hs,cond_false] at h
          have hf : P.fieldsOf t = fs := by simp [Program.fieldsOf,hu]
          rw [run_equalIn_struct w d t _ _ (by rw [hf]; exact hu) hs,hf]
          exact run_eqFields (fun t x y x' y' b h1 h2 h3 => run_ceq hr d t x y x' y' b h1 h2 h3) ⟨c1,c2⟩ ⟨c3,c4⟩ _ b h
      · cases hx
        cases hy <;> (simp at h; subst h; simp [Op.equalIn,run_underlying hu])
      · cases hy
        cases hx <;> (simp at h; subst h; simp [Op.equalIn,run_underlying hu])
      · cases hx; cases hy; simp at h; subst h; simp [Op.equalIn,run_underlying hu]
      · cases hx; cases hy; simp at h; subst h; simp [Op.equalIn,run_underlying hu]
      · cases hx; cases hy; simp at h; subst h; simp [Op.equalIn,run_underlying hu]
      · cases h
end Go.CM

namespace Go.CM
open Go
variable {P : Program} {ρ : Ren} {H : CH} {w : World}
theorem run_eqGuard {op : BinOp} {t : TypeId} {x y : Operand} {a b a' b' : Value} (h : guardOk P t x y a b = true) (ha : VR ρ a a') (hb : VR ρ b b') (w : World) :
    (eqGuard op t x y a' b').run P w = .ok () w := by
  have key : ∀ op',op' = BinOp.eql ∨ op' = BinOp.neq→(eqGuard op' t x y a' b').run P w = .ok () w := by
    intro op' ho
    cases ha with
    | nilIface =>
      cases hb with
      | nilIface =>
        simp only [guardOk,Bool.or_eq_true] at h
        rcases h with h | h
        · cases x <;> simp [isConstO] at h
          rcases ho with rfl | rfl <;> rfl
        · cases y <;> simp [isConstO] at h
          rcases ho with rfl | rfl <;> cases x <;> rfl
      | _ => rcases ho with rfl | rfl <;> rfl
    | agg =>
      cases hb with
      | agg =>
        simp only [guardOk,Bool.not_eq_true'] at h
        rcases ho with rfl | rfl <;> simp [eqGuard,h]
      | _ => rcases ho with rfl | rfl <;> rfl
    | _ => rcases ho with rfl | rfl <;> rfl
  cases op with
  | eql => exact key _ (.inl rfl)
  | neq => exact key _ (.inr rfl)
  | _ => rfl
theorem run_cintOp {op : BinOp} {k : IntKind} {a b : Int} {v : Value} (h : cintOp op k a b = some v) (t : TypeId) (w : World) (hs : op ≠ .shl∧op ≠ .shr) :
    (binOp op t (.int k a) (.int k b)).run P w = .ok v w∧VR ρ v v := by
  have hv : (∃ n,v = .int k n) ∨ (∃ c,v = .bool c) := by
    cases op <;> simp only [cintOp] at h <;> first
      | (simp at h; done)
      | (split at h <;> first | (simp at h; done) | (simp at h; subst h; exact .inl ⟨_,rfl⟩))
      | (simp only [Option.some.injEq] at h; subst h; first | exact .inl ⟨_,rfl⟩ | exact .inr ⟨_,rfl⟩)
  refine ⟨?_,by rcases hv with ⟨n,rfl⟩ | ⟨c,rfl⟩ <;> constructor⟩
  cases op <;> simp only [cintOp] at h <;> first
    | (simp at h; done)
    | (exact absurd rfl hs.1)
    | (exact absurd rfl hs.2)
    | (split at h
       · simp at h
       · rename_i hb
         simp only [Option.some.injEq] at h; subst h
         first | (simp [binOp,Op.intDiv,hb]; done) | simp [binOp,Op.intArith])
    | (simp only [Option.some.injEq] at h; subst h; simp [binOp,Op.intArith,Op.intBits,Op.intCmp])
theorem ceq_float (d : Nat) (t : TypeId) (k k' : FloatKind) (n n' : Nat) : ceq P H d t (.float k n) (.float k' n') = none := by
  cases d with
  | zero => rfl
  | succ d =>
    simp only [ceq]
    cases P.underlying t with
    | none => rfl
    | some u => cases u <;> rfl
theorem run_cbin (hr : HR ρ H w) {op : BinOp} {t : TypeId} {x y x' y' v : Value} (h : cbin P H op t x y = some v) (hx : VR ρ x x') (hy : VR ρ y y') :
    (binOp op t x' y').run P w = .ok v w∧VR ρ v v := by
  unfold cbin at h
  split at h
  · rename_i k a k' b
    cases hx; cases hy
    split at h
    · cases h
    · rename_i hb
      simp only [Option.some.injEq] at h; subst h
      exact ⟨by simp [binOp,Op.shift,hb],.int _ _⟩
  · rename_i k a k' b
    cases hx; cases hy
    split at h
    · cases h
    · rename_i hb
      simp only [Option.some.injEq] at h; subst h
      exact ⟨by simp [binOp,Op.shift,hb],.int _ _⟩
  · rename_i k a k' b h1 h2
    cases hx; cases hy
    split at h
    · rename_i hk; subst hk
      exact run_cintOp h t w ⟨fun e => h1 e,fun e => h2 e⟩
    · cases h
  · rename_i a b
    cases hx; cases hy
    unfold cstrOp at h
    split at h <;> first | (cases h; done) | (simp only [Option.some.injEq] at h; subst h; exact ⟨by simp [binOp,Op.stringOp],.bool _⟩)
  · rename_i h1 h2
    cases hc : ceq P H 10000 t x y with
    | none => simp [hc] at h
    | some b =>
      simp only [hc,Option.map_some,Option.some.injEq] at h; subst h
      have he := run_ceq hr 10000 t x y x' y' b hc hx hy
      refine ⟨?_,.bool _⟩
      have : binOp .eql t x' y' = (do pure (.bool (← Op.equal t x' y'))) := by
        cases hx <;> first | rfl | (cases hy <;> first | rfl | exact (h1 _ _ _ _ rfl rfl).elim | exact (h2 _ _ rfl rfl).elim | (rw [ceq_float] at hc; cases hc))
      rw [this]
      simp [Op.equal,Op.maxDepth,he]
  · rename_i h1 h2
    cases hc : ceq P H 10000 t x y with
    | none => simp [hc] at h
    | some b =>
      simp only [hc,Option.map_some,Option.some.injEq] at h; subst h
      have he := run_ceq hr 10000 t x y x' y' b hc hx hy
      refine ⟨?_,.bool _⟩
      have : binOp .neq t x' y' = (do pure (.bool (!(← Op.equal t x' y')))) := by
        cases hx <;> first | rfl | (cases hy <;> first | rfl | exact (h1 _ _ _ _ rfl rfl).elim | exact (h2 _ _ rfl rfl).elim | (rw [ceq_float] at hc; cases hc))
      rw [this]
      simp [Op.equal,Op.maxDepth,he]
  · cases h
theorem run_cun {op : UnOp} {x x' v : Value} (h : cun op x = some v) (hx : VR ρ x x') (w : World) : (Op.unary op x').run P w = .ok v w∧VR ρ v v := by
  unfold cun at h
  split at h
  · cases hx; simp only [Option.some.injEq] at h; subst h; exact ⟨by simp [Op.unary,Op.intArith],.int _ _⟩
  · cases hx; simp only [Option.some.injEq] at h; subst h; exact ⟨by simp [Op.unary,Op.intBits],.int _ _⟩
  · cases hx; simp only [Option.some.injEq] at h; subst h; exact ⟨by simp [Op.unary],.bool _⟩
  · cases h
theorem run_cconv {src dst : TypeId} {x x' v : Value} (h : cconv P src dst x = some v) (hx : VR ρ x x') (w : World) : (convert src dst x').run P w = .ok v w∧VR ρ v v := by
  unfold cconv at h
  split at h
  · rename_i h1 h2
    cases hx
    split at h
    · cases h
    · simp only [Option.some.injEq] at h; subst h
      exact ⟨by simp [convert,run_underlying h1,run_underlying h2,Conv.intToInt],.int _ _⟩
  · rename_i h1 h2
    cases hx; simp only [Option.some.injEq] at h; subst h
    exact ⟨by simp [convert,run_underlying h1,run_underlying h2],.string _⟩
  · cases h
theorem run_cbound {x x' : Value} {y n y' : Nat} (h : cbound x y = some n) (hx : VR ρ x x') (hy : y ≤ y') (c : BoundsCode) (w : World) :
    (Instr.sliceBound x' y' c).run P w = .ok n w∧n ≤ y := by
  unfold cbound at h
  split at h
  · rename_i k i
    cases hx
    split at h
    · rename_i hi
      simp only [Option.some.injEq] at h; subst h
      have h2 : 0 ≤ i∧i ≤ (y' : Int) := ⟨hi.1,by omega⟩
      refine ⟨by simp [Instr.sliceBound,asIntOf,h2],by omega⟩
    · cases h
  · cases h
inductive OR (ρ : Ren) : Option Value→Option Value→Prop
  | none : OR ρ none none
  | some {x y : Value} : VR ρ x y→OR ρ (some x) (some y)
theorem run_cbounds {len cap cap' : Nat} {lo hi mx lo' hi' mx' : Option Value} {l h m : Nat} (e : cbounds len cap lo hi mx = some (l,h,m)) (h1 : OR ρ lo lo') (h2 : OR ρ hi hi') (h3 : OR ρ mx mx') (hc : cap ≤ cap') (isS : Bool) (w : World) :
    (Instr.sliceBounds isS len cap' lo' hi' mx').run P w = .ok (l,h,cond mx.isSome m cap') w∧l ≤ h∧(len ≤ cap→h ≤ m)∧m ≤ cap∧(mx = none→m = cap) := by
  unfold cbounds at e
  cases h3 with
  | none =>
    simp only at e
    cases h2 with
    | none =>
      simp only at e
      cases h1 with
      | none =>
        simp only [Option.some.injEq,Prod.mk.injEq] at e
        obtain ⟨rfl,rfl,rfl⟩ := e
        refine ⟨by simp [Instr.sliceBounds],Nat.zero_le _,fun h => h,Nat.le_refl _,fun _ => rfl⟩
      | some v =>
        simp only at e
        rename_i lo lo'
        cases hb : cbound lo len with
        | none => simp [hb] at e
        | some l0 =>
          simp only [hb,Option.some.injEq,Prod.mk.injEq] at e
          obtain ⟨rfl,rfl,rfl⟩ := e
          obtain ⟨r,hl⟩ := run_cbound (P := P) hb v (Nat.le_refl _) .sliceB w
          refine ⟨by simp [Instr.sliceBounds,r],hl,fun h => h,Nat.le_refl _,fun _ => rfl⟩
    | some v2 =>
      simp only at e
      rename_i hi hi'
      cases hb2 : cbound hi cap with
      | none => simp [hb2] at e
      | some h0 =>
        simp only [hb2] at e
        obtain ⟨r2,hl2⟩ := run_cbound (P := P) hb2 v2 hc (if isS then .sliceAcap else .sliceAlen) w
        cases h1 with
        | none =>
          simp only [Option.some.injEq,Prod.mk.injEq] at e
          obtain ⟨rfl,rfl,rfl⟩ := e
          refine ⟨by simp [Instr.sliceBounds,r2],Nat.zero_le _,fun _ => hl2,Nat.le_refl _,fun _ => rfl⟩
        | some v =>
          simp only at e
          rename_i lo lo'
          cases hb : cbound lo h0 with
          | none => simp [hb] at e
          | some l0 =>
            simp only [hb,Option.some.injEq,Prod.mk.injEq] at e
            obtain ⟨rfl,rfl,rfl⟩ := e
            obtain ⟨r,hl⟩ := run_cbound (P := P) hb v (Nat.le_refl _) .sliceB w
            refine ⟨by simp [Instr.sliceBounds,r2,r],hl,fun _ => hl2,Nat.le_refl _,fun _ => rfl⟩
  | some v3 =>
    simp only at e
    rename_i mx mx'
    cases hb3 : cbound mx cap with
    | none => simp [hb3] at e
    | some m0 =>
      simp only [hb3] at e
      obtain ⟨r3,hl3⟩ := run_cbound (P := P) hb3 v3 hc (if isS then .slice3Acap else .slice3Alen) w
      cases h2 with
      | none => simp at e
      | some v2 =>
        simp only at e
        rename_i hi hi'
        cases hb2 : cbound hi m0 with
        | none => simp [hb2] at e
        | some h0 =>
          simp only [hb2] at e
          obtain ⟨r2,hl2⟩ := run_cbound (P := P) hb2 v2 (Nat.le_refl _) .slice3B w
          cases h1 with
          | none =>
            simp only [Option.some.injEq,Prod.mk.injEq] at e
            obtain ⟨rfl,rfl,rfl⟩ := e
            refine ⟨by simp [Instr.sliceBounds,r3,r2],Nat.zero_le _,fun _ => hl2,hl3,fun h => by cases h⟩
          | some v =>
            simp only at e
            rename_i lo lo'
            cases hb : cbound lo h0 with
            | none => simp [hb] at e
            | some l0 =>
              simp only [hb,Option.some.injEq,Prod.mk.injEq] at e
              obtain ⟨rfl,rfl,rfl⟩ := e
              obtain ⟨r,hl⟩ := run_cbound (P := P) hb v (Nat.le_refl _) .slice3C w
              refine ⟨by simp [Instr.sliceBounds,r3,r2,r],hl,fun _ => hl2,hl3,fun h => by cases h⟩
theorem HR.static {b : Nat} {i : BI} (hr : HR ρ H w) (hb : ρ b = some i) {k : Blk} (hk : H.blks.get b = some k) : k.size = i.cs∧k.es = i.es∧i.sh + i.cs ≤ i.as := by
  obtain ⟨k',hk',h1,h2,h3,_⟩ := hr.blk b i hb
  obtain rfl := Option.some.inj (hk'.symm.trans hk)
  exact ⟨h1,h2,h3.2⟩
theorem open?_some {b off cap s : Nat} {op : Bool} (h : open? H b off cap s = some op) :
    ∃ k,H.blks.get b = some k∧((op = true∧0 < k.es∧off + cap * k.es = k.size∧k.es = s) ∨ (op = false∧¬ (0 < k.es∧off + cap * k.es = k.size))) := by
  unfold open? CH.blk at h
  cases hk : H.blks.get b with
  | none => simp [hk] at h
  | some k =>
    simp only [hk] at h
    refine ⟨k,rfl,?_⟩
    cases hc : (Nat.blt 0 k.es && Nat.beq (off + cap * k.es) k.size) with
    | true =>
      simp only [hc,cond_true] at h
      simp only [Bool.and_eq_true] at hc
      cases he : Nat.beq k.es s with
      | false => simp [he] at h
      | true =>
        simp only [he,cond_true,Option.some.injEq] at h
        exact .inl ⟨h.symm,blt_iff.1 hc.1,of_beqT hc.2,of_beqT he⟩
    | false =>
      simp only [hc,cond_false,Option.some.injEq] at h
      refine .inr ⟨h.symm,fun ⟨h1,h2⟩ => ?_⟩
      rw [blt_iff.2 h1,beqT h2] at hc
      cases hc
theorem cslice_slice (hr : HR ρ H w) {b off len cap ss l h m : Nat} {x' : Value} {op : Bool} (hx : VR ρ (.slice (some ⟨b,off,none⟩) len cap) x') (ho : open? H b off cap ss = some op) (hlh : l ≤ h) (hhm : h ≤ m) (hmc : m ≤ cap) (full : Bool) (hf : full = false→m = cap) :
    ∃ a' cap',x' = .slice (some a') len cap'∧cap ≤ cap' ∧
      VR ρ (.slice (some (cond (cond full (Nat.beq m l) (Nat.beq m l && !op)) ⟨b,off,none⟩ ⟨b,off + l * ss,none⟩)) (h - l) (m - l))
        (.slice (if cond full m cap' = l then some a' else some (a'.add (l * ss))) (h - l) (cond full m cap' - l)) := by
  obtain ⟨k,hk,hop⟩ := open?_some ho
  cases hx with
  | @sl _ _ i _ _ hb =>
    obtain ⟨s1,s2,s3⟩ := hr.static hb hk
    refine ⟨_,cap,rfl,Nat.le_refl _,?_⟩
    have adv : ∀ q,VR ρ (.slice (some ⟨b,off + l * ss,none⟩) (h - l) q) (.slice (some ((⟨i.to,off + i.sh,none⟩ : Addr).add (l * ss))) (h - l) q) := fun q => by
      rw [add_addr,show off + i.sh + l * ss = off + l * ss + i.sh by omega]
      exact .sl _ _ hb
    cases full with
    | true =>
      simp only [cond_true]
      by_cases e : m = l
      · rw [beqT e,if_pos e]; exact .sl _ _ hb
      · rw [beqF e,if_neg e]; exact adv _
    | false =>
      obtain rfl := hf rfl
      simp only [cond_false]
      cases op with
      | false =>
        by_cases e : m = l
        · rw [beqT e,if_pos e]; exact .sl _ _ hb
        · rw [beqF e,if_neg e]; exact adv _
      | true =>
        rcases hop with ⟨_,g1,g2,g3⟩ | ⟨g,_⟩
        · simp only [Bool.not_true,Bool.and_false,cond_false]
          by_cases e : m = l
          · rw [if_pos e]
            have e1 : h - l = 0 := by omega
            have e2 : m - l = 0 := by omega
            rw [e1,e2]
            subst e
            subst g3
            exact .slE 0 hb (by omega) (by omega) (by omega)
          · rw [if_neg e]; exact adv _
        · cases g
  | @slU _ _ i _ _ cap' hb g1 g2 g3 g4 =>
    obtain ⟨s1,s2,s3⟩ := hr.static hb hk
    refine ⟨_,cap',rfl,g3,?_⟩
    have hes : ss = i.es∧op = true := by
      rcases hop with ⟨g,_,_,g5⟩ | ⟨_,g⟩
      · exact ⟨by omega,g⟩
      · exact absurd ⟨by omega,by rw [s2]; omega⟩ g
    obtain ⟨rfl,rfl⟩ := hes
    cases full with
    | true =>
      simp only [cond_true]
      by_cases e : m = l
      · rw [beqT e,if_pos e]; exact .sl _ _ hb
      · rw [beqF e,if_neg e,add_addr,show off + i.sh + l * i.es = off + l * i.es + i.sh by omega]; exact .sl _ _ hb
    | false =>
      obtain rfl := hf rfl
      simp only [cond_false,Bool.not_true,Bool.and_false]
      by_cases e : cap' = l
      · rw [if_pos e]
        have e1 : h - l = 0 := by omega
        have e2 : m - l = 0 := by omega
        have e3 : cap' - l = 0 := by omega
        have e4 : m = l := by omega
        rw [e1,e2,e3]
        subst e4
        exact .slE 0 hb g1 g2 (by have := Nat.zero_le (cap' * i.es); omega)
      · rw [if_neg e,add_addr,show off + i.sh + l * i.es = off + l * i.es + i.sh by omega]
        have q1 : l * i.es + (m - l) * i.es = m * i.es := by rw [← Nat.add_mul]; congr 1; omega
        have q2 : l * i.es + (cap' - l) * i.es = cap' * i.es := by rw [← Nat.add_mul]; congr 1; omega
        exact .slU _ _ _ hb g1 (by omega) (by omega) (by omega)
  | @slE _ _ off' i cap' hb g1 g2 g3 =>
    obtain ⟨s1,s2,s3⟩ := hr.static hb hk
    refine ⟨_,cap',rfl,Nat.zero_le _,?_⟩
    have hes : op = true := by
      rcases hop with ⟨g,_,_,g5⟩ | ⟨_,g⟩
      · exact g
      · exact absurd ⟨by omega,by omega⟩ g
    subst hes
    obtain rfl : m = 0 := by omega
    obtain rfl : h = 0 := by omega
    obtain rfl : l = 0 := by omega
    have z : (⟨i.to,off',none⟩ : Addr).add 0 = ⟨i.to,off',none⟩ := rfl
    cases full with
    | true =>
      simp only [cond_true,Nat.beq_refl,if_true,Nat.sub_self]
      exact .slE 0 hb g1 g2 (by have := Nat.zero_le (cap' * i.es); omega)
    | false =>
      simp only [cond_false,Bool.not_true,Bool.and_false,Nat.sub_self,Nat.sub_zero,Nat.zero_mul,Nat.add_zero]
      rw [z,ite_self]
      exact .slE cap' hb g1 g2 g3
  | @slW _ _ i a hb g1 =>
    obtain ⟨s1,s2,s3⟩ := hr.static hb hk
    refine ⟨_,0,rfl,Nat.le_refl _,?_⟩
    obtain rfl : m = 0 := by omega
    obtain rfl : h = 0 := by omega
    obtain rfl : l = 0 := by omega
    have z : a.add 0 = a := rfl
    cases full with
    | true =>
      simp only [cond_true,Nat.beq_refl,if_true,Nat.sub_self]
      exact .slW a hb g1
    | false =>
      simp only [cond_false,Nat.sub_self,Nat.zero_mul,Nat.add_zero,if_true]
      cases op <;> exact .slW a hb g1
theorem run_cslice_some (hr : HR ρ H w) {t e len cap : TypeId} {a : Addr} {x' v : Value} {lo hi mx lo' hi' mx' : Option Value} (hu : P.underlying t = some (.slice e)) (h : cslice P H t (.slice (some a) len cap) lo hi mx = some v) (hx : VR ρ (.slice (some a) len cap) x') (h1 : OR ρ lo lo') (h2 : OR ρ hi hi') (h3 : OR ρ mx mx') :
    ∃ v',(Instr.sliceAt t x' lo' hi' mx').run P w = .ok v' w∧VR ρ v v' := by
  simp only [cslice,hu] at h
  cases hb : cbounds len cap lo hi mx with
  | none => simp [hb] at h
  | some r =>
    obtain ⟨l,g,m⟩ := r
    cases hs : szOf P e with
    | none => simp [hb,hs] at h
    | some n =>
      cases n with
      | zero => simp [hb,hs] at h
      | succ s =>
        cases hsp : a.spot with
        | some _ => simp [hb,hs,hsp] at h
        | none =>
          simp only [hb,hs,hsp] at h
          obtain ⟨b,off,sp⟩ := a
          simp only at hsp
          subst hsp
          simp only at h
          cases hgm : Nat.ble g m with
          | false => simp [hgm] at h
          | true =>
            simp only [hgm,cond_true] at h
            have hgm' : g ≤ m := Nat.le_of_ble_eq_true hgm
            cases ho : open? H b off cap (s + 1) with
            | none => simp [ho] at h
            | some op =>
              obtain ⟨_,hlg,_,hmc,hmx⟩ := run_cbounds (P := P) hb h1 h2 h3 (Nat.le_refl _) true w
              cases h3 with
              | none =>
                simp only [ho,Option.some.injEq] at h
                subst h
                obtain ⟨a',cap',rfl,hc,hv⟩ := cslice_slice hr hx ho hlg hgm' hmc false (fun _ => hmx rfl)
                obtain ⟨r1,_⟩ := run_cbounds (P := P) hb h1 h2 .none hc true w
                refine ⟨_,?_,hv⟩
                simp [Instr.sliceAt,Instr.slice,run_underlying hu,r1,run_szOf hs]
              | some v3 =>
                simp only [ho,Option.some.injEq] at h
                subst h
                obtain ⟨a',cap',rfl,hc,hv⟩ := cslice_slice hr hx ho hlg hgm' hmc true (fun h => by cases h)
                obtain ⟨r1,_⟩ := run_cbounds (P := P) hb h1 h2 (.some v3) hc true w
                refine ⟨_,?_,hv⟩
                simp [Instr.sliceAt,Instr.slice,run_underlying hu,r1,run_szOf hs]
theorem run_cslice (hr : HR ρ H w) {t : TypeId} {x x' v : Value} {lo hi mx lo' hi' mx' : Option Value} (h : cslice P H t x lo hi mx = some v) (hx : VR ρ x x') (h1 : OR ρ lo lo') (h2 : OR ρ hi hi') (h3 : OR ρ mx mx') :
    ∃ v',(Instr.sliceAt t x' lo' hi' mx').run P w = .ok v' w∧VR ρ v v' := by
  have h0 := h
  unfold cslice at h
  split at h
  · rename_i s hu
    cases hx
    cases h3 with
    | some _ => simp at h
    | none =>
      cases hb : cbounds s.size s.size lo hi none with
      | none => simp [hb] at h
      | some r =>
        obtain ⟨l,g,m⟩ := r
        simp only [hb,Option.some.injEq] at h; subst h
        obtain ⟨r1,_⟩ := run_cbounds (P := P) hb h1 h2 .none (Nat.le_refl _) false w
        exact ⟨_,by simp [Instr.sliceAt,Instr.slice,run_underlying hu,r1],.string _⟩
  · rename_i e len cap hu
    cases hx
    cases hb : cbounds len cap lo hi mx with
    | none => simp [hb] at h
    | some r =>
      obtain ⟨l,g,m⟩ := r
      cases hs : szOf P e with
      | none => simp [hb,hs] at h
      | some n =>
        simp only [hb,hs,Option.some.injEq] at h; subst h
        obtain ⟨r1,_,_,_,hm⟩ := run_cbounds (P := P) hb h1 h2 h3 (Nat.le_refl _) true w
        refine ⟨.slice none (g - l) (m - l),?_,.sl0 _ _⟩
        have hm' : cond mx.isSome m cap = m := by
          cases mx with
          | none => simp [hm rfl]
          | some _ => rfl
        simp [Instr.sliceAt,Instr.slice,run_underlying hu,r1,run_szOf hs,hm']
  · rename_i e a len cap hu
    exact run_cslice_some hr hu h0 hx h1 h2 h3
  · rename_i n e a hu
    cases hx with
    | @ptr b off i hb =>
    cases hbb : cbounds n n lo hi mx with
    | none => simp [hbb] at h
    | some r =>
      obtain ⟨l,g,m⟩ := r
      cases hs : szOf P e with
      | none => simp [hbb,hs] at h
      | some q =>
        cases q with
        | zero => simp [hbb,hs] at h
        | succ s =>
          simp only [hbb,hs,Option.some.injEq] at h; subst h
          obtain ⟨r1,_,_,_,hm⟩ := run_cbounds (P := P) hbb h1 h2 h3 (Nat.le_refl _) false w
          have hm' : cond mx.isSome m n = m := by
            cases mx with
            | none => simp [hm rfl]
            | some _ => rfl
          rw [hm'] at r1
          refine ⟨.slice (some (if m = l then ⟨i.to,off + i.sh,none⟩ else (⟨i.to,off + i.sh,none⟩ : Addr).add (l * (s + 1)))) (g - l) (m - l),by simp [Instr.sliceAt,run_underlying hu,Instr.sureAddr,r1,run_szOf hs],?_⟩
          by_cases e : m = l
          · rw [beqT e,if_pos e]; exact .sl _ _ hb
          · rw [beqF e,if_neg e,add_addr,show off + i.sh + l * (s + 1) = off + l * (s + 1) + i.sh by omega]; exact .sl _ _ hb
  · cases h
theorem run_cfieldAt {s : TypeId} {x x' v : Value} {f : Nat} (h : cfieldAt P s x f = some v) (hx : VR ρ x x') (w : World) :
    ∃ v',(Instr.fieldAt s x' f).run P w = .ok v' w∧VR ρ v v' := by
  unfold cfieldAt at h
  split at h
  · rename_i fs a hu
    cases hx with
    | @ptr b off i hb =>
    cases hf : fs[f]? with
    | none => simp [hf] at h
    | some fd =>
      simp only [hf] at h
      cases hs : szOf P fd.type with
      | none => simp [hs] at h
      | some n =>
        cases n with
        | zero => simp [hs] at h
        | succ n =>
          simp only [hs,Option.some.injEq] at h; subst h
          refine ⟨ptr i.to (off + fd.offset + i.sh),?_,.ptr hb⟩
          simp [Instr.fieldAt,run_underlying hu,hf,Instr.sureAddr,fieldPlace,run_szOf hs,add_addr,ptr]
          omega
  · cases h
theorem run_cfield {t : TypeId} {x x' v : Value} {f : Nat} (h : cfield P t x f = some v) (hx : VR ρ x x') (w : World) :
    ∃ v',(Instr.field t x' f).run P w = .ok v' w∧VR ρ v v' := by
  unfold cfield at h
  split at h
  · rename_i fs cs hu
    cases hx with
    | agg h1 h2 =>
    cases hf : fs[f]? with
    | none => simp [hf] at h
    | some fd =>
      simp only [hf] at h
      obtain ⟨y,hy,hv⟩ := run_partV h ⟨h1,h2⟩ w
      exact ⟨y,by simp [Instr.field,run_underlying hu,hf,asAgg,hy],hv⟩
  · cases h
theorem run_cindexAt {t : TypeId} {x x' ix ix' v : Value} (h : cindexAt P t x ix = some v) (hx : VR ρ x x') (hi : VR ρ ix ix') (w : World) :
    ∃ v',(Instr.indexAt t x' ix').run P w = .ok v' w∧VR ρ v v' := by
  unfold cindexAt at h
  split at h
  · rename_i n e a k i hu
    cases hx with
    | @ptr b off bi hb =>
    cases hi
    cases hs : szOf P e with
    | none => simp [hs] at h
    | some s =>
      simp only [hs] at h
      split at h
      · rename_i hin
        simp only [Option.some.injEq] at h; subst h
        refine ⟨ptr bi.to (off + i.toNat * s + bi.sh),?_,.ptr hb⟩
        simp [Instr.indexAt,run_underlying hu,asIntOf,Instr.sureAddr,hin,run_szOf hs,add_addr,ptr]
        omega
      · cases h
  · rename_i e a len c k i hu
    cases hs : szOf P e with
    | none => simp [hs] at h
    | some s =>
      have slice : ∀ {off off' c' : Nat} {bi : BI} {b : Nat},a = ⟨b,off,none⟩→ρ b = some bi→off' = off + bi.sh→x' = .slice (some ⟨bi.to,off',none⟩) len c'→∃ v',(Instr.indexAt t x' ix').run P w = .ok v' w∧VR ρ v v' := by
        rintro off off' c' bi b rfl hb rfl rfl
        cases hi
        simp only [hs] at h
        split at h
        · rename_i hin
          simp only [Option.some.injEq] at h; subst h
          refine ⟨ptr bi.to (off + i.toNat * s + bi.sh),?_,.ptr hb⟩
          simp [Instr.indexAt,run_underlying hu,asIntOf,hin,run_szOf hs,add_addr,ptr]
          omega
        · cases h
      cases hx with
      | sl _ _ hb => exact slice rfl hb rfl rfl
      | slU _ _ c' hb => exact slice rfl hb rfl rfl
      | slE c' hb =>
        exfalso
        simp only [hs] at h
        split at h
        · rename_i hin; omega
        · cases h
      | slW a hb =>
        exfalso
        simp only [hs] at h
        split at h
        · rename_i hin; omega
        · cases h
  · cases h
theorem run_cindex {t : TypeId} {x x' ix ix' v : Value} (h : cindex P t x ix = some v) (hx : VR ρ x x') (hi : VR ρ ix ix') (w : World) :
    ∃ v',(Instr.index t x' ix').run P w = .ok v' w∧VR ρ v v' := by
  unfold cindex at h
  split at h
  · rename_i n e cs k i hu
    cases hx with
    | agg h1 h2 =>
    cases hi
    cases hs : szOf P e with
    | none => simp [hs] at h
    | some s =>
      simp only [hs] at h
      split at h
      · rename_i hin
        obtain ⟨y,hy,hv⟩ := run_partV h ⟨h1,h2⟩ w
        exact ⟨y,by simp [Instr.index,run_underlying hu,asIntOf,hin,run_szOf hs,hy],hv⟩
      · cases h
  · rename_i s k i hu
    cases hx; cases hi
    split at h
    · rename_i hin
      cases hg : s[i.toNat]? with
      | none => simp [hg] at h
      | some b =>
        simp only [hg,Option.some.injEq] at h; subst h
        exact ⟨_,by simp [Instr.index,run_underlying hu,asIntOf,hin,hg],.int _ _⟩
    · cases h
  · cases h
inductive PR (ρ : Ren) : List (Nat × Value)→List (Nat × Value)→Prop
  | nil : PR ρ [] []
  | cons {i : Nat} {x y : Value} {xs ys : List (Nat × Value)} : VR ρ x y→PR ρ xs ys→PR ρ ((i,x)::xs) ((i,y)::ys)
theorem AR.set {c c' : Array Value} (h : AR ρ c c') (i : Nat) {x y : Value} (hv : VR ρ x y) : AR ρ (c.setIfInBounds i x) (c'.setIfInBounds i y) := by
  refine ⟨by simp [h.1],fun j a b ha hb => ?_⟩
  rw [Array.getElem?_setIfInBounds] at ha hb
  split at ha
  · rename_i e
    rw [if_pos e] at hb
    split at ha
    · rename_i e2
      rw [if_pos (by rw [← h.1]; exact e2)] at hb
      cases ha; cases hb; exact hv
    · cases ha
  · rename_i e
    rw [if_neg e] at hb
    exact h.2 j a b ha hb
theorem AR.foldl (off : Nat) : ∀ (l l' : List Value) (k : Nat) {c c' : Array Value},LR ρ l l'→AR ρ c c' →
    AR ρ ((l.zipIdx k).foldl (fun cs (p : Value × Nat) => cs.setIfInBounds (off + p.2) p.1) c) ((l'.zipIdx k).foldl (fun cs (p : Value × Nat) => cs.setIfInBounds (off + p.2) p.1) c')
  | [],_,_,_,_,hl,hc => by cases hl; simpa using hc
  | x::l,_,k,_,_,hl,hc => by
    cases hl with
    | cons hv hr => simpa using AR.foldl off l _ (k + 1) hr (hc.set _ hv)
theorem fill_rel {place place' : Nat→Option (Nat × Nat)} (hp : ∀ i,place' i = place i) : ∀ (parts parts' : List (Nat × Value)) {c c' cs : Array Value},AR ρ c c'→PR ρ parts parts'→Instr.fill place c parts = some cs →
    ∃ cs',Instr.fill place' c' parts' = some cs'∧AR ρ cs cs'
  | [],_,c,c',cs,hc,hr,h => by
    cases hr
    simp only [Instr.fill,Option.some.injEq] at h; subst h
    exact ⟨c',rfl,hc⟩
  | (i,x)::r,_,c,c',cs,hc,hr,h => by
    cases hr with
    | @cons _ _ y _ ys hv hr =>
    simp only [Instr.fill] at h ⊢
    rw [hp]
    cases hpl : place i with
    | none => simp [hpl] at h
    | some os =>
      obtain ⟨o,s⟩ := os
      simp only [hpl] at h ⊢
      have hcl := hv.cells
      rw [← hcl.1,← hc.1]
      split at h
      · cases h
      · rename_i hn
        rw [if_neg hn]
        have := AR.foldl (ρ := ρ) o x.cells.toList y.cells.toList 0 hcl.toL hc
        have e : ∀ (d : Array Value) (z : Array Value),(z.zipIdx.foldl (fun cs (p : Value × Nat) => cs.setIfInBounds (o + p.2) p.1) d) = ((z.toList.zipIdx 0).foldl (fun cs (p : Value × Nat) => cs.setIfInBounds (o + p.2) p.1) d) := fun d z => by
          rw [← Array.foldl_toList,Array.toList_zipIdx]
        refine fill_rel hp r ys ?_ hr h
        have e1 := e c x.cells
        have e2 := e c' y.cells
        rw [e1,e2]
        exact this
theorem run_places : ∀ (fs : List Field) (ps : List (Nat × Nat)),placesOf P fs = some ps→∀ w : World,(fs.mapM fun f => (do pure (f.offset,← sizeOf f.type) : Sem (Nat × Nat))).run P w = .ok ps w
  | [],ps,h,w => by simp [placesOf] at h; subst h; rfl
  | f::r,ps,h,w => by
    simp only [placesOf] at h
    cases hs : szOf P f.type with
    | none => simp [hs] at h
    | some s =>
      cases hp : placesOf P r with
      | none => simp [hs,hp] at h
      | some l =>
        simp only [hs,hp,Option.some.injEq] at h; subst h
        have ih := run_places r l hp w
        simp only [List.mapM_cons,Sem.run_bind,run_szOf hs,Result.andThen_ok,Sem.run_pure,ih]
theorem run_cbuild {t : TypeId} {parts parts' : List (Nat × Value)} {v : Value} (h : cbuild P t parts = some v) (hr : PR ρ parts parts') (w : World) :
    ∃ v',(Instr.build t parts'.toArray).run P w = .ok v' w∧VR ρ v v' := by
  unfold cbuild at h
  split at h
  · rename_i z fs hz hu
    cases hp : placesOf P fs.toList with
    | none => simp [hp] at h
    | some ps =>
      simp only [hp] at h
      cases hf : Instr.fill (fun i => ps[i]?) z.cells parts with
      | none => simp [hf] at h
      | some cs =>
        simp only [hf,Option.some.injEq] at h; subst h
        obtain ⟨cs',h1,h2⟩ := fill_rel (ρ := ρ) (place := fun i => ps[i]?) (place' := fun i => ps.toArray[i]?) (fun i => by simp) parts parts' (zeroOf_pure hz ρ).cells hr hf
        refine ⟨.agg cs',?_,.aggA h2⟩
        have hm : (fs.mapM fun f => (do pure (f.offset,← sizeOf f.type) : Sem (Nat × Nat))).run P w = .ok ps.toArray w := by
          rw [Array.mapM_eq_mapM_toList,Sem.run_map,run_places fs.toList ps hp w]
          rfl
        simp only [Instr.build,Sem.run_bind,run_zeroOf hz,Result.andThen_ok,run_underlying hu,hm]
        simp only [h1,Sem.run_pure]
  · rename_i z n e hz hu
    cases hs : szOf P e with
    | none => simp [hs] at h
    | some s =>
      simp only [hs] at h
      cases hf : Instr.fill (fun i => some (i * s,s)) z.cells parts with
      | none => simp [hf] at h
      | some cs =>
        simp only [hf,Option.some.injEq] at h; subst h
        obtain ⟨cs',h1,h2⟩ := fill_rel (ρ := ρ) (place := fun i => some (i * s,s)) (place' := fun i => some (i * s,s)) (fun i => rfl) parts parts' (zeroOf_pure hz ρ).cells hr hf
        refine ⟨.agg cs',?_,.aggA h2⟩
        simp only [Instr.build,Sem.run_bind,run_zeroOf hz,Result.andThen_ok,run_underlying hu,run_szOf hs]
        simp only [h1,Sem.run_pure]
  · cases h
theorem HR.row (hr : HR ρ H w) (t : TypeId) {c c' : Array Value} (hc : AR ρ c c') :
    ∃ ρ',Sim ρ ρ' H (H.new (rowOf t c)) w (w.alloc (.cells c' t))∧ρ' H.next = some ⟨w.heap.size,0,c.size,c'.size,0⟩ :=
  ⟨_,hr.alloc (rowOf t c) c' (by simp [rowOf,hc.1]) (fun j hj => by
    have hj' : j < c.size := hj
    refine ⟨c[j],c'[j]'(by rw [← hc.1]; exact hj'),?_,by simp,hc.2 j _ _ (by simp) (by simp)⟩
    have h1 : T.get (T.leaf : T Value) j = none := rfl
    simp [rowOf,Blk.get,M.get,h1,blt_iff.2 hj',hj']),Ren.put_same _ _ _⟩
theorem run_newRow (t : TypeId) (c : Array Value) (w : World) : (newRow t c).run P w = .ok ⟨w.heap.size,0,none⟩ (w.alloc (.cells c t)) := by
  simp [newRow]
theorem run_cbuildSlice (hr : HR ρ H w) {t : TypeId} {len : Nat} {parts parts' : List (Nat × Value)} {v : Value} {H1 : CH} (h : cbuildSlice P H t len parts = some (v,H1)) (hp : PR ρ parts parts') :
    ∃ ρ' w' v',(Instr.buildSlice t len parts'.toArray).run P w = .ok v' w'∧Sim ρ ρ' H H1 w w'∧VR ρ' v v' := by
  unfold cbuildSlice at h
  split at h
  · rename_i e hu
    cases hs : szOf P e with
    | none => simp [hs] at h
    | some n =>
      cases n with
      | zero => simp [hs] at h
      | succ s =>
        cases hz : zeroOf P e with
        | none => simp [hs,hz] at h
        | some z =>
          simp only [hs,hz] at h
          split at h
          · rename_i hcond
            cases hf : Instr.fill (fun i => some (i * (s + 1),s + 1)) ((Array.range (len * (s + 1))).map (fun j => z.cells[j % z.cells.size]!)) parts with
            | none => simp [hf] at h
            | some cs =>
              simp only [hf,Option.some.injEq,Prod.mk.injEq] at h
              obtain ⟨rfl,rfl⟩ := h
              have hzr := (zeroOf_pure hz ρ).cells
              have h0 : AR ρ ((Array.range (len * (s + 1))).map (fun j => z.cells[j % z.cells.size]!)) ((Array.range (len * (s + 1))).map (fun j => z.cells[j % z.cells.size]!)) := by
                refine ⟨rfl,fun i a b ha hb => ?_⟩
                obtain rfl := Option.some.inj (ha.symm.trans hb)
                have hlt := (Array.getElem?_eq_some_iff.1 ha).1
                simp only [Array.size_map,Array.size_range] at hlt
                simp [hlt] at ha
                have hm : i % z.cells.size < z.cells.size := Nat.mod_lt _ (by omega)
                rw [getElem!_pos z.cells (i % z.cells.size) hm] at ha
                subst ha
                exact hzr.2 (i % z.cells.size) _ _ (by simp [hm]) (by simp [hm])
              obtain ⟨cs',h1,h2⟩ := fill_rel (ρ := ρ) (place := fun i => some (i * (s + 1),s + 1)) (place' := fun i => some (i * (s + 1),s + 1)) (fun i => rfl) parts parts' h0 hp hf
              obtain ⟨ρ',hsim,hnew⟩ := hr.row e h2
              refine ⟨ρ',_,.slice (some ⟨w.heap.size,0,none⟩) len len,?_,hsim,.sl _ _ hnew⟩
              by_cases hl0 : len * (s + 1) = 0
              · have : ((Array.range (len * (s + 1))).map (fun j => z.cells[j % z.cells.size]!)) = ((Array.range (len * (s + 1))).map (fun j => (#[] : Array Value)[j % (#[] : Array Value).size]!)) := by
                  rw [hl0]; simp
                rw [this] at h1
                simp only [Instr.buildSlice,Sem.run_bind,run_underlying hu,Result.andThen_ok,run_szOf hs]
                rw [if_neg (by omega)]
                simp only [Sem.run_bind,hl0,if_true,Sem.run_pure,Result.andThen_ok]
                rw [hl0] at h1
                simp only [h1,Sem.run_bind,run_newRow,Result.andThen_ok,Sem.run_pure]
              · simp only [Instr.buildSlice,Sem.run_bind,run_underlying hu,Result.andThen_ok,run_szOf hs]
                rw [if_neg (by omega)]
                simp only [Sem.run_bind,hl0,if_false,run_zeroOf hz,Sem.run_pure,Result.andThen_ok]
                simp only [h1,Sem.run_bind,run_newRow,Result.andThen_ok,Sem.run_pure]
          · cases h
  · cases h
end Go.CM

