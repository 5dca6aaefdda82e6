/- Appends, calls, regions in whatever order, code and calls of the evaluator against the model: what the evaluator tells of a call the model does in every world, whatever it draws. No conditions beyond the ones each theorem states. -/
import Derived.Test.YtoogdnemkfbgdaaCmA
import Derived.IntWalk
import Derived.LoopN
import Derived.ProofKit
import Derived.OpenShut
set_option linter.unusedVariables false
set_option linter.unusedSimpArgs false

namespace Go.CM
open Go
variable {P : Program} {ρ : Ren} {H : CH} {w : World}
theorem wrap64_id {n : Int} (h0 : 0 ≤ n) (h1 : n ≤ 9223372036854775807) : IntKind.i64.wrap n = n :=
 IntWalk.i64_in n ⟨by omega,by omega⟩
theorem run_cmakeSlice (hr : HR ρ H w) {t : TypeId} {l c l' c' v : Value} {H1 : CH} (h : cmakeSlice P H t l c = some (v,H1)) (hl : VR ρ l l') (hc : VR ρ c c') :
  ∃ ρ' w' v',(Instr.makeSlice t l' c').run P w = .ok v' w'∧Sim ρ ρ' H H1 w w'∧VR ρ' v v' := by
 unfold cmakeSlice at h
 split at h
 ·rename_i e k1 a k2 b hu
  cases hl; cases hc
  cases hi : P.info? e with
  | none => simp [hi] at h
  | some i =>
   cases hz : zeroOf P e with
   | none => simp [hi,hz] at h
   | some z =>
    simp only [hi,hz] at h
    split at h
    ·rename_i hcond
     obtain ⟨g1,g2,g3,g4,g5,g6⟩ := hcond
     simp only [Option.some.injEq,Prod.mk.injEq] at h
     obtain ⟨rfl,rfl⟩ := h
     have hzr := (zeroOf_pure hz ρ).cells
     have hpos : 0 < z.cells.size := by omega
     let arr : Array Value := (Array.range (b.toNat * i.size)).map (fun j => z.cells[j % z.cells.size]!)
     have hs : Sim ρ (ρ.put H.next ⟨w.heap.size,0,(zerosBlk e z.cells b.toNat).size,arr.size,0⟩) H (H.new (zerosBlk e z.cells b.toNat)) w (w.alloc (.cells arr e)) :=
      hr.alloc (zerosBlk e z.cells b.toNat) arr (by simp [arr,zerosBlk,g5]) (fun j hj => by
       have hj' : j < b.toNat * z.cells.size := hj
       have hm : j % z.cells.size < z.cells.size := Nat.mod_lt _ hpos
       refine ⟨z.cells[j % z.cells.size],z.cells[j % z.cells.size],?_,?_,hzr.2 (j % z.cells.size) _ _ (by simp [hm]) (by simp [hm])⟩
       ·have h1 : T.get (T.leaf : T Value) j = none := rfl
        simp [zerosBlk,Blk.get,M.get,h1,blt_iff.2 hj',hm]
       ·have : j < b.toNat * i.size := by rw [g5]; exact hj'
        simp [arr,this,hm])
     refine ⟨_,_,.slice (some ⟨w.heap.size,0,none⟩) a.toNat b.toNat,?_,hs,.sl (i := ⟨w.heap.size,0,_,_,0⟩) _ _ (Ren.put_same _ _ _)⟩
     have w1 : IntKind.i64.wrap a = a := wrap64_id g1 (by omega)
     have w2 : IntKind.i64.wrap b = b := wrap64_id (by omega) g3
     have t1 : ¬ (b < 0) := by omega
     have t2 : ¬ ((2 : Int) ^ 48 < (i.bytes : Int) * b) := by unfold limit at g4; omega
     have t3 : ¬ (a < 0) := by omega
     have t4 : ¬ (b < a) := by omega
     simp only [Instr.makeSlice,Sem.run_bind,run_underlying hu,Result.andThen_ok,asInt,asIntOf,Sem.run_pure,run_typeInfo w hi,w1,w2]
     have tl : (decide (b < 0) || decide ((i.bytes : Int) * b > 2 ^ 48) || decide (a < 0) || decide (a > b)) = false := by
      simp only [Bool.or_eq_false_iff,decide_eq_false_iff_not]
      exact ⟨⟨⟨t1,t2⟩,t3⟩,t4⟩
     rw [if_neg (by simp only [Bool.or_eq_true] at tl ⊢; simpa using tl)]
     simp only [Sem.run_bind,run_askRoom,Result.andThen_ok,run_szOf (szOf_info hi)]
     by_cases hn : b.toNat * i.size = 0
     ·simp only [hn,if_true]
      have : arr = #[] := by simp only [arr,hn]; simp
      rw [this]
      have r0 : Array.range 0 = #[] := by simp
      simp [run_newRow,r0]
     ·simp only [hn,if_false,Sem.run_bind,run_zeroOf hz,Sem.run_pure,Result.andThen_ok]
      rfl
    ·cases h
 ·cases h
theorem run_firstCells (hr : HR ρ H w) {s n : Nat} {x x' : Value} {l : List Value} (h : srcCells H s n x = some l) (hx : VR ρ x x') (hlen : ∀ a m c,x = .slice (some a) m c→n ≤ m) :
  ∃ l',(Builtin.firstCells s n x').run P w = .ok l'.toArray w∧LR ρ l l' := by
 unfold srcCells at h
 split at h
 ·rename_i a m c
  have hnm := hlen a m c rfl
  split at h
  ·rename_i hsp
   cases hx with
   | sl _ _ hb =>
    obtain ⟨l',h1,h2⟩ := hr.list P hb h
    exact ⟨l',by simp [Builtin.firstCells,h1],h2⟩
   | slU _ _ c' hb =>
    obtain ⟨l',h1,h2⟩ := hr.list P hb h
    exact ⟨l',by simp [Builtin.firstCells,h1],h2⟩
   | slE c' hb =>
    obtain rfl : n = 0 := by omega
    rw [Nat.zero_mul] at h
    have : l = [] := by
     unfold CH.list at h
     split at h
     ·simp [Blk.list] at h; exact h
     ·cases h
    subst this
    exact ⟨[],by simp [Builtin.firstCells,loadCells,loadCellsFrom],.nil⟩
   | slW a hb =>
    obtain rfl : n = 0 := by omega
    rw [Nat.zero_mul] at h
    have : l = [] := by
     unfold CH.list at h
     split at h
     ·simp [Blk.list] at h; exact h
     ·cases h
    subst this
    exact ⟨[],by simp [Builtin.firstCells,loadCells,loadCellsFrom],.nil⟩
  ·cases h
 ·cases hx
  simp only [Option.some.injEq] at h; subst h
  exact ⟨[],by simp [Builtin.firstCells],.nil⟩
 ·cases h
theorem append_room {ats : Array TypeId} {args : Array Value} {st xt e e2 ty : TypeId} {i : TypeInfo} {base : Option Addr} {len cap xl xc : Nat} {xa : Option Addr} {new : Array Value}
  (a1 : ats[0]? = some st) (a2 : ats[1]? = some xt) (a3 : args[0]? = some (.slice base len cap)) (a4 : args[1]? = some (.slice xa xl xc))
  (u1 : P.underlying st = some (.slice e)) (u2 : P.underlying xt = some (.slice e2)) (hi : P.info? e = some i)
  (hnew : (Builtin.firstCells i.size xl (.slice xa xl xc)).run P w = .ok new w) (hroom : len + xl ≤ cap) :
  (Builtin.append_ ats ty args).run P w = (match base with
   | some a => (storeCells (a.add (len * i.size)) new.toList).run P w
   | none => .ok () w).andThen fun _ w => .ok (.slice base (len + xl) cap) w := by
 simp only [Builtin.append_,a1,a2,a3,a4,Sem.run_bind,run_underlying u1,Result.andThen_ok,run_szOf (szOf_info hi),run_underlying u2,Sem.run_pure]
 simp only [Bool.false_eq_true,if_false,Builtin.lenOf,Sem.run_pure,Result.andThen_ok,hroom,if_true,Bool.not_false,Sem.run_bind,hnew]
 cases base <;> simp
theorem append_grow {ats : Array TypeId} {args : Array Value} {st xt e e2 ty : TypeId} {i : TypeInfo} {z : Value} {base : Option Addr} {len cap xl xc : Nat} {xa : Option Addr} {old new : Array Value}
  (a1 : ats[0]? = some st) (a2 : ats[1]? = some xt) (a3 : args[0]? = some (.slice base len cap)) (a4 : args[1]? = some (.slice xa xl xc))
  (u1 : P.underlying st = some (.slice e)) (u2 : P.underlying xt = some (.slice e2)) (hi : P.info? e = some i) (hz : zeroOf P e = some z)
  (hnew : (Builtin.firstCells i.size xl (.slice xa xl xc)).run P w.drew = .ok new w.drew) (hold : (Builtin.firstCells i.size len (.slice base len cap)).run P w.drew = .ok old w.drew)
  (hroom : ¬ len + xl ≤ cap) (hb : (2 * (len + xl) + 1000) * i.bytes ≤ 281474976710656) (hb2 : len + xl ≤ 1152921504606846976) :
  ∃ n : Nat,len + xl ≤ n∧(Builtin.append_ ats ty args).run P w =
   .ok (.slice (some ⟨w.heap.size,0,none⟩) (len + xl) n) (w.drew.alloc (.cells (old++new++Builtin.zeroCells z.cells (n - (len + xl))) e)) := by
 have hgrow : ∀ need old c r,c ≤ 2 * need + 700→old < need→Builtin.growBy need r c ≤ 2 * need + 700 := by
  intro need old c r
  induction r generalizing c with
  | zero => intro h _; exact h
  | succ r ih =>
   intro h h2
   simp only [Builtin.growBy]
   split
   ·exact h
   ·exact ih _ (by omega) h2
 have hcap : Builtin.nextslicecap (len + xl) cap ≤ 2 * (len + xl) + 1000 := by
  unfold Builtin.nextslicecap
  split
  ·omega
  ·split
   ·omega
   ·have := hgrow (len + xl) cap cap 4 (by omega) (by omega); omega
 have hbytes : ¬ (Builtin.nextslicecap (len + xl) cap * i.bytes > 2 ^ 48) := by
  have := Nat.mul_le_mul_right i.bytes hcap
  omega
 have h63 : ¬ (((len + xl : Nat) : Int) > IntKind.i64.max) := by
  have : IntKind.i64.max = 9223372036854775807 := by decide
  rw [this]; omega
 simp only [Builtin.append_,a1,a2,a3,a4,Sem.run_bind,run_underlying u1,Result.andThen_ok,run_szOf (szOf_info hi),run_underlying u2,Sem.run_pure]
 simp only [Bool.false_eq_true,if_false,Builtin.lenOf,Sem.run_pure,Result.andThen_ok,hroom,Bool.not_false,if_true,Sem.run_bind,run_typeInfo w hi,h63,false_and,hbytes]
 have hch : (choose (.appendCap (len + xl) cap e)).run P w = .ok (len + xl + w.tape w.drawn (.appendCap (len + xl) cap e) % (2 ^ 63 - (len + xl))) w.drew := rfl
 refine ⟨len + xl + w.tape w.drawn (.appendCap (len + xl) cap e) % (2 ^ 63 - (len + xl)),Nat.le_add_right _ _,?_⟩
 rw [hch]
 simp only [Result.andThen_ok,run_typeInfo w.drew hi,run_askRoom,hold,hnew,run_zeroOf hz,run_newRow]
 rfl
theorem AR.get {c c' : Array Value} (h : AR ρ c c') {i : Nat} {x : Value} (hx : c[i]? = some x) : ∃ y,c'[i]? = some y∧VR ρ x y := by
 have hlt := (Array.getElem?_eq_some_iff.1 hx).1
 exact ⟨c'[i]'(by rw [← h.1]; exact hlt),by simp,h.2 i _ _ hx (by simp)⟩
theorem VR.slice_inv {a : Option Addr} {l c : Nat} {y : Value} (h : VR ρ (.slice a l c) y) : ∃ a' c',y = .slice a' l c'∧c ≤ c' := by
 cases h with
 | sl0 => exact ⟨_,_,rfl,Nat.le_refl _⟩
 | sl _ _ _ => exact ⟨_,_,rfl,Nat.le_refl _⟩
 | slU _ _ c' _ _ _ h _ => exact ⟨_,c',rfl,h⟩
 | slE c' _ _ _ _ => exact ⟨_,c',rfl,Nat.zero_le _⟩
 | slW a _ _ => exact ⟨_,0,rfl,Nat.le_refl _⟩
theorem HR.kill (hr : HR ρ H w) {b : Nat} {i : BI} {k : Blk} (hb : ρ b = some i) (hk : H.blks.get b = some k) : Sim ρ ρ H { H with blks := H.blks.set b { k with dead := true } } w w := by
 have hl : ∀ b2 k2,(H.blks.set b { k with dead := true }).get b2 = some k2→k2.dead = false→H.blks.get b2 = some k2∧b ≠ b2 := fun b2 k2 h hd => by
  rw [M.get_set] at h
  by_cases e : b = b2
  ·subst e; simp at h; subst h; simp at hd
  ·simp only [e,if_false] at h; exact ⟨h,e⟩
 refine { Sim.refl hr with hr := ?_,im := ?_,cf := ?_ }
 ·refine { fresh := hr.fresh,blk := ?_,inj := ?_ }
  ·intro b2 i2 h2
   obtain ⟨k2,g1,g2,g3,g4,g5⟩ := hr.blk b2 i2 h2
   by_cases e : b = b2
   ·subst e
    obtain rfl := Option.some.inj (hk.symm.trans g1)
    exact ⟨{ k with dead := true },by simp [M.get_set],g2,g3,g4,fun h => by simp at h⟩
   ·exact ⟨k2,by simp [M.get_set,e,g1],g2,g3,g4,g5⟩
  ·intro b1 b2 i1 i2 k1 k2 h1 h2 h3 h4 h5 h6 hor h7
   exact hr.inj b1 b2 i1 i2 k1 k2 h1 h2 (hl b1 k1 h3 h5).1 (hl b2 k2 h4 h6).1 h5 h6 hor h7
 ·rintro n _ ⟨b2,i2,k2,h1,h2,h3,h4,rfl⟩
  exact ⟨b2,i2,k2,h1,(hl b2 k2 h2 h3).1,h3,h4,rfl⟩
 ·intro b2 _ hn
  have : b ≠ b2 := fun e => by subst e; rw [hb] at hn; cases hn
  simp [M.get_set,this]
theorem size_zeroCells (z : Array Value) (n : Nat) : (Builtin.zeroCells z n).size = n * z.size := by simp [Builtin.zeroCells]
theorem HR.grow (hr : HR ρ H w) (row : Blk) (e : TypeId) (s len xl n : Nat) {old new old' new' : List Value} {z : Array Value} (he : row.elem = e) (hz : z.size = s + 1) (hsz : row.size = (len + xl) * (s + 1)) (hes : row.es = s + 1)
  (ho : LR ρ old old') (hn : LR ρ new new') (lo : old.length = len * (s + 1)) (ln : new.length = xl * (s + 1)) (hrow : ∀ j,j < (len + xl) * (s + 1)→row.get j = (old++new)[j]?) (hnn : len + xl ≤ n) :
  ∃ ρ',Sim ρ ρ' H (H.new row) w (w.drew.alloc (.cells (old'.toArray++new'.toArray++Builtin.zeroCells z (n - (len + xl))) e)) ∧
   VR ρ' (.slice (some ⟨H.next,0,none⟩) (len + xl) (len + xl)) (.slice (some ⟨w.heap.size,0,none⟩) (len + xl) n) := by
 subst he
 have hon := ho.append hn
 have hlen : (old++new).length = (len + xl) * (s + 1) := by simp [lo,ln,Nat.add_mul]
 have hlen' : (old'++new').length = (len + xl) * (s + 1) := by rw [← hon.length,hlen]
 have hcs : (old'.toArray++new'.toArray++Builtin.zeroCells z (n - (len + xl))).size = n * (s + 1) := by
  have : (old'.toArray++new'.toArray).size = (len + xl) * (s + 1) := by simpa using hlen'
  rw [Array.size_append,this,size_zeroCells,hz,← Nat.add_mul]
  congr 1; omega
 have hsim := (hr.of_heap (w' := w.drew) rfl).alloc row (old'.toArray++new'.toArray++Builtin.zeroCells z (n - (len + xl))) (by rw [hcs,hsz]; exact Nat.mul_le_mul_right _ hnn) (fun j hj => by
  rw [hsz] at hj
  have hx : (old++new)[j]? = some ((old++new)[j]'(by rw [hlen]; exact hj)) := by simp
  obtain ⟨y,hy,hv⟩ := hon.get j _ hx
  refine ⟨_,y,by rw [hrow j hj,hx],?_,hv⟩
  have : j < (old'.toArray++new'.toArray).size := by
   have : (old'.toArray++new'.toArray).size = (len + xl) * (s + 1) := by simpa using hlen'
   omega
  rw [Array.getElem?_append_left this]
  rw [show old'.toArray++new'.toArray = (old'++new').toArray by simp]
  simpa using hy)
 refine ⟨_,(Sim.drew hr).trans hsim,?_⟩
 exact .slU (i := ⟨w.heap.size,0,row.size,(old'.toArray++new'.toArray++Builtin.zeroCells z (n - (len + xl))).size,row.es⟩) (len + xl) (len + xl) n (Ren.put_same _ _ _) (by simp [hes]) (by simp [hes,hsz]) hnn (by simp only [hes,hcs]; omega)
theorem HR.list_some (hr : HR ρ H w) {b : Nat} {i : BI} (hb : ρ b = some i) {k : Blk} (hk : H.live b = some k) : ∀ (n off : Nat),off + n ≤ k.size→∃ l,H.list b off n = some l∧∀ j,j < n→k.get (off + j) = l[j]? := by
 obtain ⟨hg,hd⟩ := live_some hk
 obtain ⟨k',hk',hs,_,_,hbr⟩ := hr.blk b i hb
 obtain rfl := Option.some.inj (hk'.symm.trans hg)
 obtain ⟨c,fz,_,_,_,hj⟩ := (hbr hd).ex
 have key : ∀ (n off : Nat),off + n ≤ k'.size→∃ l,k'.list off n = some l := by
  intro n
  induction n with
  | zero => intro off _; exact ⟨[],rfl⟩
  | succ n ih =>
   intro off h
   obtain ⟨x,_,hx,_,_⟩ := hj off (by omega)
   obtain ⟨l,hl⟩ := ih (off + 1) (by omega)
   exact ⟨x::l,by simp [Blk.list,hx,hl]⟩
 intro n off h
 obtain ⟨l,hl⟩ := key n off h
 refine ⟨l,by simp [CH.list,hk,hl],fun j hjn => ?_⟩
 obtain ⟨_,h2⟩ := Blk.list_get hl
 obtain ⟨x,hx,hg2⟩ := h2 j hjn
 rw [hg2,hx]
theorem grownRow_get {e s off len xl : Nat} {k : Blk} {old new : List Value} (lo : old.length = len * s) (ho : ∀ j,j < len * s→k.get (off + j) = old[j]?) (j : Nat) (hj : j < (len + xl) * s) :
  (grownRow e s k off len xl new).get j = (old++new)[j]? := by
 have h1 : T.get (T.leaf : T Value) j = none := rfl
 have e : (grownRow e s k off len xl new).get j = cond (Nat.blt j (len * s)) (k.get (off + j)) (new[j - len * s]?) := by
  rw [Blk.get.eq_1 (grownRow e s k off len xl new)]
  simp only [grownRow,blt_iff.2 hj,cond_true,M.get,h1]
 rw [e]
 by_cases hl : j < len * s
 ·rw [blt_iff.2 hl,cond_true,ho j hl,List.getElem?_append_left (by omega)]
 ·have : Nat.blt j (len * s) = false := by
   cases hb : Nat.blt j (len * s) with
   | false => rfl
   | true => exact absurd (blt_iff.1 hb) hl
  rw [this,cond_false,List.getElem?_append_right (by omega),lo]
theorem HR.inplace (P : Program) (hr : HR ρ H w) {b off off' : Nat} {i : BI} {k : Blk} (hb : ρ b = some i) (hk : H.live b = some k) (hw : k.wr = true) (s len xl : Nat) {new new' : List Value}
  (hoff : 0 < len→off' = off + i.sh) (hn : LR ρ new new') (ln : new.length = xl * (s + 1)) (hcell : new.all isCell = true) (hroom : off' + (len + xl) * (s + 1) ≤ i.as) (hold : off + len * (s + 1) ≤ k.size) :
  ∃ w',(storeCells ((⟨i.to,off',none⟩ : Addr).add (len * (s + 1))) new').run P w = .ok () w' ∧
   Sim ρ (ρ.put H.next ⟨i.to,off',(len + xl) * (s + 1),i.as,s + 1⟩) H (({ H with blks := H.blks.set b { k with dead := true } } : CH).new (grownRow k.elem (s + 1) k off len xl new)) w w' := by
 obtain ⟨hg,hd⟩ := live_some hk
 obtain ⟨k',hk',hs,hes,hto,hbr⟩ := hr.blk b i hb
 obtain rfl := Option.some.inj (hk'.symm.trans hg)
 obtain ⟨c,fz,hc,has,hfz,hj⟩ := (hbr hd).ex
 obtain rfl := hfz hw
 have hnl : new'.length = xl * (s + 1) := by rw [← hn.length,ln]
 have hmul : (len + xl) * (s + 1) = len * (s + 1) + xl * (s + 1) := Nat.add_mul _ _ _
 have hone : ∀ v ∈ new',v.oneCell' = true := by
  clear ln hnl
  induction hn with
  | nil => intro v hv; simp at hv
  | cons p _ ih =>
   simp only [List.all_cons,Bool.and_eq_true] at hcell
   intro v hv
   rcases List.mem_cons.1 hv with rfl | hv
   ·exact p.isCell hcell.1
   ·exact ih hcell.2 v hv
 have hst := run_storeCells_at (P := P) i.to (off' + len * (s + 1)) k'.elem new' 0 c w hc (by omega) hone
 have hkill := hr.kill hb hk'
 have hn0 : ρ H.next = none := hr.next_none (Nat.le_refl _)
 have hext : Ext ρ (ρ.put H.next ⟨i.to,off',(len + xl) * (s + 1),i.as,s + 1⟩) := Ext.put hn0
 let N : Array Value := (c.toList.take (off' + len * (s + 1) + 0)++new'++c.toList.drop (off' + len * (s + 1) + 0 + new'.length)).toArray
 have hNs : N.size = c.size := by simp [N]; omega
 have hNh : (w.setRow i.to N).heap[i.to]? = some (.cells N k'.elem (0,0)) := setRow_heap w i.to c N k'.elem (0,0) hc
 have hNo : ∀ n,n ≠ i.to→(w.setRow i.to N).heap[n]? = w.heap[n]? := fun n h => setRow_other w i.to n N h
 have hdead : ∀ b2 i2 k2,ρ b2 = some i2→(H.blks.set b { k' with dead := true }).get b2 = some k2→k2.dead = false→i2.to ≠ i.to := fun b2 i2 k2 h1 h2 h3 e => by
  rw [M.get_set] at h2
  by_cases eb : b = b2
  ·subst eb; simp at h2; subst h2; simp at h3
  ·simp only [eb,if_false] at h2
   exact eb (hr.inj b b2 i i2 k' k2 hb h1 hk' h2 hd h3 (.inl hw) e.symm)
 obtain ⟨old,_,hold2⟩ := hr.list_some hb hk (len * (s + 1)) off hold
 have hgr : ∀ j,j < (len + xl) * (s + 1)→∃ x y,(grownRow k'.elem (s + 1) k' off len xl new).get j = some x∧N[j + off']? = some y∧VR ρ x y := by
  intro j hjl
  have e : (grownRow k'.elem (s + 1) k' off len xl new).get j = cond (Nat.blt j (len * (s + 1))) (k'.get (off + j)) (new[j - len * (s + 1)]?) := by
   have h1 : T.get (T.leaf : T Value) j = none := rfl
   rw [Blk.get.eq_1 (grownRow k'.elem (s + 1) k' off len xl new)]
   simp only [grownRow,blt_iff.2 hjl,cond_true,M.get,h1]
  rw [e]
  have hb1 : (c.toList.take (off' + len * (s + 1) + 0)).length = off' + len * (s + 1) := by simp; omega
  by_cases hl : j < len * (s + 1)
  ·rw [blt_iff.2 hl,cond_true]
   have hlen : 0 < len := by
    rcases Nat.eq_zero_or_pos len with h | h
    ·subst h; simp at hl
    ·exact h
   obtain ⟨x,y,hx,hy,hv⟩ := hj (off + j) (by omega)
   refine ⟨x,y,hx,?_,hv⟩
   have e2 : j + off' = off + j + i.sh := by rw [hoff hlen]; omega
   simp only [N,List.getElem?_toArray,List.append_assoc]
   rw [List.getElem?_append_left (by omega),List.getElem?_take_of_lt (by omega),e2]
   simpa using hy
  ·have : Nat.blt j (len * (s + 1)) = false := by
    cases hb : Nat.blt j (len * (s + 1)) with
    | false => rfl
    | true => exact absurd (blt_iff.1 hb) hl
   rw [this,cond_false]
   have hlt : j - len * (s + 1) < new.length := by omega
   obtain ⟨y,hy,hv⟩ := hn.get (j - len * (s + 1)) _ (List.getElem?_eq_getElem hlt)
   refine ⟨_,y,List.getElem?_eq_getElem hlt,?_,hv⟩
   simp only [N,List.getElem?_toArray,List.append_assoc]
   rw [List.getElem?_append_right (by omega),hb1,List.getElem?_append_left (by omega),← hy]
   congr 1; omega
 refine ⟨w.setRow i.to N,?_,?_⟩
 ·rw [add_addr]; exact hst
 refine { ext := hext,hr := ?_,os := rfl,tape := rfl,output := rfl,size := by simp,same := ?_,im := ?_,form := ?_,new := fun n h1 h2 => absurd h2 (by simp; omega),next := Nat.le_succ _,fresh := ?_,cf := ?_ }
 ·refine { fresh := ?_,blk := ?_,inj := ?_ }
  ·intro b2 i2 h2
   by_cases e : b2 = H.next
   ·subst e; exact Nat.lt_succ_self _
   ·rw [Ren.put_other _ _ _ e] at h2
    exact Nat.lt_succ_of_lt (hr.fresh b2 i2 h2)
  ·intro b2 i2 h2
   by_cases e : b2 = H.next
   ·subst e
    rw [Ren.put_same] at h2
    obtain rfl := Option.some.inj h2
    refine ⟨grownRow k'.elem (s + 1) k' off len xl new,by simp [CH.new_get],rfl,rfl,⟨by simpa using hto.1,hroom⟩,fun _ => ⟨N,(0,0),hNh,by rw [hNs]; exact has,fun _ => rfl,fun j hjl => ?_⟩⟩
    obtain ⟨x,y,h1,h2,h3⟩ := hgr j hjl
    exact ⟨x,y,h1,h2,h3.mono hext⟩
   ·rw [Ren.put_other _ _ _ e] at h2
    obtain ⟨k2,g1,g2,g3,g4,g5⟩ := hkill.hr.blk b2 i2 h2
    refine ⟨k2,by rw [CH.new_get,if_neg (Ne.symm e)]; exact g1,g2,g3,⟨by simpa using g4.1,g4.2⟩,fun hd2 => (g5 hd2).mono hext (hNo _ (hdead b2 i2 k2 h2 g1 hd2))⟩
  ·intro b1 b2 i1 i2 k1 k2 h1 h2 h3 h4 h5 h6 hor h7
   by_cases e1 : b1 = H.next
   ·by_cases e2 : b2 = H.next
    ·rw [e1,e2]
    ·exfalso
     subst e1
     rw [Ren.put_same] at h1
     obtain rfl := Option.some.inj h1
     rw [Ren.put_other _ _ _ e2] at h2
     rw [CH.new_get,if_neg (Ne.symm e2)] at h4
     exact hdead b2 i2 k2 h2 h4 h6 h7.symm
   ·by_cases e2 : b2 = H.next
    ·exfalso
     subst e2
     rw [Ren.put_same] at h2
     obtain rfl := Option.some.inj h2
     rw [Ren.put_other _ _ _ e1] at h1
     rw [CH.new_get,if_neg (Ne.symm e1)] at h3
     exact hdead b1 i1 k1 h1 h3 h5 h7
    ·rw [Ren.put_other _ _ _ e1] at h1
     rw [Ren.put_other _ _ _ e2] at h2
     rw [CH.new_get,if_neg (Ne.symm e1)] at h3
     rw [CH.new_get,if_neg (Ne.symm e2)] at h4
     exact hkill.hr.inj b1 b2 i1 i2 k1 k2 h1 h2 h3 h4 h5 h6 hor h7
 ·intro n _ hi
  exact hNo n fun e => hi ⟨b,i,k',hb,hk',hd,hw,e.symm⟩
 ·rintro n hn2 ⟨b2,i2,k2,h1,h2,h3,h4,rfl⟩
  by_cases e : b2 = H.next
  ·subst e
   rw [Ren.put_same] at h1
   obtain rfl := Option.some.inj h1
   exact ⟨b,i,k',hb,hk',hd,hw,rfl⟩
  ·rw [Ren.put_other _ _ _ e] at h1
   rw [CH.new_get,if_neg (Ne.symm e)] at h2
   exact hkill.im _ hn2 ⟨b2,i2,k2,h1,h2,h3,h4,rfl⟩
 ·intro n c2 t fz h
  by_cases e : n = i.to
  ·subst e
   rw [hc] at h
   cases h
   exact ⟨N,hNh⟩
  ·exact ⟨c2,by rw [hNo n e]; exact h⟩
 ·intro b2 i2 h1 h2
  by_cases e : b2 = H.next
  ·omega
  ·rw [Ren.put_other _ _ _ e,h1] at h2; cases h2
 ·intro b2 hb2 hn2
  rw [CH.new_get,if_neg (Nat.ne_of_gt hb2)]
  exact hkill.cf b2 hb2 hn2
theorem run_cappend (hr : HR ρ H w) {ats : Array TypeId} {ty : TypeId} {args args' : Array Value} {v : Value} {H1 : CH} (h : cappend P H ats args = some (v,H1)) (ha : AR ρ args args') :
  ∃ ρ' w' v',(Builtin.append_ ats ty args').run P w = .ok v' w'∧Sim ρ ρ' H H1 w w'∧VR ρ' v v' := by
 unfold cappend at h
 split at h
 case h_2 => cases h
 rename_i st xt base len cap xa xl xc a1 a2 a3 a4
 split at h
 case h_2 => cases h
 rename_i e e2 u1 u2
 cases hi : P.info? e with
 | none => simp [hi] at h
 | some i =>
 cases hz : zeroOf P e with
 | none => simp [hi,hz] at h
 | some z =>
 simp only [hi,hz] at h
 cases hsz : i.size with
 | zero => simp [hsz] at h
 | succ s =>
 simp only [hsz] at h
 cases hsrc : srcCells H (s + 1) xl (.slice xa xl xc) with
 | none => simp [hsrc] at h
 | some new =>
 simp only [hsrc] at h
 cases hnl : Nat.beq new.length (xl * (s + 1)) with
 | false => simp [hnl] at h
 | true =>
 simp only [hnl,cond_true] at h
 have ln : new.length = xl * (s + 1) := of_beqT hnl
 obtain ⟨y1,b3,hv1⟩ := ha.get a3
 obtain ⟨y2,b4,hv2⟩ := ha.get a4
 obtain ⟨xa',xc',rfl,_⟩ := hv2.slice_inv
 have hfirst : ∀ W : World,W.heap = w.heap→∃ l',(Builtin.firstCells i.size xl (.slice xa' xl xc')).run P W = .ok l'.toArray W∧LR ρ new l' := fun W hW => by
  obtain ⟨l',h1,h2⟩ := run_firstCells (P := P) (hr.of_heap hW) hsrc hv2 (fun a m c hm => by cases hm; exact Nat.le_refl _)
  exact ⟨l',by rw [hsz]; exact h1,h2⟩
 cases hroom : Nat.ble (len + xl) cap with
 | true =>
  have hroom' : len + xl ≤ cap := Nat.le_of_ble_eq_true hroom
  simp only [hroom,cond_true] at h
  obtain ⟨base',cap',rfl,hcc⟩ := hv1.slice_inv
  obtain ⟨new',hnew,hln⟩ := hfirst w rfl
  have hA := append_room (ty := ty) a1 a2 b3 b4 u1 u2 hi hnew (Nat.le_trans hroom' hcc)
  cases base with
  | none =>
   simp only at h
   cases hz0 : Nat.beq (len + xl) 0 with
   | false => simp [hz0] at h
   | true =>
    simp only [hz0,cond_true,Option.some.injEq,Prod.mk.injEq] at h
    obtain ⟨rfl,rfl⟩ := h
    cases hv1
    have := of_beqT hz0
    refine ⟨ρ,w,_,hA,Sim.refl hr,?_⟩
    rw [this]; exact .sl0 _ _
  | some a =>
   simp only at h
   split at h
   ·simp only [Option.some.injEq,Prod.mk.injEq] at h
    obtain ⟨rfl,rfl⟩ := h
    have hn0 : new' = [] := by
     have := hln.length
     rw [ln] at this
     simp at this
     exact List.length_eq_zero_iff.1 this.symm
    subst hn0
    refine ⟨ρ,w,_,?_,Sim.refl hr,hv1⟩
    rw [hA]
    cases base' <;> rfl
   ·rename_i n hsp
    cases hst : H.storeA a.block (a.off + len * (s + 1)) new with
    | none => simp [hst] at h
    | some H2 =>
     simp only [hst,Option.some.injEq,Prod.mk.injEq] at h
     obtain ⟨rfl,rfl⟩ := h
     have fin : ∀ {b off : Nat} {bi : BI},a = ⟨b,off,none⟩→ρ b = some bi→base' = some ⟨bi.to,off + bi.sh,none⟩→VR ρ (.slice (some a) (len + (n + 1)) cap) (.slice base' (len + (n + 1)) cap') →
       ∃ ρ' w' v',(Builtin.append_ ats ty args').run P w = .ok v' w'∧Sim ρ ρ' H H2 w w'∧VR ρ' (.slice (some a) (len + (n + 1)) cap) v' := by
      rintro b off bi rfl hb rfl hv
      obtain ⟨w',h1,h2⟩ := hr.storeL P hb (CH.of_storeA hst) hln
      refine ⟨ρ,w',_,?_,h2,hv⟩
      rw [hA,hsz]
      simp only [add_addr]
      rw [show off + bi.sh + len * (s + 1) = off + len * (s + 1) + bi.sh by omega,h1]
      rfl
     cases hv1 with
     | sl _ _ hb => exact fin rfl hb rfl (.sl _ _ hb)
     | slU _ _ c' hb g1 g2 g3 g4 => exact fin rfl hb rfl (.slU _ _ _ hb g1 g2 g3 g4)
     | slE c' hb => exfalso; omega
     | slW a hb => exfalso; omega
   ·cases h
 | false =>
  have hroom' : ¬ len + xl ≤ cap := fun hle => by rw [Nat.ble_eq_true_of_le hle] at hroom; cases hroom
  simp only [hroom,cond_false] at h
  cases hb : (Nat.ble ((2 * (len + xl) + 1000) * i.bytes) 281474976710656 && Nat.beq z.cells.size (s + 1) && Nat.ble (len + xl) 1152921504606846976) with
  | false => simp [hb] at h
  | true =>
  simp only [hb,cond_true] at h
  simp only [Bool.and_eq_true] at hb
  obtain ⟨⟨hb1,hb2⟩,hb3⟩ := hb
  have hb1' := Nat.le_of_ble_eq_true hb1
  have hb2' := of_beqT hb2
  have hb3' := Nat.le_of_ble_eq_true hb3
  obtain ⟨new',hnew,hln⟩ := hfirst w.drew rfl
  cases base with
  | none =>
   simp only at h
   cases hl0 : Nat.beq len 0 with
   | false => simp [hl0] at h
   | true =>
    simp only [hl0,cond_true,Option.some.injEq,Prod.mk.injEq] at h
    obtain ⟨rfl,rfl⟩ := h
    obtain rfl := of_beqT hl0
    cases hv1
    obtain ⟨n,hn,hrun⟩ := append_grow (ty := ty) a1 a2 b3 b4 u1 u2 hi hz hnew (old := #[]) (by simp [Builtin.firstCells]) hroom' hb1' hb3'
    obtain ⟨ρ',hs,hv⟩ := hr.grow (freshRow e (s + 1) xl new) e s 0 xl n rfl hb2' (by simp [freshRow]) rfl .nil hln (by simp) ln (fun j hj => by
     have h1 : T.get (T.leaf : T Value) j = none := rfl
     simp only [Nat.zero_add] at hj
     simp [freshRow,Blk.get,M.get,h1,blt_iff.2 hj]) hn
    simp only [Nat.zero_add] at hv hs hrun
    exact ⟨ρ',_,_,hrun,hs,hv⟩
  | some a =>
   simp only at h
   split at h
   case h_2 => cases h
   rename_i k hsp hk
   obtain ⟨b,off,sp⟩ := a
   simp only at hsp
   subst hsp
   simp only at h hk
   cases hfb : fmBad k off cap with
   | true => simp [hfb] at h
   | false =>
   simp only [hfb,cond_false] at h
   cases hle : Nat.ble (off + len * (s + 1)) k.size with
   | false => simp [hle] at h
   | true =>
   have hle' := Nat.le_of_ble_eq_true hle
   simp only [hle,cond_true] at h
   obtain ⟨hg,hd⟩ := live_some hk
   have hbase : ∃ bi,ρ b = some bi := by
    cases hv1 with
    | sl _ _ hb => exact ⟨_,hb⟩
    | slU _ _ c' hb => exact ⟨_,hb⟩
    | slE c' hb => exact ⟨_,hb⟩
    | slW a hb => exact ⟨_,hb⟩
   obtain ⟨bi,hbi⟩ := hbase
   obtain ⟨old,hol,hoj⟩ := hr.list_some hbi hk (len * (s + 1)) off hle'
   have lo : old.length = len * (s + 1) := by
    have : k.list off (len * (s + 1)) = some old := by simpa [CH.list,hk] using hol
    exact (Blk.list_get this).1
   obtain ⟨base',cap',hy1,hcc⟩ := hv1.slice_inv
   subst hy1
   obtain ⟨old',hold,hlo⟩ := run_firstCells (P := P) (w := w.drew) (s := s + 1) (n := len) (hr.of_heap rfl) (x := .slice (some ⟨b,off,none⟩) len cap) (by simpa [srcCells] using hol) hv1 (fun a m c hm => by cases hm; exact Nat.le_refl _)
   have grow : ∀ {HH : CH},HR ρ HH w→Sim ρ ρ H HH w w→HH.next = H.next→(¬ len + xl ≤ cap') →
     ∃ ρ' w' v',(Builtin.append_ ats ty args').run P w = .ok v' w'∧Sim ρ ρ' H (HH.new (grownRow e (s + 1) k off len xl new)) w w'∧VR ρ' (.slice (some ⟨H.next,0,none⟩) (len + xl) (len + xl)) v' := by
    intro HH hHH hsim hnx hno
    obtain ⟨n,hn,hrun⟩ := append_grow (ty := ty) a1 a2 b3 b4 u1 u2 hi hz hnew (by rw [hsz]; exact hold) hno hb1' hb3'
    obtain ⟨ρ',hs,hv⟩ := hHH.grow (grownRow e (s + 1) k off len xl new) e s len xl n rfl hb2' rfl rfl hlo hln lo ln (fun j hj => grownRow_get lo hoj j hj) hn
    rw [hnx] at hv
    exact ⟨ρ',_,_,hrun,hsim.trans hs,hv⟩
   cases hop : (Nat.blt 0 k.es && Nat.beq (off + cap * k.es) k.size) with
   | false =>
    simp only [hop,cond_false,Option.some.injEq,Prod.mk.injEq] at h
    obtain ⟨rfl,rfl⟩ := h
    have hno : cap' = cap := by
     have contra : ∀ {bi : BI},ρ b = some bi→0 < bi.es→off + cap * bi.es = bi.cs→False := fun {bi} hb g1 g2 => by
      obtain ⟨s1,s2,_⟩ := hr.static hb hg
      rw [s2,s1] at hop
      rw [blt_iff.2 g1,beqT g2] at hop
      cases hop
     cases hv1 with
     | sl _ _ hb => rfl
     | slU _ _ c' hb g1 g2 g3 g4 => exact (contra hb g1 g2).elim
     | slE c' hb g1 g2 g3 => exact (contra hb g1 (by omega)).elim
     | slW a hb g1 => rfl
    exact grow hr (Sim.refl hr) rfl (by rw [hno]; exact hroom')
   | true =>
    simp only [hop,cond_true] at h
    cases hq : (Nat.beq k.es (s + 1) && k.wr && new.all isCell && Nat.beq k.elem e) with
    | false => simp [hq] at h
    | true =>
    simp only [hq,cond_true,Option.some.injEq,Prod.mk.injEq] at h
    obtain ⟨rfl,rfl⟩ := h
    simp only [Bool.and_eq_true] at hq
    obtain ⟨⟨⟨q1,q2⟩,q3⟩,q4⟩ := hq
    have q1' := of_beqT q1
    have q4' := of_beqT q4
    have hkill := hr.kill hbi hg
    by_cases hno : len + xl ≤ cap'
    ·
     obtain ⟨s1,s2,s3⟩ := hr.static hbi hg
     have hin : ∃ off',base' = some ⟨bi.to,off',none⟩∧(0 < len→off' = off + bi.sh)∧off' + cap' * bi.es ≤ bi.as := by
      cases hv1 with
      | sl _ _ hb => exact absurd hno hroom'
      | slU _ _ c' hb g1 g2 g3 g4 =>
       obtain rfl := Option.some.inj (hb.symm.trans hbi)
       exact ⟨_,rfl,fun _ => rfl,g4⟩
      | slE c' hb g1 g2 g3 =>
       obtain rfl := Option.some.inj (hb.symm.trans hbi)
       exact ⟨_,rfl,fun h => by omega,g3⟩
      | slW a hb g1 => exact absurd hno hroom'
     obtain ⟨off',rfl,ho1,ho2⟩ := hin
     obtain ⟨new2,hnew2,hln2⟩ := hfirst w rfl
     have hA := append_room (ty := ty) a1 a2 b3 b4 u1 u2 hi hnew2 hno
     have hfit : off' + (len + xl) * (s + 1) ≤ bi.as := by
      have : (len + xl) * (s + 1) ≤ cap' * (s + 1) := Nat.mul_le_mul_right _ hno
      have e3 : bi.es = s + 1 := by omega
      rw [e3] at ho2
      omega
     obtain ⟨w',h1,h2⟩ := hr.inplace P (off' := off') hbi hk q2 s len xl ho1 hln2 ln q3 hfit hle'
     subst q4'
     refine ⟨_,w',.slice (some ⟨bi.to,off',none⟩) (len + xl) cap',?_,h2,?_⟩
     ·rw [hA,hsz]
      simp only
      rw [h1]
      rfl
     ·have e3 : bi.es = s + 1 := by omega
      rw [e3] at ho2
      have := VR.slU (ρ := ρ.put H.next ⟨bi.to,off',(len + xl) * (s + 1),bi.as,s + 1⟩) (b := H.next) (off := 0) (i := ⟨bi.to,off',(len + xl) * (s + 1),bi.as,s + 1⟩) (len + xl) (len + xl) cap' (Ren.put_same _ _ _) (by simp) (by simp) hno (by simpa using ho2)
      simpa using this
    ·exact grow hkill.hr hkill rfl hno
end Go.CM

namespace Go.CM
open Go
variable {P : Program} {ρ : Ren} {H : CH} {w : World}
theorem CH.list_length {b off n : Nat} {l : List Value} (h : H.list b off n = some l) : l.length = n := by
 unfold CH.list at h
 split at h
 ·exact (Blk.list_get h).1
 ·cases h
theorem srcCells_nil {s : Nat} {x : Value} {l : List Value} (h : srcCells H s 0 x = some l) : l = [] := by
 unfold srcCells at h
 split at h
 ·split at h
  ·have := CH.list_length h
   rw [Nat.zero_mul] at this
   exact List.length_eq_zero_iff.1 this
  ·cases h
 ·simp at h; exact h
 ·cases h
theorem run_ccopy (hr : HR ρ H w) {ats : Array TypeId} {ty : TypeId} {args args' : Array Value} {v : Value} {H1 : CH} (h : ccopy P H ats args = some (v,H1)) (ha : AR ρ args args') :
  ∃ ρ' w' v',(Builtin.copy_ ats ty args').run P w = .ok v' w'∧Sim ρ ρ' H H1 w w'∧VR ρ' v v' := by
 unfold ccopy at h
 split at h
 case h_2 => cases h
 rename_i dt base dl dc xa xl xc a1 a3 a4
 split at h
 case h_2 => cases h
 rename_i e u1
 cases hs : szOf P e with
 | none => simp [hs] at h
 | some s =>
 simp only [hs,Option.getD_some] at h
 cases hsrc : srcCells H s (Nat.min xl dl) (.slice xa xl xc) with
 | none => simp [hsrc] at h
 | some cs =>
 simp only [hsrc] at h
 obtain ⟨y1,b3,hv1⟩ := ha.get a3
 obtain ⟨y2,b4,hv2⟩ := ha.get a4
 obtain ⟨xa',xc',rfl,_⟩ := hv2.slice_inv
 obtain ⟨base',cap',hy1,_⟩ := hv1.slice_inv
 subst hy1
 obtain ⟨l',hnew,hln⟩ := run_firstCells (P := P) hr hsrc hv2 (fun a m c hm => by cases hm; exact Nat.min_le_left _ _)
 have hA : (Builtin.copy_ ats ty args').run P w = (match base' with
   | some a => (storeCells a l').run P w
   | none => .ok () w).andThen fun _ w => .ok (.int .i64 (Nat.min xl dl : Nat)) w := by
  simp only [Builtin.copy_,a1,b3,b4,Sem.run_bind,run_underlying u1,Result.andThen_ok,Builtin.lenOf,Sem.run_pure,run_szOf hs,hnew]
  cases base' <;> simp [goInt]
 cases base with
 | none =>
  simp only [Option.some.injEq,Prod.mk.injEq] at h
  obtain ⟨rfl,rfl⟩ := h
  cases hv1
  exact ⟨ρ,w,_,hA,Sim.refl hr,.int _ _⟩
 | some a =>
  simp only at h
  split at h
  case h_2 => cases h
  rename_i H2 hsp hst
  simp only [Option.some.injEq,Prod.mk.injEq] at h
  obtain ⟨rfl,rfl⟩ := h
  obtain ⟨b,off,sp⟩ := a
  simp only at hsp
  subst hsp
  simp only at hst
  have fin : ∀ {bi : BI},ρ b = some bi→base' = some ⟨bi.to,off + bi.sh,none⟩→∃ ρ' w' v',(Builtin.copy_ ats ty args').run P w = .ok v' w'∧Sim ρ ρ' H H2 w w'∧VR ρ' (.int .i64 (Nat.min xl dl : Nat)) v' := by
   rintro bi hb rfl
   obtain ⟨w',h1,h2⟩ := hr.storeL P hb hst hln
   refine ⟨ρ,w',_,?_,h2,.int _ _⟩
   rw [hA]
   simp only [h1]
   rfl
  cases hv1 with
  | sl _ _ hb => exact fin hb rfl
  | slU _ _ c' hb g1 g2 g3 g4 => exact fin hb rfl
  | slE c' hb =>
   rw [show Nat.min xl 0 = 0 from Nat.min_zero xl] at hsrc
   obtain rfl := srcCells_nil hsrc
   cases hln
   obtain ⟨w',h1,h2⟩ := hr.storeL P hb hst .nil
   have hw : w' = w := by
    simp [storeCells] at h1
    exact h1.symm
   subst hw
   exact ⟨ρ,w',_,by rw [hA]; rfl,h2,.int _ _⟩
  | slW a hb =>
   rw [show Nat.min xl 0 = 0 from Nat.min_zero xl] at hsrc
   obtain rfl := srcCells_nil hsrc
   cases hln
   obtain ⟨w',h1,h2⟩ := hr.storeL P hb hst .nil
   have hw : w' = w := by
    simp [storeCells] at h1
    exact h1.symm
   subst hw
   exact ⟨ρ,w',_,by rw [hA]; rfl,h2,.int _ _⟩
theorem zeroCells_one {z : Array Value} (h : z.size = 1) (n : Nat) : (Builtin.zeroCells z n).toList = List.replicate n z[0]! := by
 apply List.ext_getElem
 ·simp [Builtin.zeroCells,h]
 ·intro i h1 h2
  simp [Builtin.zeroCells,h,Nat.mod_one]
theorem LR.replicate {x y : Value} (h : VR ρ x y) : ∀ n,LR ρ (List.replicate n x) (List.replicate n y)
 | 0 => .nil
 | n + 1 => .cons h (LR.replicate h n)
theorem run_cclear (hr : HR ρ H w) {ats : Array TypeId} {ty : TypeId} {args args' : Array Value} {v : Value} {H1 : CH} (h : cclear P H ats args = some (v,H1)) (ha : AR ρ args args') :
  ∃ ρ' w' v',(Builtin.clear_ ats ty args').run P w = .ok v' w'∧Sim ρ ρ' H H1 w w'∧VR ρ' v v' := by
 unfold cclear at h
 split at h
 case h_2 => cases h
 rename_i t base n c a1 a3
 split at h
 case h_2 => cases h
 rename_i e u1
 cases hz : zeroOf P e with
 | none => simp [hz] at h
 | some z =>
 simp only [hz] at h
 cases hone : Nat.beq z.cells.size 1 with
 | false => rw [hone] at h; cases h
 | true =>
 rw [hone] at h
 simp only [cond_true] at h
 have hsz : z.cells.size = 1 := Nat.eq_of_beq_eq_true hone
 obtain ⟨y1,b3,hv1⟩ := ha.get a3
 have vt : VR ρ (.tuple #[]) (.tuple #[]) := .tuple rfl (fun i x y hx => by simp at hx)
 have none0 : ∀ {b : Option Addr} {cc : Nat},y1 = .slice b 0 cc→(Builtin.clear_ ats ty args').run P w = .ok (.tuple #[]) w := by
  rintro b cc rfl
  simp only [Builtin.clear_,a1,b3,Sem.run_bind,run_underlying u1,Result.andThen_ok]
  cases b <;> rfl
 cases base with
 | none =>
  simp only [Option.some.injEq,Prod.mk.injEq] at h
  obtain ⟨rfl,rfl⟩ := h
  cases hv1
  refine ⟨ρ,w,_,?_,Sim.refl hr,vt⟩
  simp only [Builtin.clear_,a1,b3,Sem.run_bind,run_underlying u1,Result.andThen_ok]
  rfl
 | some a =>
  simp only at h
  split at h
  case h_2 => cases h
  rename_i H2 hsp hst
  simp only [Option.some.injEq,Prod.mk.injEq] at h
  obtain ⟨rfl,rfl⟩ := h
  obtain ⟨b,off,sp⟩ := a
  simp only at hsp
  subst hsp
  simp only at hst
  have hzr : VR ρ z.cells[0]! z.cells[0]! := by
   have h0 : z.cells[0]? = some z.cells[0]! := by
    rw [getElem!_pos z.cells 0 (by omega)]
    exact Array.getElem?_eq_getElem (by omega)
   exact (zeroOf_pure hz ρ).cells.2 0 _ _ h0 h0
  have fin : ∀ {bi : BI} {cc : Nat},ρ b = some bi→y1 = .slice (some ⟨bi.to,off + bi.sh,none⟩) n cc→∃ ρ' w' v',(Builtin.clear_ ats ty args').run P w = .ok v' w'∧Sim ρ ρ' H H2 w w'∧VR ρ' (.tuple #[]) v' := by
   rintro bi cc hb rfl
   obtain ⟨w',h1,h2⟩ := hr.storeL P hb hst (LR.replicate hzr n)
   cases n with
   | zero =>
    have hw : w' = w := by
     simp [storeCells] at h1
     exact h1.symm
    subst hw
    exact ⟨ρ,w',_,none0 rfl,h2,vt⟩
   | succ n =>
    refine ⟨ρ,w',_,?_,h2,vt⟩
    simp only [Builtin.clear_,a1,b3,Sem.run_bind,run_underlying u1,Result.andThen_ok,run_zeroOf hz,zeroCells_one hsz,h1]
    rfl
  have zer : ∀ {bi : BI} {cc : Nat} {aa : Addr},ρ b = some bi→n = 0→y1 = .slice (some aa) 0 cc→∃ ρ' w' v',(Builtin.clear_ ats ty args').run P w = .ok v' w'∧Sim ρ ρ' H H2 w w'∧VR ρ' (.tuple #[]) v' := by
   rintro bi cc aa hb rfl e
   obtain ⟨w',h1,h2⟩ := hr.storeL P hb hst .nil
   have hw : w' = w := by
    simp [storeCells] at h1
    exact h1.symm
   subst hw
   exact ⟨ρ,w',_,none0 e,h2,vt⟩
  cases hv1 with
  | sl _ _ hb => exact fin hb rfl
  | slU _ _ c' hb g1 g2 g3 g4 => exact fin hb rfl
  | slE c' hb => exact zer hb rfl rfl
  | slW a hb => exact zer hb rfl rfl
theorem run_clen {ats : Array TypeId} {ty : TypeId} {args args' : Array Value} {v : Value} (h : clen P ats args = some v) (ha : AR ρ args args') (w : World) :
  (Builtin.len_ ats ty args').run P w = .ok v w∧VR ρ v v := by
 unfold clen at h
 split at h
 case h_2 => cases h
 rename_i t x a1 a3
 obtain ⟨y,b3,hv⟩ := ha.get a3
 split at h
 ·rename_i s hu
  cases hv
  simp only [Option.some.injEq] at h; subst h
  exact ⟨by simp [Builtin.len_,a1,b3,run_underlying hu,goInt],.int _ _⟩
 ·rename_i n e hu
  simp only [Option.some.injEq] at h; subst h
  refine ⟨?_,.int _ _⟩
  simp only [Builtin.len_,a1,b3,Sem.run_bind,run_underlying hu,Result.andThen_ok]
  rfl
 ·rename_i e a n c hu
  obtain ⟨a',c',rfl,_⟩ := hv.slice_inv
  simp only [Option.some.injEq] at h; subst h
  exact ⟨by simp [Builtin.len_,a1,b3,run_underlying hu,goInt],.int _ _⟩
 ·cases h
theorem run_cminmax {args args' : Array Value} {v : Value} {mx : Bool} {ats : Array TypeId} {ty : TypeId} (h : cminmax mx args.toList = some v) (ha : AR ρ args args') (w : World) :
  (cond mx (Builtin.max_ ats ty args') (Builtin.min_ ats ty args')).run P w = .ok v w∧VR ρ v v := by
 have hl := ha.toL
 unfold cminmax at h
 split at h
 ·rename_i k x k' y he
  rw [he] at hl
  generalize he' : args'.toList = l' at hl
  cases hl with
  | @cons _ _ _ t' h1 h2 =>
  cases h2 with
  | @cons _ _ _ t'' h3 h4 =>
  cases h4
  cases h1; cases h3
  split at h
  ·rename_i hk; subst hk
   simp only [Option.some.injEq] at h; subst h
   refine ⟨?_,.int _ _⟩
   cases mx <;> simp [Builtin.max_,Builtin.min_,he',Builtin.max2,Builtin.min2]
  ·cases h
 ·cases h
theorem run_cmethod {t : TypeId} {v rc : Value} {name : String} {f : FuncId} (h : cmethod P t v name = some (f,rc)) (y : Value) (w : World) (n : Nat) :
  rc = v∧(method (n + 1) t y name).run P w = .ok (f,y) w := by
 unfold cmethod at h
 cases hi : P.info? t with
 | none => simp [hi] at h
 | some i =>
  simp only [hi] at h
  cases hf : i.methods.find? (·.name == name) with
  | none => simp [hf] at h
  | some m =>
   simp only [hf] at h
   split at h
   ·rename_i g e hp hm hu
    simp only [Option.some.injEq,Prod.mk.injEq] at h
    obtain ⟨rfl,rfl⟩ := h
    refine ⟨rfl,?_⟩
    simp only [method,Sem.run_bind,run_typeInfo w hi,Result.andThen_ok,hf,hp,follow,Sem.run_pure,hm]
    simp only [receiverAt,Sem.run_bind,run_underlying hu,Result.andThen_ok,Place.get,Sem.run_pure]
   ·cases h
theorem methOk_some {α : Type} {name : String} {l : List Value} {k : Option α} {r : α} (h : methOk P name l k = some r) : k = some r∧∃ t v f rc,l = [.iface t v]∧cmethod P t v name = some (f,rc) := by
 unfold methOk at h
 split at h
 ·rename_i t v
  split at h
  ·rename_i q hq
   exact ⟨h,t,v,q.1,q.2,rfl,hq⟩
  ·cases h
 ·cases h
theorem run_nilAhead {t : TypeId} {v rc : Value} {name : String} {f : FuncId} (h : cmethod P t v name = some (f,rc)) (y : Value) (w : World) (n : Nat) :
  (nilAhead (n + 1) t y name).run P w = .ok (some false) w := by
 unfold cmethod at h
 cases hi : P.info? t with
 | none => simp [hi] at h
 | some i =>
  simp only [hi] at h
  cases hf : i.methods.find? (·.name == name) with
  | none => simp [hf] at h
  | some m =>
   simp only [hf] at h
   split at h
   ·rename_i g e hp hm hu
    simp only [nilAhead,Sem.run_bind,run_typeInfo w hi,Result.andThen_ok,hf,hp,followBlind,Sem.run_pure,hm]
   ·cases h
def OpR (P : Program) (ρ : Ren) (H : CH) (w : World) (r : Result Next) (H' : CH) : CN→Prop
 | .val v => ∃ ρ' w' v',Sim ρ ρ' H H' w w'∧VR ρ' v v'∧(r = .ok (.value v') w' ∨ (r = .ok .skip w'∧v' = Go.undef))
 | .enter f args => H' = H∧∃ args',AR ρ args args'∧r = (callFunc f args').run P w
theorem AR.map {e e' : Operand→Value} {xs : Array Operand} (he : ∀ x ∈ xs,VR ρ (e x) (e' x)) : AR ρ (xs.map e) (xs.map e') :=
 ⟨by simp,fun i a b ha hb => by
  simp only [Array.getElem?_map] at ha hb
  cases hx : xs[i]? with
  | none => simp [hx] at ha
  | some x =>
   simp [hx] at ha hb
   subst ha; subst hb
   exact he x (Array.mem_of_getElem? hx)⟩
theorem call_builtin (e' : Operand→Value) (b : Builtin) (c : Call) (hc : c.callee = .builtin b) (o : Oper) (ho : o.op = .call c) :
  execOp e' o = builtin b c.argTypes o.type (c.args.map fun | .const _ => true | _ => false) (c.args.map e') := by
 unfold execOp
 rw [ho]
 simp only [resolve,hc]
 rfl
theorem run_ccall (hr : HR ρ H w) {e e' : Operand→Value} {o : Oper} {c : Call} (ho : o.op = .call c) (he : ∀ x ∈ c.operands,VR ρ (e x) (e' x)) {cn : CN} {H1 : CH} (h : ccall P e H c = some (cn,H1)) :
  OpR P ρ H w ((execOp e' o).run P w) H1 cn := by
 have hargs : AR ρ (c.args.map e) (c.args.map e') := AR.map fun x hx => he x (by simp [Call.operands,hx])
 unfold ccall at h
 split at h
 ·rename_i hc
  cases hh : cappend P H c.argTypes (c.args.map e) with
  | none => simp [hh] at h
  | some r =>
   obtain ⟨v,H2⟩ := r
   simp only [hh,Option.map_some,Option.some.injEq,Prod.mk.injEq] at h
   obtain ⟨rfl,rfl⟩ := h
   obtain ⟨ρ',w',v',h1,h2,h3⟩ := run_cappend hr (ty := o.type) hh hargs
   exact ⟨ρ',w',v',h2,h3,.inl (by rw [call_builtin e' _ c hc o ho]; simp [builtin,h1])⟩
 ·rename_i hc
  cases hh : ccopy P H c.argTypes (c.args.map e) with
  | none => simp [hh] at h
  | some r =>
   obtain ⟨v,H2⟩ := r
   simp only [hh,Option.map_some,Option.some.injEq,Prod.mk.injEq] at h
   obtain ⟨rfl,rfl⟩ := h
   obtain ⟨ρ',w',v',h1,h2,h3⟩ := run_ccopy hr (ty := o.type) hh hargs
   exact ⟨ρ',w',v',h2,h3,.inl (by rw [call_builtin e' _ c hc o ho]; simp [builtin,h1])⟩
 ·rename_i hc
  cases hh : cclear P H c.argTypes (c.args.map e) with
  | none => simp [hh] at h
  | some r =>
   obtain ⟨v,H2⟩ := r
   simp only [hh,Option.map_some,Option.some.injEq,Prod.mk.injEq] at h
   obtain ⟨rfl,rfl⟩ := h
   obtain ⟨ρ',w',v',h1,h2,h3⟩ := run_cclear hr (ty := o.type) hh hargs
   exact ⟨ρ',w',v',h2,h3,.inl (by rw [call_builtin e' _ c hc o ho]; simp [builtin,h1])⟩
 ·rename_i hc
  cases hh : clen P c.argTypes (c.args.map e) with
  | none => simp [hh] at h
  | some v =>
   simp only [hh,Option.map_some,Option.some.injEq,Prod.mk.injEq] at h
   obtain ⟨rfl,rfl⟩ := h
   obtain ⟨h1,h2⟩ := run_clen (ty := o.type) hh hargs w
   exact ⟨ρ,w,v,Sim.refl hr,h2,.inl (by rw [call_builtin e' _ c hc o ho]; simp [builtin,h1])⟩
 ·rename_i hc
  cases hh : cminmax false (c.args.map e).toList with
  | none => rw [hh] at h; cases h
  | some v =>
   simp only [hh,Option.map_some,Option.some.injEq,Prod.mk.injEq] at h
   obtain ⟨rfl,rfl⟩ := h
   obtain ⟨h1,h2⟩ := run_cminmax (P := P) (ats := c.argTypes) (ty := o.type) hh hargs w
   exact ⟨ρ,w,v,Sim.refl hr,h2,.inl (by rw [call_builtin e' _ c hc o ho]; simp only [cond_false] at h1; simp [builtin,h1])⟩
 ·rename_i hc
  cases hh : cminmax true (c.args.map e).toList with
  | none => rw [hh] at h; cases h
  | some v =>
   simp only [hh,Option.map_some,Option.some.injEq,Prod.mk.injEq] at h
   obtain ⟨rfl,rfl⟩ := h
   obtain ⟨h1,h2⟩ := run_cminmax (P := P) (ats := c.argTypes) (ty := o.type) hh hargs w
   exact ⟨ρ,w,v,Sim.refl hr,h2,.inl (by rw [call_builtin e' _ c hc o ho]; simp only [cond_true] at h1; simp [builtin,h1])⟩
 ·cases h
 ·rename_i r name hc
  have hrv := he r (by simp [Call.operands,hc])
  split at h
  ·rename_i t v hev
   rw [hev] at hrv
   cases hm : cmethod P t v name with
   | none => simp [hm] at h
   | some fr =>
    obtain ⟨f,rc⟩ := fr
    simp only [hm] at h
    unfold ccallF at h
    cases hf : P.funcs[f]? with
    | none => simp [hf] at h
    | some fn =>
     simp only [hf] at h
     cases hb : fn.body.isSome with
     | false => simp [hb] at h
     | true =>
      simp only [hb,cond_true,Option.map_some,Option.some.injEq,Prod.mk.injEq] at h
      obtain ⟨rfl,rfl⟩ := h
      cases hev' : e' r with
      | iface t' v' =>
       rw [hev'] at hrv
       cases hrv with
       | iface _ hvv =>
       have hmm := fun n => run_cmethod hm v' w n
       refine ⟨rfl,#[v']++c.args.map e',AR.append ?_ hargs,?_⟩
       ·rw [(hmm 0).1]; exact (LR.cons hvv .nil).toA
       ·unfold execOp
        rw [ho]
        simp only [resolve,hc,Sem.run_bind,Sem.run_pure,Result.andThen_ok]
        have x1 : (#[Value.iface t v']++Array.map e' c.args)[0]? = some (.iface t v') := by
         rw [Array.getElem?_append_left (by simp)]; rfl
        have x2 : (#[Value.iface t v']++Array.map e' c.args).extract 1 (#[Value.iface t v']++Array.map e' c.args).size = Array.map e' c.args := by
         apply Array.ext'
         simp
         rw [List.take_of_length_le (by simp)]
        rw [hev']
        simp only [invoke,x1,x2,callMethod,Sem.run_bind,run_program,Result.andThen_ok]
        rw [show P.types.size + Made.depth = (P.types.size + 99) + 1 from rfl,(hmm _).2]
        rfl
      | _ => rw [hev'] at hrv; cases hrv
  ·cases h
 ·rename_i f hc
  have hrv := he f (by simp [Call.operands,hc])
  split at h
  ·rename_i g first captured hev
   rw [hev] at hrv
   unfold ccallF at h
   cases hf : P.funcs[g]? with
   | none => simp [hf] at h
   | some fn =>
    simp only [hf] at h
    cases hb : fn.body.isSome with
    | false => simp [hb] at h
    | true =>
     simp only [hb,cond_true,Option.map_some,Option.some.injEq,Prod.mk.injEq] at h
     obtain ⟨rfl,rfl⟩ := h
     cases hev' : e' f with
     | func fn' f' c' =>
      rw [hev'] at hrv
      cases hrv with
      | func _ g1 g2 g3 g4 =>
      refine ⟨rfl,(f'++c.args.map e')++c',AR.append (AR.append ⟨g1,g2⟩ hargs) ⟨g3,g4⟩,?_⟩
      unfold execOp
      rw [ho]
      simp only [resolve,hc,hev',Deferred.ofValue,Sem.run_bind,Sem.run_pure,Result.andThen_ok,invoke]
     | _ => rw [hev'] at hrv; cases hrv
  ·cases h
end Go.CM

namespace Go.CM
open Go
variable {P : Program} {ρ : Ren} {H : CH} {w : World}
theorem PR.map {e e' : Operand→Value} : ∀ (ps : List (Nat × Operand)),(∀ x ∈ ps.map (·.2),VR ρ (e x) (e' x))→PR ρ (ps.map fun (i,x) => (i,e x)) (ps.map fun (i,x) => (i,e' x))
 | [],_ => .nil
 | (i,x)::r,h => .cons (h x (by simp)) (PR.map r fun y hy => h y (by simp at hy ⊢; exact .inr hy))
theorem OR.map {e e' : Operand→Value} {x : Option Operand} (h : ∀ y ∈ x.toArray,VR ρ (e y) (e' y)) : OR ρ (x.map e) (x.map e') := by
 cases x with
 | none => exact .none
 | some y => exact .some (h y (by simp))
theorem OpR.val (hr : HR ρ H w) {e' : Operand→Value} {o : Oper} {v v' : Value} (hv : VR ρ v v') (h : (execOp e' o).run P w = .ok (.value v') w) :
  OpR P ρ H w ((execOp e' o).run P w) H (.val v) := ⟨ρ,w,v',Sim.refl hr,hv,.inl h⟩
theorem map_val {x : Option Value} {cn : CN} {H1 : CH} (h : x.map (fun x => (CN.val x,H)) = some (cn,H1)) : ∃ v,x = some v∧cn = .val v∧H1 = H := by
 cases x with
 | none => cases h
 | some v => simp at h; exact ⟨v,rfl,h.1.symm,h.2.symm⟩
theorem map_vh {x : Option (Value × CH)} {cn : CN} {H1 : CH} (h : x.map (fun x => (CN.val x.1,x.2)) = some (cn,H1)) : ∃ v,x = some (v,H1)∧cn = .val v := by
 cases x with
 | none => cases h
 | some v => obtain ⟨v,H2⟩ := v; simp at h; obtain ⟨rfl,rfl⟩ := h; exact ⟨v,rfl,rfl⟩
theorem map_u {x : Option CH} {cn : CN} {H1 : CH} (h : x.map (fun x => (CN.val undV,x)) = some (cn,H1)) : x = some H1∧cn = .val undV := by
 cases x with
 | none => cases h
 | some v => simp at h; obtain ⟨rfl,rfl⟩ := h; exact ⟨rfl,rfl⟩
theorem cop_sim (hr : HR ρ H w) {e e' : Operand→Value} {o : Oper} (he : ∀ x ∈ o.op.operands,VR ρ (e x) (e' x)) {cn : CN} {H1 : CH} (h : cop P e H o.op = some (cn,H1)) :
  OpR P ρ H w ((execOp e' o).run P w) H1 cn := by
 obtain ⟨dst,op,type,pos,after,guard⟩ := o
 cases op with
 | move x =>
  simp only [cop,Option.some.injEq,Prod.mk.injEq] at h
  obtain ⟨rfl,rfl⟩ := h
  exact OpR.val hr (he x (by simp [Op.operands])) rfl
 | assign x =>
  simp only [cop,Option.some.injEq,Prod.mk.injEq] at h
  obtain ⟨rfl,rfl⟩ := h
  exact OpR.val hr (he x (by simp [Op.operands])) rfl
 | pick c a b =>
  have h1 := he c (by simp [Op.operands])
  have h2 := he a (by simp [Op.operands])
  have h3 := he b (by simp [Op.operands])
  simp only [cop] at h
  split at h
  ·rename_i t ht
   simp only [Option.some.injEq,Prod.mk.injEq] at h
   obtain ⟨rfl,rfl⟩ := h
   rw [ht] at h1
   generalize hc' : e' c = c' at h1
   cases h1
   cases t
   ·exact OpR.val hr h3 (by simp [execOp,hc',asBool])
   ·exact OpR.val hr h2 (by simp [execOp,hc',asBool])
  ·cases h
 | alloc elem =>
  have h' := map_vh h; clear h; obtain ⟨v,h,rfl⟩ := h'
  cases hz : zeroOf P elem with
  | none => simp [hz] at h
  | some z =>
   simp only [hz,Option.map_some,Option.some.injEq,Prod.mk.injEq] at h
   obtain ⟨rfl,rfl⟩ := h
   obtain ⟨ρ',hs,hb⟩ := hr.row elem (zeroOf_pure hz ρ).cells
   exact ⟨ρ',_,ptr w.heap.size 0,hs,.ptr hb,.inl (by simp [execOp,Instr.alloc,run_zeroOf hz,newVar,run_newRow,ptr])⟩
 | box elem x =>
  simp only [cop,Option.some.injEq,Prod.mk.injEq] at h
  obtain ⟨rfl,rfl⟩ := h
  obtain ⟨ρ',hs,hb⟩ := hr.row elem (he x (by simp [Op.operands])).cells
  exact ⟨ρ',_,ptr w.heap.size 0,hs,.ptr hb,.inl (by simp [execOp,Instr.box,newVar,run_newRow,ptr])⟩
 | build t parts =>
  have h' := map_val h; clear h; obtain ⟨v,h,rfl,rfl⟩ := h'
  have hp := PR.map (ρ := ρ) (e := e) (e' := e') parts.toList (fun x hx => he x (by simpa [Op.operands] using hx))
  rw [Array.toList_map] at h
  obtain ⟨v',h1,h2⟩ := run_cbuild h hp w
  exact OpR.val hr h2 (by
   have : (List.map (fun (i,x) => (i,e' x)) parts.toList).toArray = parts.map fun (i,x) => (i,e' x) := by
    apply Array.ext'; simp
   rw [this] at h1
   simp only [execOp,Sem.run_bind,h1,Result.andThen_ok]; rfl)
 | buildSlice t len parts =>
  have h' := map_vh h; clear h; obtain ⟨v,h,rfl⟩ := h'
  have hp := PR.map (ρ := ρ) (e := e) (e' := e') parts.toList (fun x hx => he x (by simpa [Op.operands] using hx))
  rw [Array.toList_map] at h
  obtain ⟨ρ',w',v',h1,h2,h3⟩ := run_cbuildSlice hr h hp
  refine ⟨ρ',w',v',h2,h3,.inl ?_⟩
  have : (List.map (fun (i,x) => (i,e' x)) parts.toList).toArray = parts.map fun (i,x) => (i,e' x) := by
   apply Array.ext'; simp
  rw [this] at h1
  simp only [execOp,Sem.run_bind,h1,Result.andThen_ok]; rfl
 | load t a =>
  have h1 := he a (by simp [Op.operands])
  simp only [cop] at h
  split at h
  ·rename_i ad ha
   split at h
   ·rename_i hsp
    have h' := map_val h; clear h; obtain ⟨v,h,rfl,rfl⟩ := h'
    rw [ha] at h1
    generalize hc' : e' a = c' at h1
    cases h1 with
    | ptr hb =>
    obtain ⟨y,hy,hv⟩ := hr.loadV (P := P) hb h
    exact OpR.val hr hv (by simp [execOp,hc',Instr.loadAt,Instr.sureAddr,hy])
   ·cases h
  ·cases h
 | store t a x =>
  have h1 := he a (by simp [Op.operands])
  have h2 := he x (by simp [Op.operands])
  simp only [cop] at h
  split at h
  ·rename_i ad ha
   split at h
   ·rename_i hsp
    have h' := map_u h; clear h; obtain ⟨h,rfl⟩ := h'
    rw [ha] at h1
    generalize hc' : e' a = c' at h1
    cases h1 with
    | ptr hb =>
    obtain ⟨w',hy,hv⟩ := hr.storeV hb h h2
    exact ⟨ρ,w',Go.undef,hv,VR.undef ρ,.inr ⟨by simp [execOp,hc',Instr.storeAt,Instr.sureAddr,hy],rfl⟩⟩
   ·cases h
  ·cases h
 | nilCheck x =>
  have h1 := he x (by simp [Op.operands])
  simp only [cop] at h
  split at h
  ·rename_i a ha
   simp only [Option.some.injEq,Prod.mk.injEq] at h
   obtain ⟨rfl,rfl⟩ := h
   rw [ha] at h1
   generalize hc' : e' x = c' at h1
   have h1' := h1
   cases h1 with
   | ptr hb => exact OpR.val hr h1' (by simp [execOp,hc'])
  ·rename_i f a b ha
   simp only [Option.some.injEq,Prod.mk.injEq] at h
   obtain ⟨rfl,rfl⟩ := h
   rw [ha] at h1
   generalize hc' : e' x = c' at h1
   have h1' := h1
   cases h1 with
   | func => exact OpR.val hr h1' (by simp [execOp,hc'])
  ·rename_i t v ha
   simp only [Option.some.injEq,Prod.mk.injEq] at h
   obtain ⟨rfl,rfl⟩ := h
   rw [ha] at h1
   generalize hc' : e' x = c' at h1
   have h1' := h1
   cases h1 with
   | iface => exact OpR.val hr h1' (by simp [execOp,hc'])
  ·rename_i name a b ha
   obtain ⟨h,t,v,f,rc,hl,hm⟩ := methOk_some h
   simp only [Option.some.injEq,Prod.mk.injEq] at h
   obtain ⟨rfl,rfl⟩ := h
   rw [ha] at h1
   generalize hc' : e' x = c' at h1
   have h1' := h1
   cases h1 with
   | @func _ _ a' _ b' hs1 hs2 hs3 hs4 =>
    have hL := AR.toL ⟨hs1,hs2⟩
    rw [hl] at hL
    generalize hl' : a'.toList = l' at hL
    cases hL with
    | cons g1 g2 =>
     cases g2
     cases g1 with
     | @iface _ _ v' hv' =>
      have hz : a'[0]? = some (.iface t v') := by rw [← Array.getElem?_toList,hl']; rfl
      refine OpR.val hr h1' ?_
      simp only [execOp,hc',hz,Sem.run_bind,run_program,Result.andThen_ok]
      rw [show P.types.size + Made.depth = (P.types.size + 99) + 1 from rfl,run_nilAhead hm]
      rfl
  ·cases h
 | binOp bop t x y yt =>
  have h1 := he x (by simp [Op.operands])
  have h2 := he y (by simp [Op.operands])
  simp only [cop] at h
  cases hg : guardOk P t x y (e x) (e y) with
  | false => simp [hg] at h
  | true =>
   simp only [hg,cond_true] at h
   have h' := map_val h; clear h; obtain ⟨v,h,rfl,rfl⟩ := h'
   obtain ⟨h3,h4⟩ := run_cbin hr h h1 h2
   exact OpR.val hr h4 (by simp [execOp,run_eqGuard hg h1 h2 w,h3])
 | unOp uop t x =>
  have h1 := he x (by simp [Op.operands])
  have h' := map_val h; clear h; obtain ⟨v,h,rfl,rfl⟩ := h'
  obtain ⟨h3,h4⟩ := run_cun (P := P) h h1 w
  exact OpR.val hr h4 (by simp [execOp,h3])
 | convert src d x =>
  have h1 := he x (by simp [Op.operands])
  have h' := map_val h; clear h; obtain ⟨v,h,rfl,rfl⟩ := h'
  obtain ⟨h3,h4⟩ := run_cconv h h1 w
  exact OpR.val hr h4 (by simp [execOp,h3])
 | makeInterface t x =>
  have h1 := he x (by simp [Op.operands])
  simp only [cop] at h
  split at h
  ·cases h
  ·rename_i d hni hu
   simp only [Option.some.injEq,Prod.mk.injEq] at h
   obtain ⟨rfl,rfl⟩ := h
   refine OpR.val hr (.iface t h1) ?_
   simp only [execOp,Instr.makeInterface,Sem.run_bind,run_underlying hu,Result.andThen_ok]
   cases d <;> first | rfl | exact (hni _ hu).elim
  ·cases h
 | makeFunc fn first captured =>
  cases fn with
  | func f =>
   simp only [cop,Option.some.injEq,Prod.mk.injEq] at h
   obtain ⟨rfl,rfl⟩ := h
   exact OpR.val hr (.funcA (.func f) (AR.map fun x hx => he x (by simp [Op.operands,hx])) (AR.map fun x hx => he x (by simp [Op.operands,hx]))) (by simp [execOp,Instr.makeFunc])
  | method f =>
   simp only [cop,Option.some.injEq,Prod.mk.injEq] at h
   obtain ⟨rfl,rfl⟩ := h
   exact OpR.val hr (.funcA (.method f) (AR.map fun x hx => he x (by simp [Op.operands,hx])) (AR.map fun x hx => he x (by simp [Op.operands,hx]))) (by simp [execOp,Instr.makeFunc])
  | _ => simp [cop] at h
 | makeSlice t l c =>
  have h' := map_vh h; clear h; obtain ⟨v,h,rfl⟩ := h'
  obtain ⟨ρ',w',v',h1,h2,h3⟩ := run_cmakeSlice hr h (he l (by simp [Op.operands])) (he c (by simp [Op.operands]))
  exact ⟨ρ',w',v',h2,h3,.inl (by simp [execOp,h1])⟩
 | slice t x lo hi mx =>
  have h' := map_val h; clear h; obtain ⟨v,h,rfl,rfl⟩ := h'
  obtain ⟨v',h1,h2⟩ := run_cslice hr h (he x (by simp [Op.operands])) (OR.map fun y hy => he y (by simp only [Op.operands,Array.mem_append]; exact .inl (.inl (.inr hy))))
   (OR.map fun y hy => he y (by simp only [Op.operands,Array.mem_append]; exact .inl (.inr hy))) (OR.map fun y hy => he y (by simp only [Op.operands,Array.mem_append]; exact .inr hy))
  exact OpR.val hr h2 (by simp [execOp,h1])
 | fieldAddr s x f =>
  have h' := map_val h; clear h; obtain ⟨v,h,rfl,rfl⟩ := h'
  obtain ⟨v',h1,h2⟩ := run_cfieldAt h (he x (by simp [Op.operands])) w
  exact OpR.val hr h2 (by simp [execOp,h1])
 | field t x f =>
  have h' := map_val h; clear h; obtain ⟨v,h,rfl,rfl⟩ := h'
  obtain ⟨v',h1,h2⟩ := run_cfield h (he x (by simp [Op.operands])) w
  exact OpR.val hr h2 (by simp [execOp,h1])
 | indexAddr t x ix =>
  have h' := map_val h; clear h; obtain ⟨v,h,rfl,rfl⟩ := h'
  obtain ⟨v',h1,h2⟩ := run_cindexAt h (he x (by simp [Op.operands])) (he ix (by simp [Op.operands])) w
  exact OpR.val hr h2 (by simp [execOp,h1])
 | index t x ix =>
  have h' := map_val h; clear h; obtain ⟨v,h,rfl,rfl⟩ := h'
  obtain ⟨v',h1,h2⟩ := run_cindex h (he x (by simp [Op.operands])) (he ix (by simp [Op.operands])) w
  exact OpR.val hr h2 (by simp [execOp,h1])
 | extract t ix =>
  have h1 := he t (by simp [Op.operands])
  simp only [cop] at h
  split at h
  ·rename_i vs hv
   cases hx : vs[ix]? with
   | none => simp [hx] at h
   | some x =>
    simp only [hx,Option.some.injEq,Prod.mk.injEq] at h
    obtain ⟨rfl,rfl⟩ := h
    rw [hv] at h1
    generalize hc' : e' t = c' at h1
    cases h1 with
    | tuple g1 g2 =>
    obtain ⟨y,hy,hvv⟩ := AR.get ⟨g1,g2⟩ hx
    exact OpR.val hr hvv (by simp [execOp,hc',Instr.extract,hy])
  ·cases h
 | call c =>
  exact run_ccall hr (o := ⟨dst,.call c,type,pos,after,guard⟩) rfl he h
 | _ => simp [cop] at h
end Go.CM

namespace Go.CM
open Go
variable {P : Program} {ρ : Ren} {H : CH} {w : World}
structure TR (ρ : Ren) (n : Nat) (a : TM) (b : Array Value) : Prop where
 size : n ≤ b.size
 get : ∀ t,VR ρ (aget a t) (b.getD t Go.undef)
theorem TR.mono {ρ ρ' : Ren} {n : Nat} {a : TM} {b : Array Value} (h : TR ρ n a b) (e : Ext ρ ρ') : TR ρ' n a b := ⟨h.size,fun t => (h.get t).mono e⟩
theorem aget_put {a : TM} {d : Nat} {v : Value} (hd : d < 1048575) (t : Nat) : aget (aput a (some d) v) t = if d = t then v else aget a t := by
 unfold aget aput M.get
 simp only [T.get_set v 20 a.own d t (by omega)]
 by_cases e : d = t <;> simp [e]
theorem getD_set (b : Array Value) (d t : Nat) (v u : Value) : (b.setIfInBounds d v).getD t u = if d = t∧d < b.size then v else b.getD t u := by
 simp only [Array.getD_eq_getD_getElem?,Array.getElem?_setIfInBounds]
 by_cases e : d = t
 ·subst e
  by_cases h : d < b.size
  ·simp [h]
  ·simp [h]
 ·simp [e]
theorem TR.put {n : Nat} {a : TM} {b : Act} {dst : Option Tmp} {v v' : Value} (h : TR ρ n a b.tmps) (hd : dstOk n dst = true) (hn : n < 1048576) (hv : VR ρ v v') : TR ρ n (aput a dst v) (b.put dst v').tmps := by
 cases dst with
 | none => exact h
 | some d =>
  have hdn : @LT.lt Nat _ d n := blt_iff.1 hd
  have hs := h.size
  refine ⟨by simpa [Act.put] using h.size,fun t => ?_⟩
  rw [aget_put (by omega)]
  simp only [Act.put,getD_set]
  by_cases e : d = t
  ·rw [if_pos e,if_pos ⟨e,by omega⟩]; exact hv
  ·rw [if_neg e,if_neg (fun h => e h.1)]; exact h.get t
theorem TR.eval {n : Nat} {a : TM} {b : Act} (h : TR ρ n a b.tmps) {x : Operand} (hx : operandOk n x = true) : VR ρ (aeval a x) (b.eval x) := by
 cases x with
 | tmp t => exact h.get t
 | const v => exact VR.of_pure ρ 100 v (by simpa [operandOk] using hx)
 | global g => simp [operandOk] at hx
 | func f => exact .funcA (.func f) .nil .nil
theorem yield_of {a : TM} {b : Array Value} (ops : Array Oper) (j : Nat) (h : ∀ d,(ops[j]?).bind (·.dst) = some d→VR ρ (aget a d) (b.getD d Go.undef)) : yieldC ops a j = yielded ops b j := by
 unfold yieldC yielded
 cases hd : (ops[j]?).bind (·.dst) with
 | none => rfl
 | some d =>
  simp only [Option.bind_some]
  have hg := h d hd
  unfold aget at hg
  cases ha : a.get d with
  | none =>
   simp only [ha] at hg
   cases hb : b[d]? with
   | none => rfl
   | some y =>
    have : b.getD d Go.undef = y := by simp [Array.getD_eq_getD_getElem?,hb]
    rw [this] at hg
    cases hg
    rfl
  | some x =>
   simp only [ha] at hg
   cases hb : b[d]? with
   | none =>
    have : b.getD d Go.undef = Go.undef := by simp [Array.getD_eq_getD_getElem?,hb]
    rw [this] at hg
    cases x <;> first | rfl | cases hg
   | some y =>
    have : b.getD d Go.undef = y := by simp [Array.getD_eq_getD_getElem?,hb]
    rw [this] at hg
    cases hg <;> rfl
theorem TR.yield {n : Nat} {a : TM} {b : Array Value} (h : TR ρ n a b) (ops : Array Oper) (j : Nat) : yieldC ops a j = yielded ops b j :=
 yield_of ops j fun d _ => h.get d
theorem TR.wanted {n : Nat} {a : TM} {b : Array Value} (h : TR ρ n a b) (ops : Array Oper) (o : Oper) : Region.wanted o (yieldC ops a) = Region.wanted o (yielded ops b) := by
 rw [show yieldC ops a = yielded ops b from funext fun j => h.yield ops j]
def CallOK (P : Program) (call : CallT) : Prop := ∀ f args H v H',call f args H = some (v,H') →
 (∃ fn, P.funcs[f]? = some fn ∧ fn.body.isSome = true ∧ (fn.name == "runtime.NumGoroutine") = false) ∧
 ∀ (ρ : Ren) (w : World) (args' : Array Value),HR ρ H w→AR ρ args args' →
  Calls P f args' w (fun e w' => ∃ ρ' v',e = .returned v'∧Sim ρ ρ' H H' w w'∧VR ρ' v v')
theorem run_callFunc {f : FuncId} {fn : Func} (h1 : P.funcs[f]? = some fn) (h2 : fn.body.isSome = true) (h3 : (fn.name == "runtime.NumGoroutine") = false) (args : Array Value) (w : World) :
  (callFunc f args).run P w = .ok (.enter f args) w := by
 have h4 : fn.body.isNone = false := by cases hb : fn.body <;> simp_all
 simp only [callFunc,Sem.run_bind,run_program,Result.andThen_ok,h1,h3,h4,Bool.false_eq_true,if_false,Sem.run_pure]
def operOk (n : Nat) (o : Oper) : Bool := dstOk n o.dst && o.op.operands.toList.all (operandOk n)
theorem step_sim' {call : CallT} (hcall : CallOK P call) (hr : HR ρ H w) {a : TM} {b : Act} {ops : Array Oper} {o : Oper} (he : ∀ x ∈ o.op.operands,VR ρ (aeval a x) (b.eval x))
  (hwa : Region.wanted o (yieldC ops a) = Region.wanted o (yielded ops b.tmps)) {v : Value} {H1 : CH} (h : stepOp P call ops o a H = some (v,H1))
  {Q : Exit→Act→World→Prop} {K : Act→World→Prop} (hK : ∀ ρ' w' v',Sim ρ ρ' H H1 w w'→VR ρ' v v'→K (b.put o.dst v') w') :
  if Region.wanted o (yielded ops b.tmps) then o.wp P b w K Q ∨ (o.asks P b w∧LetsOut Q) else K (b.put o.dst Go.undef) w := by
 unfold stepOp at h
 rw [hwa] at h
 cases hw : Region.wanted o (yielded ops b.tmps) with
 | false =>
  simp only [hw,Option.some.injEq,Prod.mk.injEq] at h
  obtain ⟨rfl,rfl⟩ := h
  simp only [Bool.false_eq_true,if_false]
  exact hK ρ w _ (Sim.refl hr) (VR.undef ρ)
 | true =>
  simp only [hw] at h
  simp only [if_true]
  refine .inl ?_
  unfold Oper.wp
  split at h
  ·rename_i v1 H2 hc
   simp only [Option.some.injEq,Prod.mk.injEq] at h
   obtain ⟨rfl,rfl⟩ := h
   obtain ⟨ρ',w',v',h1,h2,h3⟩ := cop_sim (P := P) hr he hc
   rcases h3 with h3 | ⟨h3,h4⟩
   ·rw [h3,Oper.upon_value]; exact hK ρ' w' v' h1 h2
   ·rw [h3,Oper.upon_skip]; rw [h4] at h2; exact hK ρ' w' _ h1 h2
  ·rename_i f args H2 hc
   obtain ⟨rfl,args',h1,h2⟩ := cop_sim (P := P) hr he hc
   obtain ⟨⟨fn,g1,g2,g3⟩,g4⟩ := hcall f args _ v H1 h
   rw [h2,run_callFunc g1 g2 g3,Oper.upon_enter]
   refine (g4 ρ w args' hr h1).mono ?_
   rintro e w' ⟨ρ',v',rfl,h5,h6⟩
   exact hK ρ' w' v' h5 h6
  ·cases h
theorem step_sim {call : CallT} (hcall : CallOK P call) (hr : HR ρ H w) {n : Nat} {a : TM} {b : Act} (ht : TR ρ n a b.tmps) {ops : Array Oper} {o : Oper} (ho : operOk n o = true) {v : Value} {H1 : CH} (h : stepOp P call ops o a H = some (v,H1))
  {Q : Exit→Act→World→Prop} {K : Act→World→Prop} (hK : ∀ ρ' w' v',Sim ρ ρ' H H1 w w'→VR ρ' v v'→K (b.put o.dst v') w') :
  if Region.wanted o (yielded ops b.tmps) then o.wp P b w K Q ∨ (o.asks P b w∧LetsOut Q) else K (b.put o.dst Go.undef) w := by
 simp only [operOk,Bool.and_eq_true] at ho
 exact step_sim' hcall hr (fun x hx => ht.eval (List.all_eq_true.1 ho.2 x (by simpa using hx))) (ht.wanted ops o) h hK
theorem evalOps_sim {call : CallT} (hcall : CallOK P call) {n : Nat} (hn : n < 1048576) {ops : Array Oper} (hok : ∀ o ∈ ops.toList,operOk n o = true) {Q : Exit→Act→World→Prop} : ∀ (l : List Oper) (i : Nat) {ρ : Ren} {H : CH} {w : World} {a : TM} {b : Act} {a1 : TM} {H1 : CH},
  l = ops.toList.drop i→HR ρ H w→TR ρ n a b.tmps→evalOps P call ops l a H = some (a1,H1) →
  (∀ ρ' w' b',Sim ρ ρ' H H1 w w'→TR ρ' n a1 b'.tmps→b'.defers = b.defers→Q .normal b' w')→wpOps P ops Q (List.range' i l.length) b w
 | [],i,ρ,H,w,a,b,a1,H1,_,hr,ht,h,hQ => by
  simp only [evalOps,Option.some.injEq,Prod.mk.injEq] at h
  obtain ⟨rfl,rfl⟩ := h
  exact hQ ρ w b (Sim.refl hr) ht rfl
 | o::r,i,ρ,H,w,a,b,a1,H1,hl,hr,ht,h,hQ => by
  have hoi : ops[i]? = some o := by
   have : (ops.toList.drop i)[0]? = some o := by rw [← hl]; rfl
   simpa using this
  have hmem : o ∈ ops.toList := by
   have := Array.mem_of_getElem? hoi
   simpa using this
  simp only [evalOps] at h
  cases hs : stepOp P call ops o a H with
  | none => simp [hs] at h
  | some vH =>
   obtain ⟨v,H2⟩ := vH
   simp only [hs] at h
   simp only [List.length_cons,List.range'_succ,wpOps,hoi]
   refine step_sim hcall hr ht (hok o hmem) hs (fun ρ' w' v' h1 h2 => ?_)
   refine evalOps_sim hcall hn hok r (i + 1) (by rw [← List.tail_drop,← hl]; rfl) h1.hr ((ht.mono h1.ext).put ?_ hn h2) h (fun ρ2 w2 b2 g1 g2 g3 => hQ ρ2 w2 b2 (h1.trans g1) g2 (g3.trans ?_))
   ·have := hok o hmem
    simp only [operOk,Bool.and_eq_true] at this
    exact this.1
   ·cases o.dst <;> rfl
theorem evalRegion_sim {call : CallT} (hcall : CallOK P call) {n : Nat} (hn : n < 1048576) {ops : Array Oper} (hok : ∀ o ∈ ops.toList,operOk n o = true) {Q : Exit→Act→World→Prop} (id : Nat) {a : TM} {b : Act} {a1 : TM} {H1 : CH} (hr : HR ρ H w)
  (ht : TR ρ n a b.tmps) (h : evalOps P call ops ops.toList a H = some (a1,H1)) (hQ : ∀ ρ' w' b',Sim ρ ρ' H H1 w w'→TR ρ' n a1 b'.tmps→b'.defers = b.defers→Q .normal b' w') : (Code.region id ops false).wp P Q b w := by
 refine wp_region ?_
 have := evalOps_sim hcall hn hok ops.toList 0 rfl hr ht h hQ
 rw [List.range_eq_range']
 simpa using this
end Go.CM

namespace Go.CM
open Go
variable {P : Program} {ρ : Ren} {H : CH} {w : World}
theorem veqL_sound {eq : Value→Value→Bool} (h : ∀ x y,eq x y = true→x = y) : ∀ xs ys : List Value,veqL eq xs ys = true→xs = ys
 | [],[],_ => rfl
 | x::xs,y::ys,e => by
  simp only [veqL,Bool.and_eq_true] at e
  rw [h x y e.1,veqL_sound h xs ys e.2]
 | [],_::_,e => by simp [veqL] at e
 | _::_,[],e => by simp [veqL] at e
theorem arr_of {a b : Array Value} (h : a.toList = b.toList) : a = b := Array.ext' h
theorem veq_sound : ∀ (n : Nat) (x y : Value),veq n x y = true→x = y
 | 0,_,_,h => by simp [veq] at h
 | n + 1,x,y,h => by
  have ih := veqL_sound (veq_sound n)
  cases x <;> cases y <;> simp only [veq,Bool.and_eq_true,decide_eq_true_eq,Bool.false_eq_true,beq_iff_eq] at h <;> first
   | (exact h.elim)
   | rfl
   | (rw [h]; done)
   | (obtain ⟨rfl,rfl⟩ := h; rfl)
   | (obtain ⟨⟨rfl,h1⟩,h2⟩ := h; rw [Nat.eq_of_beq_eq_true h1,Nat.eq_of_beq_eq_true h2])
   | (obtain ⟨h1,h2⟩ := h; rw [Nat.eq_of_beq_eq_true h1,veq_sound n _ _ h2])
   | (obtain ⟨⟨rfl,h1⟩,h2⟩ := h; rw [arr_of (ih _ _ h1),arr_of (ih _ _ h2)])
   | (rw [arr_of (ih _ _ h)])
theorem quiet_heap {e : Operand→Value} {op : Op} {cn : CN} {H1 : CH} (hq : isEff op = false) (ha : isAlloc op = false) (h : cop P e H op = some (cn,H1)) : H1 = H∧∃ v,cn = .val v := by
 have mv : ∀ {x : Option Value},x.map (fun x => (CN.val x,H)) = some (cn,H1)→H1 = H∧∃ v,cn = .val v := fun {x} h => by
  cases x with
  | none => cases h
  | some v => simp at h; exact ⟨h.2.symm,v,h.1.symm⟩
 cases op <;> simp only [isEff,isAlloc,Bool.true_eq_false] at hq ha <;> simp only [cop] at h <;> first
  | (exact mv h)
  | (simp only [Option.some.injEq,Prod.mk.injEq] at h; exact ⟨h.2.symm,_,h.1.symm⟩)
  | (cases h; done)
  | skip
 case pick =>
  split at h
  ·simp only [Option.some.injEq,Prod.mk.injEq] at h; exact ⟨h.2.symm,_,h.1.symm⟩
  ·cases h
 case load =>
  split at h
  ·split at h
   ·exact mv h
   ·cases h
  ·cases h
 case nilCheck =>
  split at h <;> first | (simp only [Option.some.injEq,Prod.mk.injEq] at h; exact ⟨h.2.symm,_,h.1.symm⟩) | (obtain ⟨h,_⟩ := methOk_some h; simp only [Option.some.injEq,Prod.mk.injEq] at h; exact ⟨h.2.symm,_,h.1.symm⟩) | cases h
 case binOp bop t x y yt =>
  cases hg : guardOk P t x y (e x) (e y) with
  | false => rw [hg] at h; cases h
  | true => rw [hg] at h; exact mv h
 case makeInterface =>
  split at h <;> first | (cases h; done) | (simp only [Option.some.injEq,Prod.mk.injEq] at h; exact ⟨h.2.symm,_,h.1.symm⟩)
 case makeFunc fn first captured =>
  cases fn <;> simp only [Option.some.injEq,Prod.mk.injEq,reduceCtorEq] at h <;> exact ⟨h.2.symm,_,h.1.symm⟩
 case extract =>
  split at h
  ·split at h
   ·simp only [Option.some.injEq,Prod.mk.injEq] at h; exact ⟨h.2.symm,_,h.1.symm⟩
   ·cases h
  ·cases h
 case call c =>
  unfold ccall at h
  split at h <;> simp_all <;> (first | (obtain ⟨_,_,rfl,rfl⟩ := h; exact ⟨rfl,_,rfl⟩) | skip)
theorem cbin_any {op : BinOp} (h1 : op ≠ .eql) (h2 : op ≠ .neq) (t : TypeId) (x y : Value) (H' : CH) : cbin P H op t x y = cbin P H' op t x y := by
 cases op <;> first | exact absurd rfl h1 | exact absurd rfl h2 | (cases x <;> first | rfl | (cases y <;> rfl))
theorem quiet_any {e : Operand→Value} {op : Op} {v : Value} (hq : isEff op = false) (ha : isAlloc op = false) (hd : heapDep op = false) (h : cop P e H op = some (.val v,H)) (H' : CH) : cop P e H' op = some (.val v,H') := by
 have mv : ∀ {x : Option Value},x.map (fun x => (CN.val x,H)) = some (.val v,H)→x.map (fun x => (CN.val x,H')) = some (.val v,H') := fun {x} h => by
  cases x with
  | none => cases h
  | some v => simp at h; simp [h]
 have sm : ∀ {x : Value},some (CN.val x,H) = some (.val v,H)→some (CN.val x,H') = some (.val v,H') := fun {x} h => by
  simp at h; simp [h]
 cases op <;> simp only [isEff,isAlloc,heapDep,Bool.true_eq_false] at hq ha hd <;> simp only [cop] at h ⊢ <;> first
  | (exact mv h)
  | (exact sm h)
  | (cases h; done)
  | skip
 case pick =>
  split at h
  ·exact sm h
  ·cases h
 case nilCheck =>
  split at h <;> first | exact sm h | (obtain ⟨e1,t,w,f,rc,e2,e3⟩ := methOk_some h; simp only [methOk,e2,e3]; exact sm e1) | cases h
 case binOp bop t x y yt =>
  cases hg : guardOk P t x y (e x) (e y) with
  | false => rw [hg] at h; cases h
  | true =>
   rw [hg] at h
   simp only [cond_true] at h ⊢
   rw [cbin_any (H := H') (H' := H)]
   ·exact mv h
   ·rintro rfl; simp at hd
   ·rintro rfl; simp at hd
 case makeInterface =>
  split at h <;> first | (cases h; done) | exact sm h
 case makeFunc fn first captured =>
  cases fn <;> first | exact sm h | cases h
 case extract =>
  split at h
  ·split at h
   ·exact sm h
   ·cases h
  ·cases h
 case call c =>
  unfold ccall at h ⊢
  split at h <;> simp_all
end Go.CM

namespace Go.CM
open Go
variable {P : Program} {ρ : Ren} {H : CH} {w : World}
def Uniq (l : List Oper) : Prop := ∀ (j1 j2 : Nat) (o1 o2 : Oper) (d : Tmp),l[j1]? = some o1→l[j2]? = some o2→o1.dst = some d→o2.dst = some d→j1 = j2
theorem Uniq.tail {o : Oper} {l : List Oper} (h : Uniq (o::l)) : Uniq l := fun j1 j2 o1 o2 d h1 h2 h3 h4 => by
 have := h (j1 + 1) (j2 + 1) o1 o2 d (by simpa using h1) (by simpa using h2) h3 h4
 omega
structure Floats (P : Program) (l : List Oper) (a a0 : TM) (H HF : CH) (idf : Nat→Nat) : Prop where
 lo : ∀ (j : Nat) (o : Oper),l[j]? = some o→isAlloc o.op = true→H.next ≤ idf j∧idf j < HF.next
 row : ∀ (j : Nat) (o : Oper) (t : TypeId),l[j]? = some o→o.op = .alloc t→∃ z,zeroOf P t = some z∧HF.blks.get (idf j) = some (rowOf t z.cells)
 inj : ∀ (j1 j2 : Nat) (o1 o2 : Oper),l[j1]? = some o1→l[j2]? = some o2→isAlloc o1.op = true→isAlloc o2.op = true→idf j1 = idf j2→j1 = j2
 other : ∀ (t : Tmp),(∀ (j : Nat) (o : Oper),l[j]? = some o→isAlloc o.op = true→o.dst ≠ some t)→aget a0 t = aget a t
 put : ∀ (j : Nat) (o : Oper) (d : Tmp),l[j]? = some o→isAlloc o.op = true→o.dst = some d→aget a0 d = ptr (idf j) 0
 old : ∀ b,b < H.next→HF.blks.get b = H.blks.get b
 next : H.next ≤ HF.next
theorem drawFloats_facts {n : Nat} (hn : n < 1048576) : ∀ (l : List Oper) {a a0 : TM} {H HF : CH},(∀ o ∈ l,dstOk n o.dst = true)→Uniq l→drawFloats P l a H = some (a0,HF)→∃ idf,Floats P l a a0 H HF idf
 | [],a,a0,H,HF,_,_,h => by
  simp only [drawFloats,Option.some.injEq,Prod.mk.injEq] at h
  obtain ⟨rfl,rfl⟩ := h
  exact ⟨fun _ => 0,fun j o h => by simp at h,fun j o t h => by simp at h,fun j1 j2 o1 o2 h => by simp at h,fun _ _ => rfl,fun j o d h => by simp at h,fun _ _ => rfl,Nat.le_refl _⟩
 | o::r,a,a0,H,HF,hd,hu,h => by
  simp only [drawFloats] at h
  split at h
  ·rename_i t hop
   cases hz : zeroOf P t with
   | none => simp [hz] at h
   | some z =>
    simp only [hz] at h
    obtain ⟨idf,F⟩ := drawFloats_facts hn r (fun x hx => hd x (by simp [hx])) hu.tail h
    have hnx : (H.new (rowOf t z.cells)).next = H.next + 1 := rfl
    have hget : HF.blks.get H.next = some (rowOf t z.cells) := by
     rw [F.old H.next (by rw [hnx]; omega),CH.new_get]; simp
    have hnext : H.next < HF.next := by have := F.next; rw [hnx] at this; omega
    refine ⟨fun j => match j with | 0 => H.next | j + 1 => idf j,?_,?_,?_,?_,?_,?_,?_⟩
    ·intro j x hj ha
     cases j with
     | zero => exact ⟨Nat.le_refl _,hnext⟩
     | succ j => have := F.lo j x (by simpa using hj) ha; rw [hnx] at this; exact ⟨(show H.next ≤ idf j by omega),this.2⟩
    ·intro j x t2 hj ha
     cases j with
     | zero =>
      simp at hj; subst hj
      rw [hop] at ha; cases ha
      exact ⟨z,hz,hget⟩
     | succ j => exact F.row j x t2 (by simpa using hj) ha
    ·intro j1 j2 o1 o2 h1 h2 h3 h4 h5
     cases j1 with
     | zero =>
      cases j2 with
      | zero => rfl
      | succ j2 => have := F.lo j2 o2 (by simpa using h2) h4; rw [hnx] at this; simp only at h5; omega
     | succ j1 =>
      cases j2 with
      | zero => have := F.lo j1 o1 (by simpa using h1) h3; rw [hnx] at this; simp only at h5; omega
      | succ j2 => have := F.inj j1 j2 o1 o2 (by simpa using h1) (by simpa using h2) h3 h4 h5; omega
    ·intro t2 ht
     rw [F.other t2 fun j x hj hx => ht (j + 1) x (by simpa using hj) hx]
     have h0 := ht 0 o (by simp) (by simp [isAlloc,hop])
     cases hdst : o.dst with
     | none => rfl
     | some d =>
      have hdn : @LT.lt Nat _ d n := by
       have := hd o (by simp)
       rw [hdst] at this
       exact blt_iff.1 this
      rw [aget_put (by omega),if_neg (by rw [hdst] at h0; simpa using h0)]
    ·intro j x d hj ha hdx
     cases j with
     | zero =>
      simp at hj; subst hj
      rw [F.other d fun j y hj hy hyd => by
       have := hu 0 (j + 1) o y d (by simp) (by simpa using hj) hdx hyd
       omega]
      have hdn : @LT.lt Nat _ d n := by
       have := hd o (by simp)
       rw [hdx] at this
       exact blt_iff.1 this
      rw [hdx,aget_put (by omega),if_pos rfl]
     | succ j => exact F.put j x d (by simpa using hj) ha hdx
    ·intro b hb
     rw [F.old b (by rw [hnx]; omega),CH.new_get,if_neg (by omega)]
    ·omega
  ·rename_i hno
   obtain ⟨idf,F⟩ := drawFloats_facts hn r (fun x hx => hd x (by simp [hx])) hu.tail h
   have h0 : isAlloc o.op = false := by
    cases hop : o.op <;> simp only [isAlloc]
    exact (hno _ hop).elim
   refine ⟨fun j => match j with | 0 => 0 | j + 1 => idf j,?_,?_,?_,?_,?_,F.old,F.next⟩
   ·intro j x hj ha
    cases j with
    | zero => simp at hj; subst hj; rw [h0] at ha; cases ha
    | succ j => exact F.lo j x (by simpa using hj) ha
   ·intro j x t2 hj ha
    cases j with
    | zero => simp at hj; subst hj; exact (hno t2 ha).elim
    | succ j => exact F.row j x t2 (by simpa using hj) ha
   ·intro j1 j2 o1 o2 h1 h2 h3 h4 h5
    cases j1 with
    | zero => simp at h1; subst h1; rw [h0] at h3; cases h3
    | succ j1 =>
     cases j2 with
     | zero => simp at h2; subst h2; rw [h0] at h4; cases h4
     | succ j2 => have := F.inj j1 j2 o1 o2 (by simpa using h1) (by simpa using h2) h3 h4 h5; omega
   ·intro t2 ht
    exact F.other t2 fun j x hj hx => ht (j + 1) x (by simpa using hj) hx
   ·intro j x d hj ha hdx
    cases j with
    | zero => simp at hj; subst hj; rw [h0] at ha; cases ha
    | succ j => exact F.put j x d (by simpa using hj) ha hdx
def StepAt (P : Program) (call : CallT) (ops : Array Oper) (vals : Nat→Value) (As : Nat→TM) (Hs : Nat→CH) (j : Nat) : Prop :=
 ∀ o,ops[j]? = some o →
  (isAlloc o.op = true→As (j + 1) = As j∧Hs (j + 1) = Hs j) ∧
  (isAlloc o.op = false→stepOp P call ops o (As j) (Hs j) = some (vals j,Hs (j + 1))∧As (j + 1) = aput (As j) o.dst (vals j))
def effAt (ops : Array Oper) (i : Nat) : Bool := match ops[i]? with | some o => isEff o.op | none => false
theorem drawOps_trace {call : CallT} {ops : Array Oper} : ∀ (l : List Oper) (i : Nat) {a a1 : TM} {H H1 : CH} {hs hs1 : List CH} {rs rs1 : List Rec},l = ops.toList.drop i→i ≤ ops.size→drawOps P call ops l i a H hs rs = some (a1,H1,hs1,rs1) →
  ∃ (vals : Nat→Value) (As : Nat→TM) (Hs : Nat→CH),As i = a∧Hs i = H∧As ops.size = a1∧Hs ops.size = H1∧(∀ j,i ≤ j→j < ops.size→StepAt P call ops vals As Hs j) ∧
   hs1.reverse = hs.reverse++((List.range' i (ops.size - i)).filter (effAt ops)).map Hs++[H1] ∧
   (∀ j o,i ≤ j→ops[j]? = some o→isAlloc o.op = false→isEff o.op = false→heapDep o.op = true→Region.wanted o (yieldC ops (As j)) = true→(⟨j,As j,o.op,vals j⟩ : Rec) ∈ rs1)∧(∀ r ∈ rs,r ∈ rs1)
 | [],i,a,a1,H,H1,hs,hs1,rs,rs1,hl,hi,h => by
  simp only [drawOps,Option.some.injEq,Prod.mk.injEq] at h
  obtain ⟨rfl,rfl,rfl,rfl⟩ := h
  have : i = ops.size := by
   have := congrArg List.length hl
   simp at this
   omega
  subst this
  refine ⟨fun _ => undV,fun _ => a,fun _ => H,rfl,rfl,rfl,rfl,fun j h1 h2 => absurd h2 (by omega),by simp,fun j o h1 h2 => ?_,fun _ h => h⟩
  have := (Array.getElem?_eq_some_iff.1 h2).1
  omega
 | o::r,i,a,a1,H,H1,hs,hs1,rs,rs1,hl,hi,h => by
  have hoi : ops[i]? = some o := by
   have : (ops.toList.drop i)[0]? = some o := by rw [← hl]; rfl
   simpa using this
  have hlt : i < ops.size := (Array.getElem?_eq_some_iff.1 hoi).1
  have hl' : r = ops.toList.drop (i + 1) := by rw [← List.tail_drop,← hl]; rfl
  have hrange : List.range' i (ops.size - i) = i::List.range' (i + 1) (ops.size - (i + 1)) := by
   rw [show ops.size - i = (ops.size - (i + 1)) + 1 by omega,List.range'_succ]
  simp only [drawOps] at h
  cases hal : isAlloc o.op with
  | true =>
   simp only [hal] at h
   have hne : isEff o.op = false := by cases hop : o.op <;> simp_all [isAlloc,isEff]
   obtain ⟨vals,As,Hs,h1,h2,h3,h4,h5,h6,h7,h8⟩ := drawOps_trace r (i + 1) hl' hlt h
   have ne : ∀ j,i + 1 ≤ j→(j = i) = False := fun j hj => by simp; omega
   refine ⟨vals,fun j => if j = i then a else As j,fun j => if j = i then H else Hs j,by simp,by simp,by simp [ne _ hlt,h3],by simp [ne _ hlt,h4],?_,?_,?_,h8⟩
   ·intro j hj hjs
    rcases Nat.lt_or_ge i j with hij | hij
    ·intro x hx
     have := h5 j hij hjs x hx
     simp only [ne j hij,ne (j + 1) (by omega),if_false]
     exact this
    ·obtain rfl : j = i := by omega
     intro x hx
     obtain rfl := Option.some.inj (hoi.symm.trans hx)
     refine ⟨fun _ => ?_,fun h => by rw [hal] at h; cases h⟩
     simp [h1,h2]
   ·have hei : effAt ops i = isEff o.op := by simp [effAt,hoi]
    rw [h6,hrange,List.filter_cons,hei,hne,if_neg (by simp)]
    congr 2
    refine List.map_congr_left fun x hx => ?_
    have : i + 1 ≤ x := by
     have := (List.mem_filter.1 hx).1
     simp [List.mem_range'] at this
     omega
    simp [ne x this]
   ·intro j x hj hx e1 e2 e3 e4
    rcases Nat.lt_or_ge i j with hij | hij
    ·simp only [ne j hij,if_false] at e4 ⊢
     exact h7 j x hij hx e1 e2 e3 e4
    ·obtain rfl : j = i := by omega
     obtain rfl := Option.some.inj (hoi.symm.trans hx)
     rw [hal] at e1; cases e1
  | false =>
   simp only [hal] at h
   cases hst : stepOp P call ops o a H with
   | none => simp [hst] at h
   | some vH =>
    obtain ⟨v,H2⟩ := vH
    simp only [hst] at h
    have fin : ∀ {hs' : List CH} {rs' : List Rec},drawOps P call ops r (i + 1) (aput a o.dst v) H2 hs' rs' = some (a1,H1,hs1,rs1)→(hs'.reverse = hs.reverse++(if isEff o.op = true then [H] else []))→(∀ x ∈ rs,x ∈ rs') →
      (isEff o.op = false→heapDep o.op = true→Region.wanted o (yieldC ops a) = true→(⟨i,a,o.op,v⟩ : Rec) ∈ rs') →
      ∃ (vals : Nat→Value) (As : Nat→TM) (Hs : Nat→CH),As i = a∧Hs i = H∧As ops.size = a1∧Hs ops.size = H1∧(∀ j,i ≤ j→j < ops.size→StepAt P call ops vals As Hs j) ∧
       hs1.reverse = hs.reverse++((List.range' i (ops.size - i)).filter (effAt ops)).map Hs++[H1] ∧
       (∀ j o,i ≤ j→ops[j]? = some o→isAlloc o.op = false→isEff o.op = false→heapDep o.op = true→Region.wanted o (yieldC ops (As j)) = true→(⟨j,As j,o.op,vals j⟩ : Rec) ∈ rs1)∧(∀ r ∈ rs,r ∈ rs1) := by
     intro hs' rs' hd hhs hrs hrec
     obtain ⟨vals,As,Hs,h1,h2,h3,h4,h5,h6,h7,h8⟩ := drawOps_trace r (i + 1) hl' hlt hd
     have ne : ∀ j,i + 1 ≤ j→(j = i) = False := fun j hj => by simp; omega
     refine ⟨fun j => if j = i then v else vals j,fun j => if j = i then a else As j,fun j => if j = i then H else Hs j,by simp,by simp,by simp [ne _ hlt,h3],by simp [ne _ hlt,h4],?_,?_,?_,fun x hx => h8 x (hrs x hx)⟩
     ·intro j hj hjs
      rcases Nat.lt_or_ge i j with hij | hij
      ·intro x hx
       have := h5 j hij hjs x hx
       simp only [ne j hij,ne (j + 1) (by omega),if_false]
       exact this
      ·obtain rfl : j = i := by omega
       intro x hx
       obtain rfl := Option.some.inj (hoi.symm.trans hx)
       refine ⟨fun h => (by rw [hal] at h; cases h),fun _ => ?_⟩
       simp [h1,h2,hst]
     ·have hm : ((List.range' (i + 1) (ops.size - (i + 1))).filter (effAt ops)).map (fun j => if j = i then H else Hs j) = ((List.range' (i + 1) (ops.size - (i + 1))).filter (effAt ops)).map Hs := by
       refine List.map_congr_left fun x hx => ?_
       have : i + 1 ≤ x := by
        have := (List.mem_filter.1 hx).1
        simp [List.mem_range'] at this
        omega
       simp [ne x this]
      have hei : effAt ops i = isEff o.op := by simp [effAt,hoi]
      rw [h6,hhs,hrange,List.filter_cons,hei]
      cases he : isEff o.op with
      | true => simp [hm]
      | false => simp [hm]
     ·intro j x hj hx e1 e2 e3 e4
      rcases Nat.lt_or_ge i j with hij | hij
      ·simp only [ne j hij,if_false] at e4 ⊢
       exact h7 j x hij hx e1 e2 e3 e4
      ·obtain rfl : j = i := by omega
       obtain rfl := Option.some.inj (hoi.symm.trans hx)
       simp only [if_true] at e4 ⊢
       exact h8 _ (hrec e2 e3 e4)
    cases he : isEff o.op with
    | true =>
     simp only [he] at h
     exact fin h (by simp [he]) (fun x hx => hx) (fun e => by rw [he] at e; cases e)
    | false =>
     simp only [he] at h
     refine fin h (by simp [he]) (fun x hx => ?_) (fun _ e3 e4 => ?_)
     ·unfold recOf
      cases (Region.wanted o (yieldC ops a) && heapDep o.op) <;> simp [hx]
     ·unfold recOf
      simp [e3,e4]
end Go.CM

namespace Go.CM
open Go
variable {P : Program} {ρ : Ren} {H : CH} {w : World}
def Bf (ops : Array Oper) (j i : Nat) : Prop := ((Region.before ops).getD i 0).testBit j = true
structure Facts (ops : Array Oper) : Prop where
 edge : ∀ (i : Nat) (o : Oper),ops[i]? = some o→∀ e ∈ o.after.toList,Region.binds .any e = true→e.on < i
 allocG : ∀ (i : Nat) (o : Oper),ops[i]? = some o→isAlloc o.op = true→o.guard = none
 uniq : ∀ (i j : Nat) (x y : Oper) (d : Tmp),ops[i]? = some x→ops[j]? = some y→x.dst = some d→y.dst = some d→i = j
 reads : ∀ (i j : Nat) (x y : Oper) (d : Tmp),ops[i]? = some x→ops[j]? = some y→x.dst = some d→d ∈ readsT ops y→i ≠ j→Bf ops i j ∨ (isAlloc x.op = false∧Bf ops j i)
 eff : ∀ (i j : Nat) (x y : Oper),ops[i]? = some x→ops[j]? = some y→isEff x.op = true→isEff y.op = true→i < j→Bf ops i j
 clos : ∀ (i j : Nat) (x : Oper),ops[i]? = some x→j < ops.size→Bf ops j i→∃ e ∈ x.after.toList,Region.binds .any e = true∧(e.on = j ∨ Bf ops j e.on)
theorem facts_of {ops : Array Oper} (h : drawOk ops = true) : Facts ops := by
  simp only [drawOk,Bool.and_eq_true,List.all_eq_true,List.mem_range] at h
  obtain ⟨h1,h2⟩ := h
  have lt : ∀ {i : Nat} {o : Oper},ops[i]? = some o→i < ops.size := fun h => (Array.getElem?_eq_some_iff.1 h).1
  have one : ∀ (i : Nat) (o : Oper),ops[i]? = some o→((∀ e ∈ o.after.toList,(!Region.binds .any e || Nat.blt e.on i) = true)∧(!isAlloc o.op || o.guard.isNone) = true) := fun i o ho => by
    have := h1 i (lt ho)
    simp only [ho,Bool.and_eq_true,List.all_eq_true] at this
    exact ⟨this.1.1,this.1.2⟩
  have two : ∀ (i j : Nat) (x y : Oper),ops[i]? = some x→ops[j]? = some y →
      ((∀ d,x.dst = some d→i = j ∨ (y.dst ≠ some d∧(d ∉ readsT ops y ∨ Bf ops i j ∨ (isAlloc x.op = false∧Bf ops j i)))) ∧
       (isEff x.op = true→isEff y.op = true→i < j→Bf ops i j) ∧
       (Bf ops j i→∃ e ∈ x.after.toList,Region.binds .any e = true∧(e.on = j ∨ Bf ops j e.on))) := fun i j x y hx hy => by
    have := h2 i (lt hx) j (lt hy)
    simp only [pairOk,hx,hy,Bool.and_eq_true] at this
    obtain ⟨⟨g1,g2⟩,g3⟩ := this
    refine ⟨fun d hd => ?_,fun e1 e2 hij => ?_,fun hb => ?_⟩
    · simp only [hd,Bool.or_eq_true,Bool.and_eq_true] at g1
      rcases g1 with g1 | ⟨g1,g4⟩
      · exact .inl (of_beqT g1)
      · refine .inr ⟨by simpa using g1,?_⟩
        rcases g4 with (g4 | g4) | g4
        · exact .inl (by simpa using g4)
        · exact .inr (.inl g4)
        · exact .inr (.inr ⟨by simpa using g4.1,g4.2⟩)
    · rw [e1,e2,blt_iff.2 hij] at g2
      simpa [Bf] using g2
    · have hb' : ((Region.before ops).getD i 0).testBit j = true := hb
      rw [hb'] at g3
      simp only [Bool.not_true,Bool.false_or,List.any_eq_true,Bool.and_eq_true,Bool.or_eq_true] at g3
      obtain ⟨e,he,h3,h4⟩ := g3
      exact ⟨e,he,h3,h4.imp of_beqT id⟩
  have ex : ∀ j,j < ops.size→∃ y,ops[j]? = some y := fun j hj => ⟨ops[j],by simp⟩
  refine ⟨fun i o ho e he hb => ?_,fun i o ho ha => ?_,fun i j x y d hx hy h3 h4 => ?_,fun i j x y d hx hy h3 h4 hne => ?_,fun i j x y hx hy => (two i j x y hx hy).2.1,fun i j x hx hj hb => ?_⟩
  · have := (one i o ho).1 e he
    rw [hb] at this
    exact blt_iff.1 (by simpa using this)
  · have := (one i o ho).2
    rw [ha] at this
    simpa using this
  · rcases (two i j x y hx hy).1 d h3 with h | h
    · exact h
    · exact absurd h4 h.1
  · rcases (two i j x y hx hy).1 d h3 with h | ⟨_,h | h⟩
    · exact absurd h hne
    · exact absurd h4 h
    · exact h
  · obtain ⟨y,hy⟩ := ex j hj
    exact (two i j x y hx hy).2.2 hb
theorem Facts.lt {ops : Array Oper} (F : Facts ops) : ∀ (i j : Nat),i < ops.size→j < ops.size→Bf ops j i→j < i := by
 intro i
 induction i using Nat.strongRecOn with
 | _ i ih =>
  intro j hi hj hb
  obtain ⟨e,he,h1,h2⟩ := F.clos i j ops[i] (by simp) hj hb
  have h3 := F.edge i ops[i] (by simp) e he h1
  rcases h2 with h2 | h2
  ·omega
  ·have := ih e.on h3 j (by omega) hj h2
   omega
section
variable {call : CallT} {ops : Array Oper} {vals : Nat→Value} {As : Nat→TM} {Hs : Nat→CH}
theorem Hs_succ (hst : ∀ j,j < ops.size→StepAt P call ops vals As Hs j) {j : Nat} (hj : j < ops.size) (he : effAt ops j = false) : Hs (j + 1) = Hs j := by
 have ho : ops[j]? = some ops[j] := by simp
 have h := hst j hj _ ho
 have he' : isEff ops[j].op = false := by simpa [effAt,ho] using he
 cases hal : isAlloc ops[j].op with
 | true => exact (h.1 hal).2
 | false =>
  have h2 := (h.2 hal).1
  unfold stepOp at h2
  split at h2
  ·simp at h2; exact h2.2.symm
  ·split at h2
   ·rename_i v H1 hc
    have := (quiet_heap he' hal hc).1
    simp at h2
    rw [← h2.2,this]
   ·rename_i f args H1 hc
    obtain ⟨_,v,hv⟩ := quiet_heap he' hal hc
    cases hv
   ·cases h2
theorem Hs_eq (hst : ∀ j,j < ops.size→StepAt P call ops vals As Hs j) {p : Nat} : ∀ (q : Nat),p ≤ q→q ≤ ops.size→(∀ e,p ≤ e→e < q→effAt ops e = false)→Hs q = Hs p := by
  intro q
  induction q with
  | zero => intro h1 _ _; obtain rfl : p = 0 := by omega
            rfl
  | succ q ih =>
    intro h1 h2 h3
    rcases Nat.lt_or_ge q p with h | h
    · obtain rfl : p = q + 1 := by omega
      rfl
    · rw [Hs_succ hst (by omega) (h3 q h (by omega)),ih h (by omega) fun e h4 h5 => h3 e h4 (by omega)]
def cntLt (ops : Array Oper) (p : Nat) : Nat := ((effs ops).filter fun e => decide (e < p)).length
theorem mem_effs {e : Nat} : e ∈ effs ops ↔ e < ops.size∧effAt ops e = true := by
 unfold effs effAt
 simp [List.mem_filter,List.mem_range]
 intro _; rfl
theorem heaps_get (hst : ∀ j,j < ops.size→StepAt P call ops vals As Hs j) {p : Nat} (hp : p ≤ ops.size) :
  (((List.range' 0 (ops.size - 0)).filter (effAt ops)).map Hs++[Hs ops.size])[cntLt ops p]? = some (Hs p) := by
 have e0 : effs ops = (List.range' 0 (ops.size - 0)).filter (effAt ops) := by
  unfold effs
  rw [List.range_eq_range',Nat.sub_zero]
  rfl
 have key : ∀ (m i : Nat),i + m = ops.size→i ≤ p →
   (((List.range' i m).filter (effAt ops)).map Hs++[Hs ops.size])[(((List.range' i m).filter (effAt ops)).filter fun e => decide (e < p)).length]? = some (Hs p) := by
  intro m
  induction m with
  | zero =>
   intro i h1 h2
   obtain rfl : p = i := by omega
   obtain rfl : p = ops.size := by omega
   simp
  | succ m ih =>
   intro i h1 h2
   rw [List.range'_succ]
   rcases Nat.lt_or_ge i p with hip | hip
   ·have := ih (i + 1) (by omega) (by omega)
    cases he : effAt ops i with
    | true => simpa [List.filter_cons,he,hip] using this
    | false => simpa [List.filter_cons,he] using this
   ·obtain rfl : p = i := by omega
    have hz : ((List.range' (p + 1) m).filter (effAt ops)).filter (fun e => decide (e < p)) = [] := by
     rw [List.filter_eq_nil_iff]
     intro e he
     have := (List.mem_filter.1 he).1
     simp [List.mem_range'] at this
     simp; omega
    cases he : effAt ops p with
    | true => simp [he,hz]
    | false =>
     simp only [List.filter_cons,he,Bool.false_eq_true,if_false,hz,List.length_nil]
     have : ∀ (m i : Nat),i + m = ops.size→p ≤ i→(∀ e,p ≤ e→e < i→effAt ops e = false)→(((List.range' i m).filter (effAt ops)).map Hs++[Hs ops.size])[0]? = some (Hs p) := by
      intro m
      induction m with
      | zero =>
       intro i h1 h2 h3
       simp
       exact Hs_eq hst ops.size (by omega) (Nat.le_refl _) fun e h4 h5 => h3 e h4 (by omega)
      | succ m ih2 =>
       intro i h1 h2 h3
       rw [List.range'_succ]
       cases he2 : effAt ops i with
       | true =>
        simp [he2]
        exact Hs_eq hst i h2 (by omega) h3
       | false =>
        simp only [List.filter_cons,he2,Bool.false_eq_true,if_false]
        exact ih2 (i + 1) (by omega) (by omega) fun e h4 h5 => by
         rcases Nat.lt_or_ge e i with h | h
         ·exact h3 e h4 h
         ·obtain rfl : e = i := by omega
          exact he2
     exact this m (p + 1) (by omega) (by omega) fun e h4 h5 => by
      obtain rfl : e = p := by omega
      exact he
 have := key ops.size 0 (by omega) (Nat.zero_le _)
 unfold cntLt
 rw [e0]
 simpa using this
theorem recChk_get {lo hi : Nat} {r : Rec} : ∀ (hs : List CH) (k0 k : Nat) (Hk : CH),recChk P lo hi r k0 hs = true→hs[k]? = some Hk→lo ≤ k0 + k→k0 + k ≤ hi→∃ H2,cop P (aeval r.tm) Hk r.op = some (.val r.got,H2)
 | [],_,_,_,_,h,_,_ => by simp at h
 | H::hs,k0,k,Hk,h,hk,h1,h2 => by
  simp only [recChk,Bool.and_eq_true] at h
  cases k with
  | zero =>
   simp at hk; subst hk
   have : (Nat.ble lo k0 && Nat.ble k0 hi) = true := by
    simp only [Bool.and_eq_true]; exact ⟨Nat.ble_eq_true_of_le (by omega),Nat.ble_eq_true_of_le (by omega)⟩
   rw [this] at h
   have h3 := h.1
   simp only [cond_true] at h3
   split at h3
   ·rename_i v H2 hc
    rw [← veq_sound 100 _ _ h3] at hc
    exact ⟨H2,hc⟩
   ·cases h3
  | succ k =>
   exact recChk_get hs (k0 + 1) k Hk h.2 (by simpa using hk) (by omega) (by omega)
theorem recsChk_mem {ms : Array Nat} {es : List Nat} {hs : List CH} {r : Rec} : ∀ (rs : List Rec),recsChk P ms es hs rs = true→r ∈ rs→kmin ms es r.at_ = kmax ms es r.at_ ∨ recChk P (kmin ms es r.at_) (kmax ms es r.at_) r 0 hs = true
 | [],_,h => by simp at h
 | x::rs,h,hm => by
  simp only [recsChk,Bool.and_eq_true] at h
  rcases List.mem_cons.1 hm with rfl | hm
  ·cases hb : Nat.beq (kmin ms es r.at_) (kmax ms es r.at_) with
   | true => exact .inl (of_beqT hb)
   | false => rw [hb] at h; exact .inr h.1
  ·exact recsChk_mem rs h.2 hm
theorem filter_len_le {p q : Nat→Bool} : ∀ (l : List Nat),(∀ x ∈ l,p x = true→q x = true)→(l.filter p).length ≤ (l.filter q).length
 | [],_ => Nat.le_refl _
 | x::l,h => by
  have ih := filter_len_le l fun y hy => h y (by simp [hy])
  simp only [List.filter_cons]
  cases hp : p x with
  | true => rw [h x (by simp) hp]; simp; exact ih
  | false => cases q x <;> simp <;> omega
theorem quiet_at (F : Facts ops) (hst : ∀ j,j < ops.size→StepAt P call ops vals As Hs j) {rs : List Rec}
  (hrec : ∀ j o,0 ≤ j→ops[j]? = some o→isAlloc o.op = false→isEff o.op = false→heapDep o.op = true→Region.wanted o (yieldC ops (As j)) = true→(⟨j,As j,o.op,vals j⟩ : Rec) ∈ rs)
  (hchk : recsChk P (Region.before ops) (effs ops) (((List.range' 0 (ops.size - 0)).filter (effAt ops)).map Hs++[Hs ops.size]) rs = true)
  {i p : Nat} {o : Oper} (hi : ops[i]? = some o) (hq : isEff o.op = false) (ha : isAlloc o.op = false) (hp : p ≤ ops.size)
  (h1 : ∀ e,e < ops.size→effAt ops e = true→Bf ops e i→e < p) (h2 : ∀ e,e < ops.size→effAt ops e = true→e < p→¬ Bf ops i e) :
  stepOp P call ops o (As i) (Hs p) = some (vals i,Hs p) := by
 have hilt : i < ops.size := (Array.getElem?_eq_some_iff.1 hi).1
 have hs := ((hst i hilt o hi).2 ha).1
 have hsucc : Hs (i + 1) = Hs i := Hs_succ hst hilt (by simp [effAt,hi,hq])
 rw [hsucc] at hs
 unfold stepOp at hs ⊢
 cases hw : Region.wanted o (yieldC ops (As i)) with
 | false =>
  simp only [hw,Option.some.injEq,Prod.mk.injEq] at hs
  simp [hs.1]
 | true =>
  simp only [hw] at hs ⊢
  have hc : cop P (aeval (As i)) (Hs i) o.op = some (.val (vals i),Hs i) := by
   split at hs
   ·rename_i v H1 hc
    simp at hs
    rw [hc,hs.1,hs.2]
   ·rename_i f args H1 hc
    obtain ⟨_,v,hv⟩ := quiet_heap hq ha hc
    cases hv
   ·cases hs
  have fin : cop P (aeval (As i)) (Hs p) o.op = some (.val (vals i),Hs p) := by
   cases hd : heapDep o.op with
   | false => exact quiet_any hq ha hd hc _
   | true =>
    have hr := hrec i o (Nat.zero_le _) hi ha hq hd hw
    have lo : kmin (Region.before ops) (effs ops) i ≤ cntLt ops p := filter_len_le _ fun e he hb => by
     have := mem_effs.1 he
     simpa using h1 e this.1 this.2 hb
    have hi2 : cntLt ops p ≤ kmax (Region.before ops) (effs ops) i := filter_len_le _ fun e he hb => by
     have := mem_effs.1 he
     have h3 := h2 e this.1 this.2 (by simpa using hb)
     simpa [Bf] using h3
    rcases recsChk_mem rs hchk hr with hk | hk
    ·have lo' : kmin (Region.before ops) (effs ops) i ≤ cntLt ops i := filter_len_le _ fun e he hb => by
      have := mem_effs.1 he
      simpa using F.lt i e hilt this.1 hb
     have hi' : cntLt ops i ≤ kmax (Region.before ops) (effs ops) i := filter_len_le _ fun e he hb => by
      have := mem_effs.1 he
      have h3 : e < i := by simpa using hb
      have h4 : ¬ Bf ops i e := fun hb => by have := F.lt e i this.1 hilt hb; omega
      simpa [Bf] using h4
     have ec : cntLt ops p = cntLt ops i := by
      simp only at hk
      omega
     have g1 := heaps_get hst hp
     have g2 := heaps_get (p := i) hst (by omega)
     rw [ec,g2] at g1
     have : Hs i = Hs p := Option.some.inj g1
     rw [← this]; exact hc
    ·obtain ⟨H2,hc2⟩ := recChk_get _ 0 (cntLt ops p) (Hs p) hk (heaps_get hst hp) (by simpa using lo) (by simpa using hi2)
     have := (quiet_heap hq ha hc2).1
     rw [this] at hc2
     exact hc2
  rw [fin]
end
end Go.CM

namespace Go.CM
open Go
variable {P : Program} {ρ : Ren} {H : CH} {w : World}
theorem Sim.float {ρ0 : Ren} {H0 : CH} {w0 : World} (S : Sim ρ0 ρ H0 H w0 w) {b : Nat} {t : TypeId} {c c' : Array Value} (hb : ρ b = none) (hlo : H0.next ≤ b) (hhi : b < H.next) (hg : H.blks.get b = some (rowOf t c)) (hc : AR ρ c c') :
  Sim ρ0 (ρ.put b ⟨w.heap.size,0,c.size,c'.size,0⟩) H0 H w0 (w.alloc (.cells c' t)) := by
 have hr := S.hr
 have hext : Ext ρ (ρ.put b ⟨w.heap.size,0,c.size,c'.size,0⟩) := Ext.put hb
 have hnew : BR (ρ.put b ⟨w.heap.size,0,c.size,c'.size,0⟩) (rowOf t c) ⟨w.heap.size,0,c.size,c'.size,0⟩ (w.alloc (.cells c' t)) :=
  ⟨c',(0,0),heap_alloc_new _ _,rfl,fun _ => rfl,fun j hj => by
   have hj' : j < c.size := hj
   have h1 : T.get (T.leaf : T Value) j = none := rfl
   refine ⟨c[j],c'[j]'(by rw [← hc.1]; exact hj'),?_,by simp,(hc.2 j _ _ (by simp) (by simp)).mono hext⟩
   have h2 : Nat.blt j c.size = true := blt_iff.2 hj'
   simp [rowOf,Blk.get,M.get,h1,h2,hj']⟩
 have old : ∀ b2 i2,b2 ≠ b→ρ.put b ⟨w.heap.size,0,c.size,c'.size,0⟩ b2 = some i2→i2.to < w.heap.size := fun b2 i2 e h2 => by
  rw [Ren.put_other _ _ _ e] at h2
  obtain ⟨_,_,_,_,h,_⟩ := hr.blk b2 i2 h2
  exact h.1
 refine { ext := S.ext.trans hext,hr := ?_,os := S.os,tape := S.tape,output := S.output,size := Nat.le_trans S.size (by simp),same := fun n hn hi => ?_,im := ?_,form := ?_,new := ?_,next := S.next,fresh := ?_,cf := S.cf }
 ·refine { fresh := ?_,blk := ?_,inj := ?_ }
  ·intro b2 i2 h2
   by_cases e : b2 = b
   ·subst e; exact hhi
   ·rw [Ren.put_other _ _ _ e] at h2; exact hr.fresh b2 i2 h2
  ·intro b2 i2 h2
   by_cases e : b2 = b
   ·subst e
    rw [Ren.put_same] at h2
    obtain rfl := Option.some.inj h2
    exact ⟨rowOf t c,hg,rfl,rfl,⟨by simp,by simpa using Nat.le_of_eq hc.1⟩,fun _ => hnew⟩
   ·rw [Ren.put_other _ _ _ e] at h2
    obtain ⟨k,h3,h4,h5,h6,h7⟩ := hr.blk b2 i2 h2
    exact ⟨k,h3,h4,h5,⟨by simp; omega,h6.2⟩,fun hd => (h7 hd).mono hext (heap_alloc_old _ _ h6.1)⟩
  ·intro b1 b2 i1 i2 k1 k2 h1 h2 h3 h4 h5 h6 hor h7
   by_cases e1 : b1 = b
   ·by_cases e2 : b2 = b
    ·rw [e1,e2]
    ·exfalso
     have := old b2 i2 e2 h2
     subst e1
     rw [Ren.put_same] at h1
     obtain rfl := Option.some.inj h1
     simp at h7
     omega
   ·by_cases e2 : b2 = b
    ·exfalso
     have := old b1 i1 e1 h1
     subst e2
     rw [Ren.put_same] at h2
     obtain rfl := Option.some.inj h2
     simp at h7
     omega
    ·rw [Ren.put_other _ _ _ e1] at h1
     rw [Ren.put_other _ _ _ e2] at h2
     exact hr.inj b1 b2 i1 i2 k1 k2 h1 h2 h3 h4 h5 h6 hor h7
 ·rw [heap_alloc_old _ _ (Nat.lt_of_lt_of_le hn S.size)]; exact S.same n hn hi
 ·rintro n hn ⟨b2,i2,k2,h1,h2,h3,h4,rfl⟩
  by_cases e : b2 = b
  ·subst e
   rw [Ren.put_same] at h1
   obtain rfl := Option.some.inj h1
   have := S.size
   simp at hn
   omega
  ·rw [Ren.put_other _ _ _ e] at h1
   exact S.im _ hn ⟨b2,i2,k2,h1,h2,h3,h4,rfl⟩
 ·intro n c2 t2 fz h
  obtain ⟨c3,h3⟩ := S.form n c2 t2 fz h
  have hn : n < w.heap.size := (Array.getElem?_eq_some_iff.1 h3).1
  exact ⟨c3,by rw [heap_alloc_old _ _ hn]; exact h3⟩
 ·intro n h1 h2
  rcases Nat.lt_or_ge n w.heap.size with h | h
  ·obtain ⟨c2,t2,h3⟩ := S.new n h1 h
   exact ⟨c2,t2,by rw [heap_alloc_old _ _ h]; exact h3⟩
  ·have : n = w.heap.size := by simp at h2; omega
   subst this
   exact ⟨c',t,heap_alloc_new _ _⟩
 ·intro b2 i2 h1 h2
  by_cases e : b2 = b
  ·subst e; exact hlo
  ·rw [Ren.put_other _ _ _ e] at h2; exact S.fresh b2 i2 h1 h2
theorem Floats.sim {l : List Oper} {a a0 : TM} {HF : CH} {idf : Nat→Nat} (F : Floats P l a a0 H HF idf) (hr : HR ρ H w) : Sim ρ ρ H HF w w := by
 refine { Sim.refl hr with hr := ?_,im := ?_,next := F.next,cf := fun b hb _ => F.old b hb }
 ·refine { fresh := fun b i hb => Nat.lt_of_lt_of_le (hr.fresh b i hb) F.next,blk := fun b i hb => ?_,inj := fun b1 b2 i1 i2 k1 k2 h1 h2 h3 h4 => ?_ }
  ·rw [F.old b (hr.fresh b i hb)]; exact hr.blk b i hb
  ·rw [F.old b1 (hr.fresh b1 i1 h1)] at h3
   rw [F.old b2 (hr.fresh b2 i2 h2)] at h4
   exact hr.inj b1 b2 i1 i2 k1 k2 h1 h2 h3 h4
 ·rintro n _ ⟨b,i,k,h1,h2,h3⟩
  rw [F.old b (hr.fresh b i h1)] at h2
  exact ⟨b,i,k,h1,h2,h3⟩
section
variable {call : CallT} {ops : Array Oper} {vals : Nat→Value} {As : Nat→TM} {Hs : Nat→CH} {idf : Nat→Nat} {a a0 : TM}
def valOf (ops : Array Oper) (vals : Nat→Value) (idf : Nat→Nat) (j : Nat) : Value :=
 match ops[j]? with
 | some o => cond (isAlloc o.op) (ptr (idf j) 0) (vals j)
 | none => vals j
theorem As_get (F : Facts ops) {n : Nat} (hn : n < 1048576) (hok : ∀ o ∈ ops.toList,operOk n o = true) (FL : Floats P ops.toList a a0 H (Hs 0) idf) (h0 : As 0 = a0) (hst : ∀ j,j < ops.size→StepAt P call ops vals As Hs j) : ∀ i,i ≤ ops.size →
  (∀ (j : Nat) (o : Oper) (d : Tmp),ops[j]? = some o→o.dst = some d→(isAlloc o.op = true ∨ j < i)→aget (As i) d = valOf ops vals idf j) ∧
  (∀ (t : Tmp),(∀ (j : Nat) (o : Oper),ops[j]? = some o→o.dst = some t→isAlloc o.op = false∧i ≤ j)→aget (As i) t = aget a t) := by
 intro i
 induction i with
 | zero =>
  intro _
  rw [h0]
  refine ⟨fun j o d hj hd h => ?_,fun t ht => ?_⟩
  ·have ha : isAlloc o.op = true := h.resolve_right (by omega)
   rw [FL.put j o d (by simpa using hj) ha hd]
   simp [valOf,hj,ha]
  ·exact FL.other t fun j o hj ha hd => by
    have := (ht j o (by simpa using hj) hd).1
    rw [ha] at this; cases this
 | succ i ih =>
  intro hi
  obtain ⟨ih1,ih2⟩ := ih (by omega)
  have ho : ops[i]? = some ops[i] := by simp
  have hs := hst i hi _ ho
  cases hal : isAlloc ops[i].op with
  | true =>
   rw [(hs.1 hal).1]
   refine ⟨fun j o d hj hd h => ih1 j o d hj hd ?_,fun t ht => ih2 t fun j o hj hd => ⟨(ht j o hj hd).1,by have := (ht j o hj hd).2; omega⟩⟩
   rcases h with h | h
   ·exact .inl h
   ·by_cases e : j = i
    ·subst e
     obtain rfl := Option.some.inj (ho.symm.trans hj)
     exact .inl hal
    ·exact .inr (by omega)
  | false =>
   rw [(hs.2 hal).2]
   have hdn : ∀ d,ops[i].dst = some d→@LT.lt Nat _ d n := fun d hd => by
    have := hok ops[i] (by simp)
    simp only [operOk,Bool.and_eq_true,hd] at this
    exact blt_iff.1 this.1
   refine ⟨fun j o d hj hd h => ?_,fun t ht => ?_⟩
   ·by_cases e : j = i
    ·subst e
     obtain rfl := Option.some.inj (ho.symm.trans hj)
     have := hdn d hd
     rw [hd,aget_put (by omega),if_pos rfl]
     simp [valOf,ho,hal]
    ·have h1 := ih1 j o d hj hd (h.imp id fun h => by omega)
     cases hd2 : ops[i].dst with
     | none => exact h1
     | some d2 =>
      have := hdn d2 hd2
      rw [aget_put (by omega),if_neg]
      ·exact h1
      ·rintro rfl
       exact e (F.uniq j i o _ d2 hj ho hd hd2)
   ·have h1 := ih2 t fun j o hj hd => ⟨(ht j o hj hd).1,by have := (ht j o hj hd).2; omega⟩
    cases hd2 : ops[i].dst with
    | none => exact h1
    | some d2 =>
     have := hdn d2 hd2
     rw [aget_put (by omega),if_neg]
     ·exact h1
     ·rintro rfl
      have := (ht i _ ho hd2).2
      omega
structure Inv (P : Program) (ops : Array Oper) (vals : Nat→Value) (Hs : Nat→CH) (idf : Nat→Nat) (a : TM) (n : Nat) (ρ0 : Ren) (H : CH) (w0 : World) (b0 : Act) (listed : Array Bool) (ρ : Ren) (p : Nat) (b : Act) (w : World) : Prop where
 size : listed.size = ops.size
 clos : ∀ i j,i < ops.size→j < ops.size→listed.getD i false = true→Bf ops j i→listed.getD j false = true
 pos : p ≤ ops.size
 eff : ∀ e,e < ops.size→effAt ops e = true→(listed.getD e false = true ↔ e < p)
 sim : Sim ρ0 ρ H (Hs p) w0 w
 fl : ∀ (j : Nat) (o : Oper) (t : TypeId),ops[j]? = some o→o.op = .alloc t→listed.getD j false = false→ρ (idf j) = none∧H.next ≤ idf j∧idf j < (Hs p).next∧∃ z,zeroOf P t = some z∧(Hs p).blks.get (idf j) = some (rowOf t z.cells)
 put : ∀ (j : Nat) (o : Oper) (d : Tmp),ops[j]? = some o→listed.getD j false = true→o.dst = some d→VR ρ (valOf ops vals idf j) (b.tmps.getD d Go.undef)
 oth : ∀ (t : Tmp),(∀ (j : Nat) (o : Oper),ops[j]? = some o→listed.getD j false = true→o.dst ≠ some t)→VR ρ (aget a t) (b.tmps.getD t Go.undef)
 len : n ≤ b.tmps.size
 defers : b.defers = b0.defers
theorem getD_setB (l : Array Bool) (i j : Nat) (hi : i < l.size) : (l.setIfInBounds i true).getD j false = if i = j then true else l.getD j false := by
 simp only [Array.getD_eq_getD_getElem?,Array.getElem?_setIfInBounds]
 by_cases e : i = j
 ·subst e; simp [hi]
 ·simp [e]
theorem Inv.reads (F : Facts ops) {n : Nat} (hn : n < 1048576) (hok : ∀ o ∈ ops.toList,operOk n o = true) (FL : Floats P ops.toList a a0 H (Hs 0) idf) (h0 : As 0 = a0) (hst : ∀ j,j < ops.size→StepAt P call ops vals As Hs j)
  {ρ0 : Ren} {w0 : World} {b0 b : Act} {listed : Array Bool} {p : Nat} (I : Inv P ops vals Hs idf a n ρ0 H w0 b0 listed ρ p b w) {i : Nat} {o : Oper} (hi : ops[i]? = some o) (hni : listed.getD i false = false) (hpre : ∀ j,j < ops.size→Bf ops j i→listed.getD j false = true)
  (hal : isAlloc o.op = false) {t : Tmp} (ht : t ∈ readsT ops o) : VR ρ (aget (As i) t) (b.tmps.getD t Go.undef) := by
 have hilt : i < ops.size := (Array.getElem?_eq_some_iff.1 hi).1
 obtain ⟨g1,g2⟩ := As_get F hn hok FL h0 hst i (by omega)
 by_cases hw : ∃ (j : Nat) (x : Oper),ops[j]? = some x∧x.dst = some t
 ·obtain ⟨j,x,hj,hx⟩ := hw
  have hjlt : j < ops.size := (Array.getElem?_eq_some_iff.1 hj).1
  have only : ∀ (j2 : Nat) (y : Oper),ops[j2]? = some y→y.dst = some t→j2 = j := fun j2 y h1 h2 => F.uniq j2 j y x t h1 hj h2 hx
  by_cases e : j = i
  ·subst e
   obtain rfl := Option.some.inj (hi.symm.trans hj)
   rw [g2 t fun j2 y h1 h2 => by
    obtain rfl := only j2 y h1 h2
    obtain rfl := Option.some.inj (hi.symm.trans h1)
    exact ⟨hal,Nat.le_refl _⟩]
   exact I.oth t fun j2 y h1 h2 h3 => by
    obtain rfl := only j2 y h1 h3
    rw [hni] at h2; cases h2
  ·rcases F.reads j i x o t hj hi hx ht e with hb | ⟨hna,hb⟩
   ·rw [g1 j x t hj hx (.inr (F.lt i j hilt hjlt hb))]
    exact I.put j x t hj (hpre j hjlt hb) hx
   ·have hnj : listed.getD j false = false := by
     cases h : listed.getD j false with
     | false => rfl
     | true => have := I.clos j i hjlt hilt h hb; rw [hni] at this; cases this
    rw [g2 t fun j2 y h1 h2 => by
     obtain rfl := only j2 y h1 h2
     obtain rfl := Option.some.inj (hj.symm.trans h1)
     exact ⟨hna,Nat.le_of_lt (F.lt j2 i hjlt hilt hb)⟩]
    exact I.oth t fun j2 y h1 h2 h3 => by
     obtain rfl := only j2 y h1 h3
     rw [hnj] at h2; cases h2
 ·rw [g2 t fun j y h1 h2 => (hw ⟨j,y,h1,h2⟩).elim]
  exact I.oth t fun j y h1 _ h3 => hw ⟨j,y,h1,h3⟩
theorem Inv.next_tmps (F : Facts ops) {n : Nat} {ρ0 ρ' : Ren} {w0 : World} {b0 b : Act} {listed : Array Bool} {p : Nat} (I : Inv P ops vals Hs idf a n ρ0 H w0 b0 listed ρ p b w) (hext : Ext ρ ρ') {i : Nat} {o : Oper} (hi : ops[i]? = some o) (hok : operOk n o = true) {v' : Value} (hv : VR ρ' (valOf ops vals idf i) v') :
  (∀ (j : Nat) (x : Oper) (d : Tmp),ops[j]? = some x→(listed.setIfInBounds i true).getD j false = true→x.dst = some d→VR ρ' (valOf ops vals idf j) ((b.put o.dst v').tmps.getD d Go.undef)) ∧
  (∀ (t : Tmp),(∀ (j : Nat) (x : Oper),ops[j]? = some x→(listed.setIfInBounds i true).getD j false = true→x.dst ≠ some t)→VR ρ' (aget a t) ((b.put o.dst v').tmps.getD t Go.undef)) ∧
  n ≤ (b.put o.dst v').tmps.size∧(b.put o.dst v').defers = b.defers := by
 have hilt : i < ops.size := (Array.getElem?_eq_some_iff.1 hi).1
 have his : i < listed.size := by rw [I.size]; exact hilt
 simp only [operOk,Bool.and_eq_true] at hok
 have hlen := I.len
 have hdl : ∀ d,o.dst = some d→@LT.lt Nat _ d b.tmps.size := fun d hd => by
  have := hok.1
  rw [hd] at this
  exact Nat.lt_of_lt_of_le (blt_iff.1 this) hlen
 have same : ∀ t : Tmp,o.dst ≠ some t→(b.put o.dst v').tmps.getD t Go.undef = b.tmps.getD t Go.undef := fun t ht => by
  cases hd : o.dst with
  | none => rfl
  | some d =>
   simp only [Act.put,getD_set]
   rw [if_neg]
   rintro ⟨rfl,_⟩
   exact ht hd
 refine ⟨fun j x d hj hl hd => ?_,fun t ht => ?_,?_,?_⟩
 ·rw [getD_setB _ _ _ his] at hl
  by_cases e : i = j
  ·subst e
   obtain rfl := Option.some.inj (hi.symm.trans hj)
   rw [hd]
   simp only [Act.put,getD_set]
   rw [if_pos ⟨trivial,hdl d hd⟩]
   exact hv
  ·simp only [e,if_false] at hl
   rw [same d fun h => e (F.uniq i j o x d hi hj h hd)]
   exact (I.put j x d hj hl hd).mono hext
 ·rw [same t (ht i o hi (by rw [getD_setB _ _ _ his]; simp))]
  exact (I.oth t fun j x hj hl => ht j x hj (by rw [getD_setB _ _ _ his]; by_cases e : i = j <;> simp [e,hl])).mono hext
 ·cases o.dst <;> simpa [Act.put] using hlen
 ·cases o.dst <;> rfl
end
end Go.CM

namespace Go.CM
open Go
variable {P : Program} {ρ : Ren} {H : CH} {w : World}
section
variable {call : CallT} {ops : Array Oper} {vals : Nat→Value} {As : Nat→TM} {Hs : Nat→CH} {idf : Nat→Nat} {a a0 : TM}
theorem clos_set {ops : Array Oper} {listed : Array Bool} (hs : listed.size = ops.size) (hc : ∀ i j,i < ops.size→j < ops.size→listed.getD i false = true→Bf ops j i→listed.getD j false = true) {i : Nat} (hi : i < ops.size)
  (hpre : ∀ j,j < ops.size→Bf ops j i→listed.getD j false = true) : ∀ k j,k < ops.size→j < ops.size→(listed.setIfInBounds i true).getD k false = true→Bf ops j k→(listed.setIfInBounds i true).getD j false = true := by
 intro k j hk hj hl hb
 rw [getD_setB _ _ _ (by omega)] at hl ⊢
 by_cases e : i = j
 ·simp [e]
 ·simp only [e,if_false]
  by_cases e2 : i = k
  ·subst e2; exact hpre j hj hb
  ·simp only [e2,if_false] at hl
   exact hc k j hk hj hl hb
theorem count_flip (p q : Nat→Bool) (i : Nat) (h1 : p i = true) (h2 : q i = false) (h3 : ∀ x,x ≠ i→p x = q x) : ∀ l : List Nat,l.Nodup→(i ∈ l→(l.filter p).length = (l.filter q).length + 1)∧(i ∉ l→(l.filter p).length = (l.filter q).length)
 | [],_ => ⟨fun h => by simp at h,fun _ => rfl⟩
 | x::l,hnd => by
  rw [List.nodup_cons] at hnd
  obtain ⟨hx,hnd⟩ := hnd
  obtain ⟨g1,g2⟩ := count_flip p q i h1 h2 h3 l hnd
  by_cases e : x = i
  ·subst e
   refine ⟨fun _ => ?_,fun h => by simp at h⟩
   rw [List.filter_cons,List.filter_cons,if_pos h1,if_neg (by rw [h2]; simp),List.length_cons,g2 hx]
  ·rw [List.filter_cons,List.filter_cons,h3 x e]
   refine ⟨fun h => ?_,fun h => ?_⟩
   ·have := g1 (by simpa [Ne.symm e] using h)
    cases hq : q x
    ·simpa using this
    ·simpa using this
   ·have := g2 (by simp at h; exact h.2)
    cases hq : q x
    ·simpa using this
    ·simpa using this
theorem draw_main (hcall : CallOK P call) (F : Facts ops) {n : Nat} (hn : n < 1048576) (hok : ∀ o ∈ ops.toList,operOk n o = true) (FL : Floats P ops.toList a a0 H (Hs 0) idf) (h0 : As 0 = a0) (hst : ∀ j,j < ops.size→StepAt P call ops vals As Hs j) {rs : List Rec}
  (hrec : ∀ j o,0 ≤ j→ops[j]? = some o→isAlloc o.op = false→isEff o.op = false→heapDep o.op = true→Region.wanted o (yieldC ops (As j)) = true→(⟨j,As j,o.op,vals j⟩ : Rec) ∈ rs)
  (hchk : recsChk P (Region.before ops) (effs ops) (((List.range' 0 (ops.size - 0)).filter (effAt ops)).map Hs++[Hs ops.size]) rs = true)
  {ρ0 : Ren} {w0 : World} {b0 : Act} {Q : Exit→Act→World→Prop}
  (hQ : ∀ ρ' w' b',Sim ρ0 ρ' H (Hs ops.size) w0 w'→TR ρ' n (As ops.size) b'.tmps→b'.defers = b0.defers→Q .normal b' w') :
  ∀ (fuel : Nat) (listed : Array Bool) (ρ : Ren) (p : Nat) (b : Act) (w : World),Inv P ops vals Hs idf a n ρ0 H w0 b0 listed ρ p b w→((List.range ops.size).filter fun i => !listed.getD i false).length = fuel →
   wpAny P .any ops Q fuel listed b w := by
 intro fuel
 induction fuel with
 | zero =>
  intro listed ρ p b w I hf
  have hall : ∀ i,i < ops.size→listed.getD i false = true := fun i hi => by
   have := List.filter_eq_nil_iff.1 (List.length_eq_zero_iff.1 hf) i (by simpa using hi)
   simpa using this
  have hp : Hs p = Hs ops.size := (Hs_eq hst ops.size I.pos (Nat.le_refl _) fun e h1 h2 => by
   cases he : effAt ops e with
   | false => rfl
   | true => have := (I.eff e h2 he).1 (hall e h2); omega).symm
  refine ⟨?_,?_⟩
  ·unfold Region.ready
   rw [List.filter_eq_nil_iff]
   intro i hi
   have hi' : i < ops.size := by simpa using hi
   have h1 := hall i hi'
   have h2 : listed.getD i true = true := by
    have hs : i < listed.size := by rw [I.size]; exact hi'
    simp only [Array.getD_eq_getD_getElem?,Array.getElem?_eq_getElem hs,Option.getD_some] at h1 ⊢
    exact h1
   simp [h2]
  ·refine hQ ρ w b (hp ▸ I.sim) ⟨I.len,fun t => ?_⟩ I.defers
   obtain ⟨g1,g2⟩ := As_get F hn hok FL h0 hst ops.size (Nat.le_refl _)
   by_cases hw : ∃ (j : Nat) (x : Oper),ops[j]? = some x∧x.dst = some t
   ·obtain ⟨j,x,hj,hx⟩ := hw
    have hjlt : j < ops.size := (Array.getElem?_eq_some_iff.1 hj).1
    rw [g1 j x t hj hx (.inr hjlt)]
    exact I.put j x t hj (hall j hjlt) hx
   ·rw [g2 t fun j y h1 h2 => (hw ⟨j,y,h1,h2⟩).elim]
    exact I.oth t fun j y h1 _ h3 => hw ⟨j,y,h1,h3⟩
 | succ fuel ih =>
  intro listed ρ p b w I hf
  have hsz := I.size
  have hready : ∀ i,i ∈ Region.ready .any ops listed ↔ i < ops.size∧listed.getD i false = false∧∃ o,ops[i]? = some o∧∀ e ∈ o.after.toList,Region.binds .any e = true→listed.getD e.on false = true := by
   intro i
   unfold Region.ready
   simp only [List.mem_filter,List.mem_range,Bool.and_eq_true,Bool.not_eq_true']
   constructor
   ·rintro ⟨h1,h2,h3⟩
    refine ⟨h1,?_,ops[i],by simp,fun e he hb => ?_⟩
    ·have hs : i < listed.size := by omega
     simp only [Array.getD_eq_getD_getElem?,Array.getElem?_eq_getElem hs,Option.getD_some] at h2 ⊢
     exact h2
    ·have ho : ops[i]? = some ops[i] := by simp
     rw [ho] at h3
     simp only [Option.map_some,Option.getD_some,Array.all_eq_true'] at h3
     have := h3 e (by simpa using he)
     simpa [hb] using this
   ·rintro ⟨h1,h2,o,h3,h4⟩
    refine ⟨h1,?_,?_⟩
    ·have hs : i < listed.size := by omega
     simp only [Array.getD_eq_getD_getElem?,Array.getElem?_eq_getElem hs,Option.getD_some] at h2 ⊢
     exact h2
    ·rw [h3]
     simp only [Option.map_some,Option.getD_some,Array.all_eq_true']
     intro e he
     cases hb : Region.binds .any e with
     | false => simp
     | true => simp [h4 e (by simpa using he) hb]
  refine ⟨fun hnil => ?_,fun i hi => ?_⟩
  ·exfalso
   have hex : ∃ i,i < ops.size∧listed.getD i false = false := by
    have : ((List.range ops.size).filter fun i => !listed.getD i false) ≠ [] := fun h => by rw [h] at hf; simp at hf
    obtain ⟨i,hi⟩ := List.exists_mem_of_ne_nil _ this
    simp only [List.mem_filter,List.mem_range,Bool.not_eq_true'] at hi
    exact ⟨i,hi⟩
   have key : ∀ i,i < ops.size→listed.getD i false = false→False := by
    intro i
    induction i using Nat.strongRecOn with
    | _ i ihi =>
     intro h1 h2
     have : i ∈ Region.ready .any ops listed := (hready i).2 ⟨h1,h2,ops[i],by simp,fun e he hb => by
      have h3 := F.edge i ops[i] (by simp) e he hb
      cases h4 : listed.getD e.on false with
      | true => rfl
      | false => exact (ihi e.on h3 (by omega) h4).elim⟩
     rw [hnil] at this
     cases this
   obtain ⟨i,h1,h2⟩ := hex
   exact key i h1 h2
  ·obtain ⟨hilt,hni,o,ho,hdir⟩ := (hready i).1 hi
   have his : i < listed.size := by omega
   have hpre : ∀ j,j < ops.size→Bf ops j i→listed.getD j false = true := fun j hj hb => by
    obtain ⟨e,he,h1,h2⟩ := F.clos i j o ho hj hb
    have h3 := hdir e he h1
    rcases h2 with h2 | h2
    ·rw [← h2]; exact h3
    ·have := F.edge i o ho e he h1
     exact I.clos e.on j (by omega) hj h3 h2
   have hmem : o ∈ ops.toList := by simpa using Array.mem_of_getElem? ho
   have hoko := hok o hmem
   have hcnt : ((List.range ops.size).filter fun k => !(listed.setIfInBounds i true).getD k false).length = fuel := by
    have h1 := count_flip (fun k => !listed.getD k false) (fun k => !(listed.setIfInBounds i true).getD k false) i (by simp only [hni]; rfl) (by simp only [getD_setB _ _ _ his]; simp)
     (fun x hx => by simp only [getD_setB _ _ _ his]; rw [if_neg (Ne.symm hx)])
    have := (h1 (List.range ops.size) List.nodup_range).1 (by simpa using hilt)
    omega
   have hclos := clos_set hsz I.clos hilt hpre
   have hsz' : (listed.setIfInBounds i true).size = ops.size := by simpa using hsz
   have hnotin : ∀ e,e < ops.size→listed.getD e false = true→¬ Bf ops i e := fun e he hl hb => by
    have := I.clos e i he hilt hl hb
    rw [hni] at this; cases this
   unfold wpOp
   rw [ho]
   simp only
   cases hal : isAlloc o.op with
   | true =>
    have hop : ∃ t,o.op = .alloc t := by cases hop : o.op <;> simp_all [isAlloc]
    obtain ⟨t,hop⟩ := hop
    have hg := F.allocG i o ho hal
    have hw : Region.wanted o (yielded ops b.tmps) = true := by simp [Region.wanted,hg]
    rw [if_pos hw]
    refine .inl ?_
    obtain ⟨f1,f2,f3,z,hz,f4⟩ := I.fl i o t ho hop hni
    have hsim := I.sim.float f1 f2 f3 f4 (zeroOf_pure hz ρ).cells
    have hrun : (execOp b.eval o).run P w = .ok (.value (.pointer (some ⟨w.heap.size,0,none⟩))) (w.alloc (.cells z.cells t)) := by
     unfold execOp
     rw [hop]
     simp [Instr.alloc,run_zeroOf hz,newVar,run_newRow]
    unfold Oper.wp
    rw [hrun,Oper.upon_value]
    have hne : isEff o.op = false := by rw [hop]; rfl
    have hext : Ext ρ (ρ.put (idf i) ⟨w.heap.size,0,z.cells.size,z.cells.size,0⟩) := Ext.put f1
    have hv : VR (ρ.put (idf i) ⟨w.heap.size,0,z.cells.size,z.cells.size,0⟩) (valOf ops vals idf i) (.pointer (some ⟨w.heap.size,0,none⟩)) := by
     have : valOf ops vals idf i = ptr (idf i) 0 := by simp [valOf,ho,hal]
     rw [this]
     exact .ptr (i := ⟨w.heap.size,0,z.cells.size,z.cells.size,0⟩) (Ren.put_same _ _ _)
    obtain ⟨t1,t2,t3,t4⟩ := I.next_tmps F hext ho hoko hv
    refine ih _ _ p _ _ { size := hsz',clos := hclos,pos := I.pos,eff := fun e he hee => ?_,sim := hsim,fl := fun j x t' hj hx hl => ?_,put := t1,oth := t2,len := t3,defers := t4.trans I.defers } hcnt
    ·rw [getD_setB _ _ _ his]
     by_cases e1 : i = e
     ·subst e1; simp [effAt,ho,hne] at hee
     ·simp only [e1,if_false]; exact I.eff e he hee
    ·rw [getD_setB _ _ _ his] at hl
     by_cases e1 : i = j
     ·simp [e1] at hl
     ·simp only [e1,if_false] at hl
      obtain ⟨q1,q2⟩ := I.fl j x t' hj hx hl
      refine ⟨?_,q2⟩
      rw [Ren.put_other]
      ·exact q1
      ·intro e2
       exact e1 (FL.inj i j o x (by simpa using ho) (by simpa using hj) hal (by rw [hx]; rfl) e2.symm)
   | false =>
    have hrd : ∀ t ∈ readsT ops o,VR ρ (aget (As i) t) (b.tmps.getD t Go.undef) := fun t ht => I.reads F hn hok FL h0 hst ho hni hpre hal ht
    have hoperand : ∀ x ∈ o.op.operands,VR ρ (aeval (As i) x) (b.eval x) := fun x hx => by
     simp only [operOk,Bool.and_eq_true] at hoko
     have hxo := List.all_eq_true.1 hoko.2 x (by simpa using hx)
     cases x with
     | tmp t =>
      exact hrd t (by
       unfold readsT
       simp only [List.mem_append,List.mem_filterMap]
       exact .inl ⟨.tmp t,by simpa using hx,rfl⟩)
     | const v => exact VR.of_pure ρ 100 v (by simpa [operandOk] using hxo)
     | global g => simp [operandOk] at hxo
     | func f => exact .funcA (.func f) .nil .nil
    have hwanted : Region.wanted o (yieldC ops (As i)) = Region.wanted o (yielded ops b.tmps) := by
     unfold Region.wanted
     cases hg : o.guard with
     | none => rfl
     | some gw =>
      obtain ⟨g,want⟩ := gw
      simp only
      rw [yield_of (ρ := ρ) ops g fun d hd => hrd d (by
       unfold readsT
       rw [hg]
       simp only [List.mem_append,hd]
       exact .inr (by simp))]
    have hvv : valOf ops vals idf i = vals i := by simp [valOf,ho,hal]
    have hp1 : ∀ e,e < ops.size→effAt ops e = true→Bf ops e i→e < p := fun e he hee hb => (I.eff e he hee).1 (hpre e he hb)
    have hp2 : ∀ e,e < ops.size→effAt ops e = true→e < p→¬ Bf ops i e := fun e he hee hlt => hnotin e he ((I.eff e he hee).2 hlt)
    cases hef : isEff o.op with
    | false =>
     have hstep := quiet_at F hst hrec hchk ho hef hal I.pos hp1 hp2
     refine step_sim' hcall I.sim.hr hoperand hwanted hstep (fun ρ' w' v' s1 s2 => ?_)
     rw [← hvv] at s2
     obtain ⟨t1,t2,t3,t4⟩ := I.next_tmps F s1.ext ho hoko s2
     refine ih _ _ p _ _ { size := hsz',clos := hclos,pos := I.pos,eff := fun e he hee => ?_,sim := I.sim.trans s1,fl := fun j x t' hj hx hl => ?_,put := t1,oth := t2,len := t3,defers := t4.trans I.defers } hcnt
     ·rw [getD_setB _ _ _ his]
      by_cases e1 : i = e
      ·subst e1; simp [effAt,ho,hef] at hee
      ·simp only [e1,if_false]; exact I.eff e he hee
     ·rw [getD_setB _ _ _ his] at hl
      by_cases e1 : i = j
      ·simp [e1] at hl
      ·simp only [e1,if_false] at hl
       obtain ⟨q1,q2,q3,z,q4,q5⟩ := I.fl j x t' hj hx hl
       refine ⟨?_,q2,q3,z,q4,q5⟩
       cases hq : ρ' (idf j) with
       | none => rfl
       | some bi => have := s1.fresh _ _ q1 hq; omega
    | true =>
     have hpi : p ≤ i := by
      rcases Nat.lt_or_ge i p with h | h
      ·have := (I.eff i hilt (by simp [effAt,ho,hef])).2 h
       rw [hni] at this; cases this
      ·exact h
     have hHs : Hs i = Hs p := Hs_eq hst i hpi (by omega) fun e h1 h2 => by
      cases he : effAt ops e with
      | false => rfl
      | true =>
       have helt : e < ops.size := by omega
       have heo : ops[e]? = some ops[e] := by simp
       have hb : Bf ops e i := F.eff e i _ o heo ho (by simpa [effAt,heo] using he) hef h2
       have := hp1 e helt he hb
       omega
     have hstep := ((hst i hilt o ho).2 hal).1
     rw [hHs] at hstep
     refine step_sim' hcall I.sim.hr hoperand hwanted hstep (fun ρ' w' v' s1 s2 => ?_)
     rw [← hvv] at s2
     obtain ⟨t1,t2,t3,t4⟩ := I.next_tmps F s1.ext ho hoko s2
     refine ih _ _ (i + 1) _ _ { size := hsz',clos := hclos,pos := hilt,eff := fun e he hee => ?_,sim := I.sim.trans s1,fl := fun j x t' hj hx hl => ?_,put := t1,oth := t2,len := t3,defers := t4.trans I.defers } hcnt
     ·rw [getD_setB _ _ _ his]
      by_cases e1 : i = e
      ·subst e1; simp
      ·simp only [e1,if_false]
       have heo : ops[e]? = some ops[e] := by simp
       have hee' : isEff ops[e].op = true := by simpa [effAt,heo] using hee
       constructor
       ·intro hl
        rcases Nat.lt_or_ge e (i + 1) with h | h
        ·exact h
        ·exact absurd (F.eff i e o _ ho heo hef hee' (by omega)) (hnotin e he hl)
       ·intro hlt
        exact hpre e he (F.eff e i _ o heo ho hee' hef (by omega))
     ·rw [getD_setB _ _ _ his] at hl
      by_cases e1 : i = j
      ·simp [e1] at hl
      ·simp only [e1,if_false] at hl
       obtain ⟨q1,q2,q3,z,q4,q5⟩ := I.fl j x t' hj hx hl
       refine ⟨?_,q2,Nat.lt_of_lt_of_le q3 s1.next,z,q4,?_⟩
       ·cases hq : ρ' (idf j) with
        | none => rfl
        | some bi => have := s1.fresh _ _ q1 hq; omega
       ·rw [s1.cf _ q3 q1]; exact q5
end
theorem evalDraw_sim {call : CallT} (hcall : CallOK P call) (hm : P.follows .mixedOrders = true) {n : Nat} (hn : n < 1048576) {ops : Array Oper} (hok : ∀ o ∈ ops.toList,operOk n o = true) (hd : drawOk ops = true) {Q : Exit→Act→World→Prop} (id : Nat) {a a1 : TM} {b : Act} {H1 : CH}
  (hr : HR ρ H w) (ht : TR ρ n a b.tmps) (h : evalDraw P call ops a H = some (a1,H1)) (hQ : ∀ ρ' w' b',Sim ρ ρ' H H1 w w'→TR ρ' n a1 b'.tmps→b'.defers = b.defers→Q .normal b' w') : (Code.region id ops true).wp P Q b w := by
 have F := facts_of hd
 unfold evalDraw at h
 cases hf : drawFloats P ops.toList a H with
 | none => simp [hf] at h
 | some r =>
  obtain ⟨a0,HF⟩ := r
  simp only [hf] at h
  cases ho : drawOps P call ops ops.toList 0 a0 HF [] [] with
  | none => simp [ho] at h
  | some r =>
   obtain ⟨a2,H2,hs,rs⟩ := r
   simp only [ho] at h
   cases hc : recsChk P (Region.before ops) (effs ops) hs.reverse rs with
   | false => simp [hc] at h
   | true =>
    simp only [hc,cond_true,Option.some.injEq,Prod.mk.injEq] at h
    obtain ⟨rfl,rfl⟩ := h
    obtain ⟨idf,FL⟩ := drawFloats_facts hn ops.toList (fun o ho => by
     have := hok o ho
     simp only [operOk,Bool.and_eq_true] at this
     exact this.1) (fun j1 j2 o1 o2 d h1 h2 h3 h4 => F.uniq j1 j2 o1 o2 d (by simpa using h1) (by simpa using h2) h3 h4) hf
    obtain ⟨vals,As,Hs,h1,h2,h3,h4,h5,h6,h7,_⟩ := drawOps_trace ops.toList 0 rfl (Nat.zero_le _) ho
    subst h1 h2 h3 h4
    rw [h6] at hc
    have hdr : HR ρ H w.drew := hr.of_heap rfl
    refine wp_region_any hm ?_
    refine draw_main hcall F hn hok FL rfl (fun j hj => h5 j (Nat.zero_le _) hj) h7 (by simpa using hc) (ρ0 := ρ) (w0 := w) (b0 := b) hQ ops.size _ ρ 0 b w.drew ?_ ?_
    ·have hlist : ∀ j,(Array.replicate ops.size false).getD j false = false := fun j => by
      simp only [Array.getD_eq_getD_getElem?,Array.getElem?_replicate]
      split <;> rfl
     refine { size := by simp,clos := fun i j _ _ hl => (by rw [hlist] at hl; cases hl),pos := Nat.zero_le _,eff := fun e _ _ => ⟨fun hl => (by rw [hlist] at hl; cases hl),fun hl => absurd hl (by omega)⟩,sim := (Sim.drew hr).trans (FL.sim hdr),fl := fun j o t hj hx _ => ?_,put := fun j o d _ hl => (by rw [hlist] at hl; cases hl),oth := fun t _ => ht.get t,len := ht.size,defers := rfl }
     have hlo := FL.lo j o (by simpa using hj) (by rw [hx]; rfl)
     exact ⟨hr.next_none hlo.1,hlo.1,hlo.2,FL.row j o t (by simpa using hj) hx⟩
    ·have hlist : ∀ j,(Array.replicate ops.size false).getD j false = false := fun j => by
      simp only [Array.getD_eq_getD_getElem?,Array.getElem?_replicate]
      split <;> rfl
     rw [List.filter_eq_self.2 fun i _ => by rw [hlist]; rfl]
     simp
end Go.CM

namespace Go.CM
open Go
variable {P : Program} {ρ : Ren} {H : CH} {w : World}
def CE.toExit : CE→Exit
 | .normal => .normal
 | .exit id => .exit id
 | .ret => .ret
def After (ρ : Ren) (H : CH) (w : World) (n : Nat) (b : Act) (e : CE) (a1 : TM) (H1 : CH) (Q : Exit→Act→World→Prop) : Prop :=
 ∀ ρ' w' b',Sim ρ ρ' H H1 w w'→TR ρ' n a1 b'.tmps→b'.defers = b.defers→Q e.toExit b' w'
theorem evalCode_sim {call : CallT} (hcall : CallOK P call) (hm : P.follows .mixedOrders = true) {n : Nat} (hn : n < 1048576) (lf : Nat) : ∀ (c : Code),codeOk n c = true→∀ {ρ : Ren} {H : CH} {w : World} {a : TM} {b : Act} {e : CE} {a1 : TM} {H1 : CH} {Q : Exit→Act→World→Prop},
  HR ρ H w→TR ρ n a b.tmps→evalCode P call lf c a H = some (e,a1,H1)→After ρ H w n b e a1 H1 Q→c.wp P Q b w := by
 intro c
 induction c with
 | skip =>
  intro _ ρ H w a b e a1 H1 Q hr ht h hQ
  simp only [evalCode,Option.some.injEq,Prod.mk.injEq] at h
  obtain ⟨rfl,rfl,rfl⟩ := h
  exact wp_skip (hQ ρ w b (Sim.refl hr) ht rfl)
 | region id ops draw =>
  intro hok ρ H w a b e a1 H1 Q hr ht h hQ
  simp only [codeOk,Bool.and_eq_true] at hok
  have hops : ∀ o ∈ ops.toList,operOk n o = true := fun o ho => by
   have := List.all_eq_true.1 hok.1 o ho
   exact this
  cases draw with
  | false =>
   simp only [evalCode] at h
   cases he : evalOps P call ops ops.toList a H with
   | none => simp [he] at h
   | some r =>
    obtain ⟨a2,H2⟩ := r
    simp only [he,Option.some.injEq,Prod.mk.injEq] at h
    obtain ⟨rfl,rfl,rfl⟩ := h
    exact evalRegion_sim hcall hn hops id hr ht he hQ
  | true =>
   simp only [evalCode] at h
   cases he : evalDraw P call ops a H with
   | none => simp [he] at h
   | some r =>
    obtain ⟨a2,H2⟩ := r
    simp only [he,Option.some.injEq,Prod.mk.injEq] at h
    obtain ⟨rfl,rfl,rfl⟩ := h
    exact evalDraw_sim hcall hm hn hops (by simpa using hok.2) id hr ht he hQ
 | seq x y ihx ihy =>
  intro hok ρ H w a b e a1 H1 Q hr ht h hQ
  simp only [codeOk,Bool.and_eq_true] at hok
  simp only [evalCode] at h
  refine wp_seq ?_
  split at h
  ·rename_i a2 H2 hx
   refine ihx hok.1 hr ht hx (fun ρ' w' b' s1 s2 s3 => ?_)
   exact ihy hok.2 s1.hr s2 h (fun ρ2 w2 b2 g1 g2 g3 => hQ ρ2 w2 b2 (s1.trans g1) g2 (g3.trans s3))
  ·rename_i id a2 H2 hx
   simp only [Option.some.injEq,Prod.mk.injEq] at h
   obtain ⟨rfl,rfl,rfl⟩ := h
   exact ihx hok.1 hr ht hx hQ
  ·rename_i a2 H2 hx
   simp only [Option.some.injEq,Prod.mk.injEq] at h
   obtain ⟨rfl,rfl,rfl⟩ := h
   exact ihx hok.1 hr ht hx hQ
  ·cases h
 | cond c x y ihx ihy =>
  intro hok ρ H w a b e a1 H1 Q hr ht h hQ
  simp only [codeOk,Bool.and_eq_true] at hok
  simp only [evalCode] at h
  have hc := ht.eval hok.1.1
  split at h
  ·rename_i hx
   rw [hx] at hc
   generalize hb : b.eval c = bc at hc
   cases hc
   exact wp_cond_true hb (ihx hok.1.2 hr ht h hQ)
  ·rename_i hx
   rw [hx] at hc
   generalize hb : b.eval c = bc at hc
   cases hc
   exact wp_cond_false hb (ihy hok.2 hr ht h hQ)
  ·cases h
 | block id c ih =>
  intro hok ρ H w a b e a1 H1 Q hr ht h hQ
  simp only [codeOk] at hok
  simp only [evalCode] at h
  refine wp_block ?_
  split at h
  ·rename_i id' a2 H2 hx
   refine ih hok hr ht hx (fun ρ' w' b' s1 s2 s3 => ?_)
   simp only [CE.toExit,Exit.inBlock]
   cases hb : Nat.beq id' id with
   | true =>
    simp only [hb,cond_true,Option.some.injEq,Prod.mk.injEq] at h
    obtain ⟨rfl,rfl,rfl⟩ := h
    rw [if_pos (of_beqT hb)]
    exact hQ ρ' w' b' s1 s2 s3
   | false =>
    simp only [hb,cond_false,Option.some.injEq,Prod.mk.injEq] at h
    obtain ⟨rfl,rfl,rfl⟩ := h
    rw [if_neg (of_beqF hb)]
    exact hQ ρ' w' b' s1 s2 s3
  ·rename_i a2 H2 hx
   simp only [Option.some.injEq,Prod.mk.injEq] at h
   obtain ⟨rfl,rfl,rfl⟩ := h
   exact ih hok hr ht hx hQ
  ·rename_i a2 H2 hx
   simp only [Option.some.injEq,Prod.mk.injEq] at h
   obtain ⟨rfl,rfl,rfl⟩ := h
   exact ih hok hr ht hx hQ
  ·cases h
 | loop c ih =>
  intro hok ρ H w a b e a1 H1 Q hr ht h hQ
  simp only [codeOk] at hok
  simp only [evalCode] at h
  refine wp_loop_rounds lf ?_
  have key : ∀ (m : Nat) {ρ : Ren} {H : CH} {w : World} {a : TM} {b : Act},HR ρ H w→TR ρ n a b.tmps→loopN (evalCode P call lf c) m a H = some (e,a1,H1)→After ρ H w n b e a1 H1 Q→Code.rounds P c Q m b w := by
   intro m
   induction m with
   | zero => intro ρ H w a b _ _ h _; simp [loopN] at h
   | succ m ihm =>
    intro ρ H w a b hr ht h hQ
    rw [rounds_succ]
    simp only [loopN] at h
    split at h
    ·rename_i a2 H2 hx
     refine ih hok hr ht hx (fun ρ' w' b' s1 s2 s3 => ?_)
     exact ihm s1.hr s2 h (fun ρ2 w2 b2 g1 g2 g3 => hQ ρ2 w2 b2 (s1.trans g1) g2 (g3.trans s3))
    ·rename_i id a2 H2 hx
     simp only [Option.some.injEq,Prod.mk.injEq] at h
     obtain ⟨rfl,rfl,rfl⟩ := h
     exact ih hok hr ht hx hQ
    ·rename_i a2 H2 hx
     simp only [Option.some.injEq,Prod.mk.injEq] at h
     obtain ⟨rfl,rfl,rfl⟩ := h
     exact ih hok hr ht hx hQ
    ·cases h
  exact key lf hr ht h hQ
 | exit id =>
  intro _ ρ H w a b e a1 H1 Q hr ht h hQ
  simp only [evalCode,Option.some.injEq,Prod.mk.injEq] at h
  obtain ⟨rfl,rfl,rfl⟩ := h
  exact wp_exit (hQ ρ w b (Sim.refl hr) ht rfl)
 | ret =>
  intro _ ρ H w a b e a1 H1 Q hr ht h hQ
  simp only [evalCode,Option.some.injEq,Prod.mk.injEq] at h
  obtain ⟨rfl,rfl,rfl⟩ := h
  exact wp_ret (hQ ρ w b (Sim.refl hr) ht rfl)
 | rangeFunc f ps x y => intro _ ρ H w a b e a1 H1 Q hr ht h hQ; simp [evalCode] at h
 | scope x => intro _ ρ H w a b e a1 H1 Q hr ht h hQ; simp [evalCode] at h
 | label l => intro _ ρ H w a b e a1 H1 Q hr ht h hQ; simp [evalCode] at h
 | goto l => intro _ ρ H w a b e a1 H1 Q hr ht h hQ; simp [evalCode] at h
 | refuse s => intro _ ρ H w a b e a1 H1 Q hr ht h hQ; simp [evalCode] at h
def resOf (b : Array Value) : ResultVar→Sem Value
 | .tmp t => pure (b.getD t Go.undef)
 | .cell a t => do loadVar t (← asAddr (b.getD a Go.undef))
theorem results_eq (fn : Func) (b : Array Value) : results fn b = (do let vs ← fn.results.mapM (resOf b); pure (if h : vs.size = 1 then vs[0] else .tuple vs)) := rfl
theorem run_results (hr : HR ρ H w) {n : Nat} {a : TM} {b : Array Value} (ht : TR ρ n a b) : ∀ (rs : List ResultVar) (l : List Value),cresults P H a rs = some l →
  ∃ l',(rs.mapM (resOf b)).run P w = .ok l' w∧LR ρ l l'
 | [],l,h => by simp [cresults] at h; subst h; exact ⟨[],rfl,.nil⟩
 | .tmp t::r,l,h => by
  simp only [cresults] at h
  cases hc : cresults P H a r with
  | none => simp [hc] at h
  | some l2 =>
   simp only [hc,Option.some.injEq] at h; subst h
   obtain ⟨l',h1,h2⟩ := run_results hr ht r l2 hc
   refine ⟨b.getD t Go.undef::l',?_,.cons (ht.get t) h2⟩
   simp only [List.mapM_cons,Sem.run_bind,resOf,Sem.run_pure,Result.andThen_ok,h1]
 | .cell c t::r,l,h => by
  simp only [cresults] at h
  have hg := ht.get c
  split at h
  ·rename_i p hp
   split at h
   ·rename_i hsp
    split at h
    ·rename_i v l2 hv hc
     simp only [Option.some.injEq] at h; subst h
     rw [hp] at hg
     obtain ⟨pb,po,sp⟩ := p
     simp only at hsp
     subst hsp
     obtain ⟨l',h1,h2⟩ := run_results hr ht r l2 hc
     generalize hbc : b.getD c Go.undef = bc at hg
     cases hg with
     | ptr hb =>
     obtain ⟨y,hy,hvy⟩ := hr.loadV (P := P) hb hv
     refine ⟨y::l',?_,.cons hvy h2⟩
     have hrun : (resOf b (.cell c t)).run P w = .ok y w := by
      simp only [resOf,Sem.run_bind]
      rw [hbc]
      simp only [asAddr,Sem.run_pure,Result.andThen_ok]
      exact hy
     simp only [List.mapM_cons,Sem.run_bind,hrun,Sem.run_pure,Result.andThen_ok,h1]
    ·cases h
   ·cases h
  ·cases h
theorem packR_rel {l l' : List Value} (h : LR ρ l l') : VR ρ (packR l) (if hs : l'.toArray.size = 1 then l'.toArray[0] else .tuple l'.toArray) := by
 cases h with
 | nil => exact .tupA AR.nil
 | cons hv hr =>
  cases hr with
  | nil => exact hv
  | cons hv2 hr2 =>
   rw [dif_neg (by simp)]
   exact .tupA (LR.toA (.cons hv (.cons hv2 hr2)))
theorem tOf_get : ∀ (l : List Value) (i t : Nat),i + l.length < 1048575→aget (tOf i l) t = if i ≤ t then l.getD (t - i) undV else undV
 | [],i,t,_ => by
  have : aget (tOf i []) t = undV := rfl
  rw [this]
  simp
 | v::r,i,t,h => by
  simp only [List.length_cons] at h
  have e : aget (tOf i (v::r)) t = if i = t then v else aget (tOf (i + 1) r) t := aget_put (a := tOf (i + 1) r) (d := i) (v := v) (by omega) t
  rw [e,tOf_get r (i + 1) t (by omega)]
  by_cases e1 : i = t
  ·subst e1; simp
  ·rw [if_neg e1]
   by_cases e2 : i ≤ t
   ·rw [if_pos e2,if_pos (by omega),show t - i = (t - (i + 1)) + 1 by omega]
    simp
   ·rw [if_neg e2,if_neg (by omega)]
theorem TR.args {args args' : Array Value} (h : AR ρ args args') {n : Nat} (hn : n < 1048575) (hs : args.size ≤ n) : TR ρ n (tOf 0 args.toList) (args'++Array.replicate (n - args'.size) Go.undef) := by
 refine ⟨by simp; omega,fun t => ?_⟩
 rw [tOf_get _ 0 t (by simp; omega),if_pos (Nat.zero_le _),Nat.sub_zero]
 by_cases ht : t < args.size
 ·have h1 : args[t]? = some args[t] := by simp
  obtain ⟨y,hy,hv⟩ := h.get h1
  have h2 : args.toList.getD t undV = args[t] := by simp [List.getD,ht]
  have h3 : (args'++Array.replicate (n - args'.size) Go.undef).getD t Go.undef = y := by
   have : t < args'.size := by rw [← h.1]; exact ht
   rw [Array.getD_eq_getD_getElem?,Array.getElem?_append_left this,hy]; rfl
  rw [h2,h3]; exact hv
 ·have h2 : args.toList.getD t undV = undV := by simp [List.getD,ht]
  have h3 : (args'++Array.replicate (n - args'.size) Go.undef).getD t Go.undef = Go.undef := by
   have : args'.size ≤ t := by rw [← h.1]; omega
   rw [Array.getD_eq_getD_getElem?,Array.getElem?_append_right this,Array.getElem?_replicate]
   split <;> rfl
  rw [h2,h3]; exact VR.undef ρ
structure Less (w w' : World) : Prop where
 os : w'.os = w.os
 tape : w'.tape = w.tape
 output : w'.output = w.output
 size : w.heap.size ≤ w'.heap.size
 same : ∀ n,n < w.heap.size→w'.heap[n]? = w.heap[n]?
 new : ∀ n,w.heap.size ≤ n→n < w'.heap.size→∃ (c : Array Value) (t : TypeId),w'.heap[n]? = some (Obj.cells c t (0,0))
theorem Less.sim {w' : World} (h : Less w w') (hr : HR ρ H w) : Sim ρ ρ H H w w' where
  ext := Ext.refl _
  hr := { fresh := hr.fresh,inj := hr.inj,blk := fun b i hb => by
            obtain ⟨k,h1,h2,h3,h4,h5⟩ := hr.blk b i hb
            exact ⟨k,h1,h2,h3,⟨Nat.lt_of_lt_of_le h4.1 h.size,h4.2⟩,fun hd => (h5 hd).mono (Ext.refl _) (h.same _ h4.1)⟩ }
  os := h.os
  tape := h.tape
  output := h.output
  size := h.size
  same := fun n hn _ => h.same n hn
  im := fun _ _ h => h
  form := fun n c t fz hc => ⟨c,by rw [h.same n (Array.getElem?_eq_some_iff.1 hc).1]; exact hc⟩
  new := h.new
  next := Nat.le_refl _
  fresh := fun b i h1 h2 => by rw [h1] at h2; cases h2
  cf := fun _ _ _ => rfl
def KnownOK (P : Program) (known : FuncId→Option Value) : Prop := ∀ f v,known f = some v →
 (∃ fn, P.funcs[f]? = some fn ∧ fn.body.isSome = true ∧ (fn.name == "runtime.NumGoroutine") = false) ∧ vpure 100 v = true ∧
 ∀ (w : World),Calls P f #[] w (fun e w' => e = .returned v∧Less w w')
theorem evalCall_ok (hm : P.follows .mixedOrders = true) {known : FuncId→Option Value} (hk : KnownOK P known) (lf : Nat) : ∀ n,CallOK P (evalCall P known lf n)
 | 0 => fun f args H v H' h => by simp [evalCall] at h
 | n + 1 => fun f args H v H' h => by
  simp only [evalCall] at h
  cases hkf : known f with
  | some u =>
   simp only [hkf] at h
   cases hz : Nat.beq args.size 0 with
   | false => simp [hz] at h
   | true =>
   simp only [hz,cond_true,Option.some.injEq,Prod.mk.injEq] at h
   obtain ⟨rfl,rfl⟩ := h
   obtain ⟨h1,h2,h3⟩ := hk f u hkf
   refine ⟨h1,fun ρ w args' hr ha => ?_⟩
   have h0 : args' = #[] := Array.eq_empty_of_size_eq_zero (by rw [← ha.1]; exact of_beqT hz)
   subst h0
   refine (h3 w).mono ?_
   rintro e w' ⟨rfl,hl⟩
   exact ⟨ρ,u,rfl,hl.sim hr,VR.of_pure ρ 100 u h2⟩
  | none =>
   simp only [hkf] at h
   cases hf : P.funcs[f]? with
   | none => simp [hf] at h
   | some fn =>
    simp only [hf] at h
    cases hok : (fnOk fn && Nat.ble args.size fn.ntmps) with
    | false => simp [hok] at h
    | true =>
     simp only [hok,cond_true] at h
     simp only [Bool.and_eq_true] at hok
     obtain ⟨hok1,hok2⟩ := hok
     have hargs := Nat.le_of_ble_eq_true hok2
     unfold fnOk at hok1
     simp only [Bool.and_eq_true] at hok1
     obtain ⟨⟨hk1,hk2⟩,hk3⟩ := hok1
     have hk1' : fn.ntmps < 1048575 := blt_iff.1 hk1
     cases hb : fn.body with
     | none => simp [hb] at h
     | some c =>
      simp only [hb] at h hk3
      refine ⟨⟨fn,hf ▸ rfl,by simp [hb],by simpa using hk2⟩,fun ρ w args' hr ha => ?_⟩
      refine calls_of_wp hf hb ?_
      have fin : ∀ {e : CE} {a1 : TM} {H1 : CH},(e = .normal ∨ e = .ret)→evalCode P (evalCall P known lf n) lf c (tOf 0 args.toList) H = some (e,a1,H1)→(cresults P H1 a1 fn.results.toList).map (fun l => (packR l,H1)) = some (v,H') →
        c.wp P (bodyPost P fn fun e w' => ∃ ρ' v',e = .returned v'∧Sim ρ ρ' H H' w w'∧VR ρ' v v') { tmps := args'++Array.replicate (fn.ntmps - args'.size) Go.undef,defers := [] } w := by
       intro e a1 H1 he hev hres
       cases hc : cresults P H1 a1 fn.results.toList with
       | none => simp [hc] at hres
       | some l =>
        simp only [hc,Option.map_some,Option.some.injEq,Prod.mk.injEq] at hres
        obtain ⟨rfl,rfl⟩ := hres
        refine evalCode_sim (evalCall_ok hm hk lf n) hm (by omega) lf c hk3 hr (TR.args ha hk1' hargs) hev (fun ρ' w' b' s1 s2 s3 => ?_)
        obtain ⟨l',r1,r2⟩ := run_results (P := P) s1.hr s2 fn.results.toList l hc
        have hrun : (results fn b'.tmps).run P w' = .ok (if hs : l'.toArray.size = 1 then l'.toArray[0] else .tuple l'.toArray) w' := by
         rw [results_eq]
         simp only [Sem.run_bind]
         rw [Array.mapM_eq_mapM_toList,Sem.run_map,r1]
         rfl
        have post : b'.defers = []∧∃ v',(results fn b'.tmps).run P w' = .ok v' w'∧∃ ρ' v'',Ending.returned v' = .returned v''∧Sim ρ ρ' H H1 w w'∧VR ρ' (packR l) v'' :=
         ⟨s3,_,hrun,ρ',_,rfl,s1,packR_rel r2⟩
        rcases he with rfl | rfl
        ·exact post
        ·exact post
      split at h
      ·cases h
      ·rename_i a1 H1 hev
       exact fin (.inl rfl) hev h
      ·rename_i a1 H1 hev
       exact fin (.inr rfl) hev h
      ·cases h
theorem HR.empty (w : World) : HR (fun _ => none) H0 w :=
 { fresh := fun b i h => (by cases h),blk := fun b i h => (by cases h),inj := fun b1 b2 i1 i2 k1 k2 h => (by cases h) }
theorem pure_call (hm : P.follows .mixedOrders = true) {known : FuncId→Option Value} (hk : KnownOK P known) {lf n : Nat} {f : FuncId} {args : Array Value} {b : Bool} {H' : CH} (ha : AR (fun _ => none) args args) (h : evalCall P known lf n f args H0 = some (.bool b,H')) (w : World) :
  Calls P f args w (fun e w' => e = .returned (.bool b)∧Less w w') := by
 refine ((evalCall_ok hm hk lf n f args H0 _ H' h).2 (fun _ => none) w args (HR.empty w) ha).mono ?_
 rintro e w' ⟨ρ',v',rfl,S,hv⟩
 cases hv
 have hno : ∀ n,¬ Im (fun _ => none) H0 n := fun n ⟨b,i,k,h,_⟩ => by cases h
 exact ⟨rfl,S.os,S.tape,S.output,S.size,fun n hn => S.same n hn (hno n),S.new⟩
theorem known0_ok : KnownOK P known0 := fun f v h => by cases h
def knownOf (f : FuncId) (b : Bool) : FuncId→Option Value := fun g => cond (Nat.beq f g) (some (.bool b)) none
theorem knownOf_ok {f : FuncId} {b : Bool} {fn : Func} (h1 : P.funcs[f]? = some fn) (h2 : fn.body.isSome = true) (h3 : (fn.name == "runtime.NumGoroutine") = false) (h : ∀ (w : World), Calls P f #[] w (fun e w' => e = .returned (.bool b) ∧ Less w w')) :
  KnownOK P (knownOf f b) := fun g v hg => by
 unfold knownOf at hg
 cases hb : Nat.beq f g with
 | false => simp [hb] at hg
 | true =>
  simp only [hb,cond_true,Option.some.injEq] at hg
  subst hg
  obtain rfl := of_beqT hb
  exact ⟨⟨fn,h1,h2,h3⟩,rfl,h⟩
end Go.CM

namespace Go.CM
open Go Go.ChangeShapes Go.WideShapes Go.ChangeAt Go.RowKit
theorem Less.below {W W' : World} (h : Less W W') : Below W.heap.size W W' := ⟨h.os,h.tape,h.output,h.size,h.same⟩
theorem Less.frozen {W W' : World} (h : Less W W') (a : Addr) : W'.frozen? a = W.frozen? a := by
 rcases Nat.lt_or_ge a.block W.heap.size with hlt | hge
 ·exact h.below.frozen hlt
 ·have h1 : W.frozen? a = false := by simp [World.frozen?,Array.getElem?_eq_none hge]
  rw [h1]
  rcases Nat.lt_or_ge a.block W'.heap.size with hlt | hge'
  ·obtain ⟨c,t,hc⟩ := h.new a.block hge hlt
   simp [World.frozen?,hc]
  ·simp [World.frozen?,Array.getElem?_eq_none hge']
theorem trodAll_stays {H : Type} {enc : TypeId × Value→H} {P : Program} {W W' : World} (hl : laidOutB P = true) (hb : Below W.heap.size W W') {sp : Nat→Bool} : ∀ (ts : List TypeId) (vs : List Value) (ds : List (DataW H)) (ps : List MemPlace),
  ts.all (fun t => P.readableRec t && decide (t < P.types.size)) = true→DataW.TrodAll enc P W 0 (fun _ => true) true ts vs ds ps→(∀ x ∈ ps,x.block < W.heap.size)→(∀ x ∈ ps,sp x.block = true)→DataW.TrodAll enc P W' 0 sp true ts vs ds ps
 | [],[],[],ps,_,h,_,_ => h
 | t::ts,v::vs,d::ds,ps,hr,h,h1,h2 => by
  obtain ⟨p,q,hp,hq,rfl⟩ := h
  simp only [List.all_cons,Bool.and_eq_true,decide_eq_true_eq] at hr
  exact ⟨p,q,WideElems.Trod_stays hl hr.1.1 hr.1.2 hp (fun x hx => hb.same (h1 x (by simp [hx]))) (fun x hx => h2 x (by simp [hx])),
   trodAll_stays hl hb ts vs ds q hr.2 hq (fun x hx => h1 x (by simp [hx])) (fun x hx => h2 x (by simp [hx])),rfl⟩
 | [],_::_,_,_,_,h,_,_ => h.elim
 | [],[],_::_,_,_,h,_,_ => h.elim
 | _::_,[],_,_,_,h,_,_ => h.elim
 | _::_,_::_,[],_,_,h,_,_ => h.elim
theorem law_post {H : Type} {enc : TypeId × Value→H} {P : Program} {fn : Func} {s : ChangeSpec} (hl : laidOutB P = true) (hread : fn.params.toList.all (fun t => P.readableRec t && decide (t < P.types.size)) = true) {tb : TypeId} (hres : fn.resultTypes = #[tb]) (hb : P.underlying tb = some .bool)
  (hvars : s.vars = []) {W W' : World} {args : Array Value} {ds gs : List (DataW H)} {before : List MemPlace} (hspec : (s.fn H (ds++gs)).results = [.lit (.bool true)]∧(s.fn H (ds++gs)).args = ds∧(s.fn H (ds++gs)).vars = [])
  (hW : DataW.Whole enc P fn.params.toList s.vars false W args.toList ds gs before) (hless : Less W W') : s.post enc P fn false true false false W args (.bool true) W' := by
 have hW' := hW
 obtain ⟨p,q,hA,hV,rfl,hfz,hnd⟩ := hW
 rw [hvars] at hV
 obtain ⟨rfl,rfl⟩ := trodVars_none hV
 obtain ⟨r1,r2,r3⟩ := hspec
 have hlt := fun x hx => hW'.lt x hx
 refine post_of_same (pa := p) (pv := []) hW' (fun b sp hd => ?_) (fun sp hsp => ?_) (fun sp _ => ?_) rfl (hless.below.frame _) hless.frozen (ok_one hres rfl (okWide_bool_mk hb true))
 ·rw [r1,hres]
  exact trodAll_mk1 (shut_bool hb true)
 ·rw [r2]
  exact trodAll_stays hl hless.below _ _ _ _ hread hA (fun x hx => hlt x (by simp [hx])) (fun x hx => hsp x (by simp [hx]))
 ·rw [hvars,r3]
  rfl
end Go.CM

namespace Go.CM
open Go Go.ChangeShapes Go.WideShapes Go.ChangeAt Go.RowKit
inductive CK where
 | int (k : IntKind)
 | bool
 | string
def CK.is : CK→Value→Prop
 | .int k,v => ∃ n,v = .int k n∧(Lit.int k n).wf = true
 | .bool,v => ∃ b,v = .bool b
 | .string,v => ∃ s,v = .string s
def CKs : List CK→List Value→Prop
 | [],[] => True
 | k::ks,v::vs => k.is v∧CKs ks vs
 | _,_ => False
theorem CKs.append : ∀ {a b : List CK} {u v : List Value},CKs a u→CKs b v→CKs (a++b) (u++v)
 | [],_,[],_,_,h => h
 | _::_,_,_::_,_,h,h' => ⟨h.1,CKs.append h.2 h'⟩
 | [],_,_::_,_,h,_ => h.elim
 | _::_,_,[],_,h,_ => h.elim
theorem CKs.cons {k : CK} {ks : List CK} {l : List Value} (h : CKs (k::ks) l) : ∃ v vs,l = v::vs∧k.is v∧CKs ks vs := by
 cases l with
 | nil => exact h.elim
 | cons v vs => exact ⟨v,vs,rfl,h.1,h.2⟩
theorem CKs.nil {l : List Value} (h : CKs [] l) : l = [] := by
 cases l with
 | nil => rfl
 | cons v vs => exact h.elim
def kindsF (kn : TypeId→Option (List CK)) (P : Program) : Nat→List Field→Option (List CK)
 | _,[] => some []
 | off,f::r =>
  match kn f.type,kindsF kn P (off + P.cellsOf f.type) r with
  | some a,some b => cond (Nat.beq f.offset off) (some (a++b)) none
  | _,_ => none
def kinds (P : Program) : Nat→TypeId→Option (List CK)
 | 0,_ => none
 | n + 1,t =>
  match P.underlying t with
  | some (.int k) => some [.int k]
  | some .bool => some [.bool]
  | some .string => some [.string]
  | some (.struct fs) => cond (Nat.beq (P.cellsOf t) ((fs.toList.map fun f => P.cellsOf f.type).sum)) (kindsF (kinds P n) P 0 fs.toList) none
  | _ => none
section
variable {H : Type} {enc : TypeId × Value→H} {P : Program} {w : World} {base : Nat} {sp : Nat→Bool} {held : Bool}
end
end Go.CM

