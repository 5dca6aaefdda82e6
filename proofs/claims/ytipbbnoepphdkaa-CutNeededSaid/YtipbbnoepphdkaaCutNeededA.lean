/- What CutNeeded's loops do: slices.IndexFunc by its closure, slices.ContainsFunc, cut.Needed and the document's Needed, of every need and stamps, each by its text; and contracts for calls of the two. No conditions beyond the ones each theorem states. -/
import Derived.Test.YtipbbnoepphdkaaProg
import Derived.Test.YtipbbnoepphdkaaCmC
namespace Go.Proofs.Ytipbbnoepphdkaa.cutNeeded
open Go Go.CM

theorem aget_put {a : TM} {d t : Nat} {v : Value} (h : d < 1048575) : aget (T.set 20 a d v) t = if d = t then v else aget a t := by
  unfold aget
  rw [T.get_set v 20 a d t (by omega)]
  by_cases e : d = t <;> simp [e]

def loopOf : Code → Option Code
  | .seq _ (.seq (.seq _ (.block _ (.loop c))) _) => some c
  | _ => none

theorem round (call : CallT) (lf : Nat) (a : TM) (H : CH) (c : Code) (hc : (Try.f124.body.bind loopOf) = some c)
    (b len cap i : Nat) (k1 k2 : Value) (h0 : aget a 0 = .slice (some ⟨b, 0, none⟩) len cap) (h1 : aget a 1 = .func (.func 72) #[] #[k1, k2])
    (h7 : aget a 7 = .int .i64 (Int.ofNat len)) (h8 : aget a 8 = .int .i64 (Int.ofNat i)) (hlt : i < len) (hl : len < 9223372036854775808) (x : Value) (hx : H.cell b i = some x) (r : Bool)
    (hcall : call 72 #[x, k1, k2] H = some (.bool r, H)) :
    ∃ a', evalCode Try.prog call lf c a H = some (cond r .ret .normal, a', H) ∧ aget a' 0 = aget a 0 ∧ aget a' 1 = aget a 1 ∧ aget a' 7 = aget a 7 ∧ (r = true → aget a' 4 = .int .i64 (Int.ofNat i)) ∧ (r = false → aget a' 8 = .int .i64 (Int.ofNat (i + 1))) := by
  simp only [Try.f124, Option.bind, loopOf, Option.some.injEq] at hc
  subst hc
  have hlt' : (i : Int) < len := by exact_mod_cast hlt
  have e1 : Try.prog.underlying 23 = some (.slice 22) := by kernel_rfl
  have e2 : szOf Try.prog 22 = some 1 := by kernel_rfl
  have e3 : isAggT Try.prog 22 = some false := by kernel_rfl
  have e4 : ∃ fn, Try.prog.funcs[72]? = some fn ∧ fn.body.isSome = true := ⟨Try.f72, Try.func72, by kernel_rfl⟩
  obtain ⟨fn, e5, e6⟩ := e4
  have ew : IntKind.i64.wrap ((i : Int) + 1) = (i : Int) + 1 := by
    have : (i : Int) + 1 = Int.ofNat (i + 1) := by simp
    rw [this]; exact wrap_small _ _ (by simp only [limK]; omega)
  cases r
  · simp [evalCode, evalOps, stepOp, Region.wanted, cop, aeval, aput, aget_put, h0, h1, h7, h8, hlt', cbin, cintOp, guardOk, cindexAt, e1, e2, e3, loadV, hx, ccall, ccallF, e5, e6, hcall, ptr, Option.map, ew]
  · simp [evalCode, evalOps, stepOp, Region.wanted, cop, aeval, aput, aget_put, h0, h1, h7, h8, hlt', cbin, cintOp, guardOk, cindexAt, e1, e2, e3, loadV, hx, ccall, ccallF, e5, e6, hcall, ptr, Option.map]

theorem round_end (call : CallT) (lf : Nat) (a : TM) (H : CH) (c : Code) (hc : (Try.f124.body.bind loopOf) = some c) (len : Nat)
    (h7 : aget a 7 = .int .i64 (Int.ofNat len)) (h8 : aget a 8 = .int .i64 (Int.ofNat len)) :
    ∃ a', evalCode Try.prog call lf c a H = some (.exit 0, a', H) := by
  simp only [Try.f124, Option.bind, loopOf, Option.some.injEq] at hc
  subst hc
  simp [evalCode, evalOps, stepOp, Region.wanted, cop, aeval, aput, aget_put, h7, h8, cbin, cintOp, guardOk, Option.map]

def first (p : Nat → Bool) : Nat → Nat → Option Nat
  | 0, _ => none
  | m + 1, i => cond (p i) (some i) (first p m (i + 1))

theorem rounds (call : CallT) (lf : Nat) (H : CH) (c : Code) (hc : (Try.f124.body.bind loopOf) = some c)
    (len cap : Nat) (ab : Option Addr) (k1 k2 : Value) (hl : len < 9223372036854775808) (p : Nat → Bool) (hp : ∀ i, i < len → ∃ b x, ab = some ⟨b, 0, none⟩ ∧ H.cell b i = some x ∧ call 72 #[x, k1, k2] H = some (.bool (p i), H)) :
    ∀ (m i n : Nat) (a : TM), i + m = len → m < n → aget a 0 = .slice ab len cap → aget a 1 = .func (.func 72) #[] #[k1, k2] →
      aget a 7 = .int .i64 (Int.ofNat len) → aget a 8 = .int .i64 (Int.ofNat i) →
      ∃ a', match first p m i with
        | some j => loopN (evalCode Try.prog call lf c) n a H = some (.ret, a', H) ∧ aget a' 4 = .int .i64 (Int.ofNat j)
        | none => loopN (evalCode Try.prog call lf c) n a H = some (.exit 0, a', H)
  | 0, i, n + 1, a, hi, _, h0, h1, h7, h8 => by
    obtain rfl : i = len := by omega
    obtain ⟨a', e⟩ := round_end call lf a H c hc i h7 h8
    exact ⟨a', by simp only [first, loopN, e]⟩
  | m + 1, i, n + 1, a, hi, hn, h0, h1, h7, h8 => by
    obtain ⟨b, x, rfl, hx, hcall⟩ := hp i (by omega)
    obtain ⟨a', e, g0, g1, g7, g4, g8⟩ := round call lf a H c hc b len cap i k1 k2 h0 h1 h7 h8 (by omega) hl x hx (p i) hcall
    cases hpi : p i with
    | true =>
      rw [hpi] at e g4
      exact ⟨a', by simp only [first, hpi, cond_true, loopN]; rw [e]; exact ⟨rfl, g4 rfl⟩⟩
    | false =>
      rw [hpi] at e g8
      obtain ⟨a2, r⟩ := rounds call lf H c hc len cap (some ⟨b, 0, none⟩) k1 k2 hl p hp m (i + 1) n a' (by omega) (by omega) (g0.trans h0) (g1.trans h1) (g7.trans h7) (g8 rfl)
      refine ⟨a2, ?_⟩
      simp only [first, hpi, cond_false, loopN]
      rw [e]
      exact r
  | 0, _, 0, _, _, h, _, _, _, _ => absurd h (by omega)
  | _ + 1, _, 0, _, _, h, _, _, _, _ => absurd h (by omega)

/-- What IndexFunc tells. -/
def idxV (p : Nat → Bool) (len : Nat) : Value :=
  match first p len 0 with
  | some j => .int .i64 (Int.ofNat j)
  | none => .int .i64 (-1)

theorem index_func (call : CallT) (lf : Nat) (H : CH) (len cap : Nat) (ab : Option Addr) (k1 k2 : Value) (hl : len < 9223372036854775808) (hlf : len < lf) (p : Nat → Bool) (hp : ∀ i, i < len → ∃ b x, ab = some ⟨b, 0, none⟩ ∧ H.cell b i = some x ∧ call 72 #[x, k1, k2] H = some (.bool (p i), H)) :
    CM.stepG Try.prog (funAt Try.prog []) call lf 124 #[.slice ab len cap, .func (.func 72) #[] #[k1, k2]] H = some (idxV p len, H) := by
  have e0 : funAt Try.prog [] 124 = some Try.f124 := by kernel_rfl
  have e1 : Try.prog.underlying 23 = some (.slice 22) := by kernel_rfl
  obtain ⟨pre, mid, c, post, hb⟩ : ∃ pre mid c post, Try.f124.body = some (.seq pre (.seq (.seq mid (.block 0 (.loop c))) post)) := ⟨_, _, _, _, rfl⟩
  have hc : (Try.f124.body.bind loopOf) = some c := by rw [hb]; rfl
  have h1 : ∃ a1, evalCode Try.prog call lf pre (tOf 0 [.slice ab len cap, .func (.func 72) #[] #[k1, k2]]) H = some (.normal, a1, H) ∧
      aget a1 0 = .slice ab len cap ∧ aget a1 1 = .func (.func 72) #[] #[k1, k2] := by
    simp only [Try.f124, Option.some.injEq, Code.seq.injEq, Code.block.injEq, Code.loop.injEq] at hb
    obtain ⟨rfl, _⟩ := hb
    simp [evalCode, evalOps, stepOp, Region.wanted, cop, aeval, aput, aget_put, tOf]
  obtain ⟨a1, r1, g0, g1⟩ := h1
  have h2 : ∃ a2, evalCode Try.prog call lf mid a1 H = some (.normal, a2, H) ∧
      aget a2 0 = .slice ab len cap ∧ aget a2 1 = .func (.func 72) #[] #[k1, k2] ∧ aget a2 7 = .int .i64 (Int.ofNat len) ∧ aget a2 8 = .int .i64 (Int.ofNat 0) := by
    simp only [Try.f124, Option.some.injEq, Code.seq.injEq, Code.block.injEq, Code.loop.injEq] at hb
    obtain ⟨_, ⟨rfl, _⟩, _⟩ := hb
    simp [evalCode, evalOps, stepOp, Region.wanted, cop, aeval, aput, aget_put, g0, g1, ccall, clen, e1, Option.map]
  obtain ⟨a2, r2, t0, t1, t7, t8⟩ := h2
  obtain ⟨a3, hr⟩ := rounds call lf H c hc len cap ab k1 k2 hl p hp len 0 lf a2 (by omega) hlf t0 t1 t7 t8
  have h4 : ∀ a, ∃ a4, evalCode Try.prog call lf post a H = some (.ret, a4, H) ∧ aget a4 4 = .int .i64 (-1) := by
    intro a
    simp only [Try.f124, Option.some.injEq, Code.seq.injEq, Code.block.injEq, Code.loop.injEq] at hb
    obtain ⟨_, _, rfl⟩ := hb
    simp [evalCode, evalOps, stepOp, Region.wanted, cop, aeval, aput, aget_put]
  have hn : Nat.ble 2 Try.f124.ntmps = true := by kernel_rfl
  have hres : Try.f124.results.toList = [.tmp 4] := by kernel_rfl
  simp only [CM.stepG, e0, hb, hres]
  have hs : (#[Value.slice ab len cap, .func (.func 72) #[] #[k1, k2]] : Array Value).size = 2 := rfl
  rw [hs, hn]
  unfold idxV
  cases hf : first p len 0 with
  | none =>
    rw [hf] at hr
    simp only at hr
    obtain ⟨a4, r4, u4⟩ := h4 a3
    simp only [cond_true, evalCode, r1, r2, hr, Nat.beq_refl, r4, cresults, u4, Option.map, packR]
  | some j =>
    rw [hf] at hr
    simp only at hr
    obtain ⟨hr1, hr2⟩ := hr
    simp only [cond_true, evalCode, r1, r2, hr1, cresults, hr2, Option.map, packR]

def asks (s t x : Nat) : Bool := decide (s ≤ x) && decide (x < t)

def bv : Value → Option Bool
  | .bool b => some b
  | _ => none
def yv (d : Option Tmp) (a : TM) : Option Bool :=
  match d with
  | some d => bv (aget a d)
  | none => none
theorem yv_some (d : Tmp) (a : TM) : yv (some d) a = bv (aget a d) := rfl
theorem bv_bool (b : Bool) : bv (.bool b) = some b := rfl
theorem yieldC_yv (ops : Array Oper) (a : TM) (j : Nat) : yieldC ops a j = yv ((ops[j]?).bind (·.dst)) a := by
  unfold yieldC yv
  cases (ops[j]?).bind (·.dst) with
  | none => rfl
  | some d =>
    simp only [Option.bind_some]
    unfold bv aget
    cases a.get d with
    | none => rfl
    | some v => cases v <;> rfl

theorem asks_ok (call : CallT) (lf : Nat) (H : CH) (b1 b2 x s t : Nat) (hs : H.cell b1 0 = some (.int .u64 (Int.ofNat s))) (ht : H.cell b2 0 = some (.int .u64 (Int.ofNat t))) :
    CM.stepG Try.prog (funAt Try.prog []) call lf 72 #[.int .u64 (Int.ofNat x), ptr b1 0, ptr b2 0] H = some (.bool (asks s t x), H) := by
  have e0 : funAt Try.prog [] 72 = some Try.f72 := by kernel_rfl
  have e3 : isAggT Try.prog 22 = some false := by kernel_rfl
  have hn : Nat.ble 3 Try.f72.ntmps = true := by kernel_rfl
  have hres : Try.f72.results.toList = [.tmp 4] := by kernel_rfl
  obtain ⟨c, hb⟩ : ∃ c, Try.f72.body = some c := ⟨_, rfl⟩
  have h1 : ∃ a1, evalCode Try.prog call lf c (tOf 0 [.int .u64 (Int.ofNat x), ptr b1 0, ptr b2 0]) H = some (.ret, a1, H) ∧ aget a1 4 = .bool (asks s t x) := by
    simp only [Try.f72, Option.some.injEq] at hb
    subst hb
    by_cases h : s ≤ x
    · by_cases h2 : x < t
      · simp only [evalCode, evalOps, stepOp, Region.wanted, yieldC_yv, List.getElem?_toArray, List.getElem?_cons_succ, List.getElem?_cons_zero, Option.bind_some, yv_some, cop, aeval, aput, ptr, loadV, e3, guardOk, cbin, cintOp]
        simp [aget_put, tOf, hs, ht, Option.map, asks, h, h2, bv]
      · simp only [evalCode, evalOps, stepOp, Region.wanted, yieldC_yv, List.getElem?_toArray, List.getElem?_cons_succ, List.getElem?_cons_zero, Option.bind_some, yv_some, cop, aeval, aput, ptr, loadV, e3, guardOk, cbin, cintOp]
        simp [aget_put, tOf, hs, ht, Option.map, asks, h, h2, bv]
    · simp only [evalCode, evalOps, stepOp, Region.wanted, yieldC_yv, List.getElem?_toArray, List.getElem?_cons_succ, List.getElem?_cons_zero, Option.bind_some, yv_some, cop, aeval, aput, ptr, loadV, e3, guardOk, cbin, cintOp]
      simp [aget_put, tOf, hs, Option.map, asks, h, bv]
  obtain ⟨a1, r1, g⟩ := h1
  simp only [CM.stepG, e0, hb, hres]
  have hz : (#[Value.int .u64 (Int.ofNat x), ptr b1 0, ptr b2 0] : Array Value).size = 3 := rfl
  rw [hz, hn]
  simp only [cond_true, r1, cresults, g, Option.map, packR]

def loop13 : Code → Option Code
  | .seq _ (.seq _ (.seq _ (.seq (.seq _ (.block _ (.loop c))) _))) => some c
  | _ => none

theorem round13 (call : CallT) (lf : Nat) (a : TM) (H : CH) (c : Code) (hc : (Try.f13.body.bind loop13) = some c)
    (nb b len cap i s t x : Nat) (h1 : aget a 1 = .int .u64 (Int.ofNat s)) (h2 : aget a 2 = .int .u64 (Int.ofNat t)) (h3 : aget a 3 = ptr nb 0)
    (h7 : aget a 7 = .int .i64 (Int.ofNat i)) (hn : H.cell nb 1 = some (.slice (some ⟨b, 0, none⟩) len cap)) (hlt : i < len) (hl : len < 9223372036854775808) (hx : H.cell b i = some (.int .u64 (Int.ofNat x))) :
    ∃ a', evalCode Try.prog call lf c a H = some (cond (asks s t x) .ret .normal, a', H) ∧ aget a' 1 = aget a 1 ∧ aget a' 2 = aget a 2 ∧ aget a' 3 = aget a 3 ∧ (asks s t x = true → aget a' 6 = .bool true) ∧ (asks s t x = false → aget a' 7 = .int .i64 (Int.ofNat (i + 1))) := by
  simp only [Try.f13, Option.bind, loop13, Option.some.injEq] at hc
  subst hc
  have hlt' : (i : Int) < len := by exact_mod_cast hlt
  have e1 : Try.prog.underlying 23 = some (.slice 22) := by kernel_rfl
  have e2 : szOf Try.prog 22 = some 1 := by kernel_rfl
  have e3 : isAggT Try.prog 22 = some false := by kernel_rfl
  have e4 : isAggT Try.prog 23 = some false := by kernel_rfl
  have e5 : ∀ b, cfieldAt Try.prog 25 (.pointer (some ⟨b, 0, none⟩)) 1 = some (.pointer (some ⟨b, 1, none⟩)) := fun b => by kernel_rfl
  have ew : IntKind.i64.wrap ((i : Int) + 1) = (i : Int) + 1 := by
    have : (i : Int) + 1 = Int.ofNat (i + 1) := by simp
    rw [this]; exact wrap_small _ _ (by simp only [limK]; omega)
  by_cases g : s ≤ x
  · by_cases g2 : x < t
    · simp only [evalCode, evalOps, stepOp, Region.wanted, yieldC_yv, List.getElem?_toArray, List.getElem?_cons_succ, List.getElem?_cons_zero, Option.bind_some, yv_some, cop, aeval, aput, loadV, e3, e4, guardOk, cbin, cintOp]
      simp [aget_put, aeval, h1, h2, h3, h7, e5, hn, ptr, hx, Option.map, asks, g, g2, bv, cbin, cintOp, ccall, clen, e1, e2, cindexAt, hlt', hlt]
    · simp only [evalCode, evalOps, stepOp, Region.wanted, yieldC_yv, List.getElem?_toArray, List.getElem?_cons_succ, List.getElem?_cons_zero, Option.bind_some, yv_some, cop, aeval, aput, loadV, e3, e4, guardOk, cbin, cintOp]
      simp [aget_put, aeval, h1, h2, h3, h7, e5, hn, ptr, hx, Option.map, asks, g, g2, bv, cbin, cintOp, ccall, clen, e1, e2, cindexAt, hlt', hlt, ew]
  · simp only [evalCode, evalOps, stepOp, Region.wanted, yieldC_yv, List.getElem?_toArray, List.getElem?_cons_succ, List.getElem?_cons_zero, Option.bind_some, yv_some, cop, aeval, aput, loadV, e3, e4, guardOk, cbin, cintOp]
    simp [aget_put, aeval, h1, h2, h3, h7, e5, hn, ptr, hx, Option.map, asks, g, bv, cbin, cintOp, ccall, clen, e1, e2, cindexAt, hlt', hlt, ew]

theorem round13_end (call : CallT) (lf : Nat) (a : TM) (H : CH) (c : Code) (hc : (Try.f13.body.bind loop13) = some c)
    (nb len cap : Nat) (ab : Option Addr) (h3 : aget a 3 = ptr nb 0)
    (h7 : aget a 7 = .int .i64 (Int.ofNat len)) (hn : H.cell nb 1 = some (.slice ab len cap)) :
    ∃ a', evalCode Try.prog call lf c a H = some (.exit 0, a', H) := by
  simp only [Try.f13, Option.bind, loop13, Option.some.injEq] at hc
  subst hc
  have e1 : Try.prog.underlying 23 = some (.slice 22) := by kernel_rfl
  have e4 : isAggT Try.prog 23 = some false := by kernel_rfl
  have e5 : ∀ b, cfieldAt Try.prog 25 (.pointer (some ⟨b, 0, none⟩)) 1 = some (.pointer (some ⟨b, 1, none⟩)) := fun b => by kernel_rfl
  simp only [evalCode, evalOps, stepOp, Region.wanted, cop, aeval, aput, loadV, e4, guardOk, cbin, cintOp]
  simp [aget_put, aeval, h3, h7, e5, hn, ptr, Option.map, cbin, cintOp, ccall, clen, e1]

theorem rounds13 (call : CallT) (lf : Nat) (H : CH) (c : Code) (hc : (Try.f13.body.bind loop13) = some c)
    (nb len cap s t : Nat) (ab : Option Addr) (f : Nat → Nat) (hn : H.cell nb 1 = some (.slice ab len cap)) (hl : len < 9223372036854775808)
    (hx : ∀ i, i < len → ∃ b, ab = some ⟨b, 0, none⟩ ∧ H.cell b i = some (.int .u64 (Int.ofNat (f i)))) :
    ∀ (m i n : Nat) (a : TM), i + m = len → m < n → aget a 1 = .int .u64 (Int.ofNat s) → aget a 2 = .int .u64 (Int.ofNat t) → aget a 3 = ptr nb 0 →
      aget a 7 = .int .i64 (Int.ofNat i) →
      ∃ a', match first (fun i => asks s t (f i)) m i with
        | some _ => loopN (evalCode Try.prog call lf c) n a H = some (.ret, a', H) ∧ aget a' 6 = .bool true
        | none => loopN (evalCode Try.prog call lf c) n a H = some (.exit 0, a', H)
  | 0, i, n + 1, a, hi, _, h1, h2, h3, h7 => by
    obtain rfl : i = len := by omega
    obtain ⟨a', e⟩ := round13_end call lf a H c hc nb i cap ab h3 h7 hn
    exact ⟨a', by simp only [first, loopN, e]⟩
  | m + 1, i, n + 1, a, hi, hm, h1, h2, h3, h7 => by
    obtain ⟨b, rfl, hxi⟩ := hx i (by omega)
    obtain ⟨a', e, g1, g2, g3, g6, g7⟩ := round13 call lf a H c hc nb b len cap i s t (f i) h1 h2 h3 h7 hn (by omega) hl hxi
    cases hpi : asks s t (f i) with
    | true =>
      rw [hpi] at e g6
      exact ⟨a', by simp only [first, hpi, cond_true, loopN]; rw [e]; exact ⟨rfl, g6 rfl⟩⟩
    | false =>
      rw [hpi] at e g7
      obtain ⟨a2, r⟩ := rounds13 call lf H c hc nb len cap s t (some ⟨b, 0, none⟩) f hn hl hx m (i + 1) n a' (by omega) (by omega) (g1.trans h1) (g2.trans h2) (g3.trans h3) (g7 rfl)
      refine ⟨a2, ?_⟩
      simp only [first, hpi, cond_false, loopN]
      rw [e]
      exact r
  | 0, _, 0, _, _, h, _, _, _, _ => absurd h (by omega)
  | _ + 1, _, 0, _, _, h, _, _, _, _ => absurd h (by omega)

theorem new_row_cell {H : CH} {t : TypeId} {cs : Array Value} {j : Nat} {v : Value} (h : cs[j]? = some v) : (H.new (rowOf t cs)).cell H.next j = some v := by
  unfold CH.cell CH.live
  rw [CH.new_get, if_pos rfl]
  show (rowOf t cs).get j = some v
  have e : (rowOf t cs).get j = cond (Nat.blt j cs.size) (cs[j]?) none := rfl
  rw [e, blt_iff.2 (Array.getElem?_eq_some_iff.1 h).1, h]
  rfl

def needed (fl s t : Nat) (f : Nat → Nat) (len : Nat) : Bool :=
  cond (decide (t ≤ s)) false (cond (decide (fl < t)) true (first (fun i => asks s t (f i)) len 0).isSome)

theorem needed13 (call : CallT) (lf : Nat) (H : CH) (fl s t len cap : Nat) (ab : Option Addr) (f : Nat → Nat) (hl : len < 9223372036854775808) (hlf : len < lf)
    (hx : ∀ i, i < len → ∃ b, ab = some ⟨b, 0, none⟩ ∧ b ≠ H.next ∧ H.cell b i = some (.int .u64 (Int.ofNat (f i)))) :
    CM.stepG Try.prog (funAt Try.prog []) call lf 13 #[.agg #[.int .u64 (Int.ofNat fl), .slice ab len cap], .int .u64 (Int.ofNat s), .int .u64 (Int.ofNat t)] H =
      some (.bool (needed fl s t f len), H.new (rowOf 25 #[.int .u64 (Int.ofNat fl), .slice ab len cap])) := by
  have e0 : funAt Try.prog [] 13 = some Try.f13 := by kernel_rfl
  have e3 : isAggT Try.prog 22 = some false := by kernel_rfl
  have e5 : ∀ b, cfieldAt Try.prog 25 (.pointer (some ⟨b, 0, none⟩)) 0 = some (.pointer (some ⟨b, 0, none⟩)) := fun b => by kernel_rfl
  let A : Value := .agg #[.int .u64 (Int.ofNat fl), .slice ab len cap]
  let H1 : CH := H.new (rowOf 25 #[.int .u64 (Int.ofNat fl), .slice ab len cap])
  have c0 : H1.cell H.next 0 = some (.int .u64 (Int.ofNat fl)) := new_row_cell rfl
  have c1 : H1.cell H.next 1 = some (.slice ab len cap) := new_row_cell rfl
  have cx : ∀ i, i < len → ∃ b, ab = some ⟨b, 0, none⟩ ∧ H1.cell b i = some (.int .u64 (Int.ofNat (f i))) := fun i hi => by
    obtain ⟨b, h1, h2, h3⟩ := hx i hi
    refine ⟨b, h1, ?_⟩
    rw [← h3]
    simp [H1, CH.cell, CH.live, CH.new_get, Ne.symm h2]
  obtain ⟨r0, s1, s2, r5, c, post, hb⟩ : ∃ r0 s1 s2 r5 c post, Try.f13.body = some (.seq r0 (.seq s1 (.seq s2 (.seq (.seq r5 (.block 0 (.loop c))) post)))) := ⟨_, _, _, _, _, _, rfl⟩
  have hc : (Try.f13.body.bind loop13) = some c := by rw [hb]; rfl
  have h1 : ∃ a1, evalCode Try.prog call lf r0 (tOf 0 [A, .int .u64 (Int.ofNat s), .int .u64 (Int.ofNat t)]) H = some (.normal, a1, H1) ∧
      aget a1 1 = .int .u64 (Int.ofNat s) ∧ aget a1 2 = .int .u64 (Int.ofNat t) ∧ aget a1 3 = ptr H.next 0 := by
    simp only [Try.f13, Option.some.injEq, Code.seq.injEq, Code.block.injEq, Code.loop.injEq] at hb
    obtain ⟨rfl, _⟩ := hb
    simp [evalCode, evalOps, stepOp, Region.wanted, cop, aeval, aput, aget_put, tOf, A, H1, Value.cells]
  obtain ⟨a1, q1, g1, g2, g3⟩ := h1
  have h2 : ∃ a2, evalCode Try.prog call lf s1 a1 H1 = some (cond (decide (t ≤ s)) .ret .normal, a2, H1) ∧ (t ≤ s → aget a2 6 = .bool false) ∧
      aget a2 1 = .int .u64 (Int.ofNat s) ∧ aget a2 2 = .int .u64 (Int.ofNat t) ∧ aget a2 3 = ptr H.next 0 := by
    simp only [Try.f13, Option.some.injEq, Code.seq.injEq, Code.block.injEq, Code.loop.injEq] at hb
    obtain ⟨_, rfl, _⟩ := hb
    by_cases g : t ≤ s
    · simp [evalCode, evalOps, stepOp, Region.wanted, cop, aeval, aput, aget_put, g1, g2, g3, guardOk, cbin, cintOp, g, Option.map]
    · simp [evalCode, evalOps, stepOp, Region.wanted, cop, aeval, aput, aget_put, g1, g2, g3, guardOk, cbin, cintOp, g, Option.map]
  obtain ⟨a2, q2, k6, k1, k2, k3⟩ := h2
  have h3 : ∃ a3, evalCode Try.prog call lf s2 a2 H1 = some (cond (decide (fl < t)) .ret .normal, a3, H1) ∧ (fl < t → aget a3 6 = .bool true) ∧
      aget a3 1 = .int .u64 (Int.ofNat s) ∧ aget a3 2 = .int .u64 (Int.ofNat t) ∧ aget a3 3 = ptr H.next 0 := by
    simp only [Try.f13, Option.some.injEq, Code.seq.injEq, Code.block.injEq, Code.loop.injEq] at hb
    obtain ⟨_, _, rfl, _⟩ := hb
    by_cases g : fl < t
    · simp [evalCode, evalOps, stepOp, Region.wanted, cop, aeval, aput, aget_put, k1, k2, k3, guardOk, cbin, cintOp, g, Option.map, e5, ptr, loadV, e3, c0]
    · simp [evalCode, evalOps, stepOp, Region.wanted, cop, aeval, aput, aget_put, k1, k2, k3, guardOk, cbin, cintOp, g, Option.map, e5, ptr, loadV, e3, c0]
  obtain ⟨a3, q3, l6, l1, l2, l3⟩ := h3
  have h4 : ∃ a4, evalCode Try.prog call lf r5 a3 H1 = some (.normal, a4, H1) ∧ aget a4 7 = .int .i64 (Int.ofNat 0) ∧
      aget a4 1 = .int .u64 (Int.ofNat s) ∧ aget a4 2 = .int .u64 (Int.ofNat t) ∧ aget a4 3 = ptr H.next 0 := by
    simp only [Try.f13, Option.some.injEq, Code.seq.injEq, Code.block.injEq, Code.loop.injEq] at hb
    obtain ⟨_, _, _, ⟨rfl, _⟩, _⟩ := hb
    simp [evalCode, evalOps, stepOp, Region.wanted, cop, aeval, aput, aget_put, l1, l2, l3]
  obtain ⟨a4, q4, m7, m1, m2, m3⟩ := h4
  obtain ⟨a5, hr⟩ := rounds13 call lf H1 c hc H.next len cap s t ab f c1 hl cx len 0 lf a4 (by omega) hlf m1 m2 m3 m7
  have h6 : ∀ a, ∃ a6, evalCode Try.prog call lf post a H1 = some (.ret, a6, H1) ∧ aget a6 6 = .bool false := by
    intro a
    simp only [Try.f13, Option.some.injEq, Code.seq.injEq, Code.block.injEq, Code.loop.injEq] at hb
    obtain ⟨_, _, _, _, rfl⟩ := hb
    simp [evalCode, evalOps, stepOp, Region.wanted, cop, aeval, aput, aget_put]
  have hn : Nat.ble 3 Try.f13.ntmps = true := by kernel_rfl
  have hres : Try.f13.results.toList = [.tmp 6] := by kernel_rfl
  have hz : (#[A, .int .u64 (Int.ofNat s), .int .u64 (Int.ofNat t)] : Array Value).size = 3 := rfl
  show CM.stepG Try.prog (funAt Try.prog []) call lf 13 #[A, .int .u64 (Int.ofNat s), .int .u64 (Int.ofNat t)] H = some (.bool (needed fl s t f len), H1)
  simp only [CM.stepG, e0, hb, hres]
  rw [hz, hn]
  unfold needed
  by_cases g : t ≤ s
  · simp only [g, decide_true, cond_true] at q2 k6 ⊢
    simp only [evalCode, q1, q2, cresults, k6 trivial, Option.map, packR]
  · simp only [g, decide_false, cond_false, cond_true] at q2 ⊢
    by_cases g' : fl < t
    · simp only [g', decide_true, cond_true] at q3 l6 ⊢
      simp only [evalCode, q1, q2, q3, cresults, l6 trivial, Option.map, packR]
    · simp only [g', decide_false, cond_false] at q3 ⊢
      cases hf : first (fun i => asks s t (f i)) len 0 with
      | none =>
        rw [hf] at hr
        simp only at hr
        obtain ⟨a6, r6, u6⟩ := h6 a5
        simp only [evalCode, q1, q2, q3, q4, hr, Nat.beq_refl, cond_true, r6, cresults, u6, Option.map, packR, Option.isSome]
      | some j =>
        rw [hf] at hr
        simp only at hr
        obtain ⟨hr1, hr2⟩ := hr
        simp only [evalCode, q1, q2, q3, q4, hr1, cresults, hr2, Option.map, packR, Option.isSome]

theorem contains73 (call : CallT) (lf : Nat) (H : CH) (sl fn : Value) (p : Nat → Bool) (len : Nat) (hcall : call 124 #[sl, fn] H = some (idxV p len, H)) :
    CM.stepG Try.prog (funAt Try.prog []) call lf 73 #[sl, fn] H = some (.bool (first p len 0).isSome, H) := by
  have e0 : funAt Try.prog [] 73 = some Try.f73 := by kernel_rfl
  have hn : Nat.ble 2 Try.f73.ntmps = true := by kernel_rfl
  have hres : Try.f73.results.toList = [.tmp 4] := by kernel_rfl
  have e4 : ∃ fn, Try.prog.funcs[124]? = some fn ∧ fn.body.isSome = true := ⟨Try.f124, Try.func124, by kernel_rfl⟩
  obtain ⟨fn', e5, e6⟩ := e4
  obtain ⟨c, hb⟩ : ∃ c, Try.f73.body = some c := ⟨_, rfl⟩
  have h1 : ∀ a0, aget a0 0 = sl → aget a0 1 = fn → ∃ a1, evalCode Try.prog call lf c a0 H = some (.ret, a1, H) ∧ aget a1 4 = .bool (first p len 0).isSome := by
    intro a0 t0 t1
    simp only [Try.f73, Option.some.injEq] at hb
    subst hb
    unfold idxV at hcall
    cases hf : first p len 0 with
    | none =>
      rw [hf] at hcall
      simp only [evalCode, evalOps, stepOp, Region.wanted, cop, aeval, aput, guardOk, cbin, cintOp]
      simp [aget_put, aeval, t0, t1, cbin, cintOp, Option.map, ccall, ccallF, e5, e6, hcall]
    | some j =>
      rw [hf] at hcall
      simp only [evalCode, evalOps, stepOp, Region.wanted, cop, aeval, aput, guardOk, cbin, cintOp]
      simp [aget_put, aeval, t0, t1, cbin, cintOp, Option.map, ccall, ccallF, e5, e6, hcall]
  obtain ⟨a1, r1, g⟩ := h1 (tOf 0 [sl, fn]) (by simp [tOf, aget_put]) (by simp [tOf, aget_put])
  simp only [CM.stepG, e0, hb, hres]
  have hz : (#[sl, fn] : Array Value).size = 2 := rfl
  rw [hz, hn]
  simp only [cond_true, r1, cresults, g, Option.map, packR]

theorem needed12 (call : CallT) (lf : Nat) (H : CH) (fl s t len cap : Nat) (ab : Option Addr) (f : Nat → Nat) (H1 H2 H3 : CH)
    (d1 : H1 = H.new (rowOf 25 #[.int .u64 (Int.ofNat fl), .slice ab len cap])) (d2 : H2 = H1.new (rowOf 22 #[.int .u64 (Int.ofNat s)])) (d3 : H3 = H2.new (rowOf 22 #[.int .u64 (Int.ofNat t)]))
    (hcall : call 73 #[.slice ab len cap, .func (.func 72) #[] #[ptr (H.next + 1) 0, ptr (H.next + 2) 0]] H3 = some (.bool (first (fun i => asks s t (f i)) len 0).isSome, H3)) :
    CM.stepG Try.prog (funAt Try.prog []) call lf 12 #[.agg #[.int .u64 (Int.ofNat fl), .slice ab len cap], .int .u64 (Int.ofNat s), .int .u64 (Int.ofNat t)] H = some (.bool (needed fl s t f len), H3) := by
  have e0 : funAt Try.prog [] 12 = some Try.f12 := by kernel_rfl
  have e3 : isAggT Try.prog 22 = some false := by kernel_rfl
  have e4 : isAggT Try.prog 23 = some false := by kernel_rfl
  have e5 : ∀ b, cfieldAt Try.prog 25 (.pointer (some ⟨b, 0, none⟩)) 0 = some (.pointer (some ⟨b, 0, none⟩)) := fun b => by kernel_rfl
  have e6 : ∀ b, cfieldAt Try.prog 25 (.pointer (some ⟨b, 0, none⟩)) 1 = some (.pointer (some ⟨b, 1, none⟩)) := fun b => by kernel_rfl
  have e73 : ∃ fn, Try.prog.funcs[73]? = some fn ∧ fn.body.isSome = true := ⟨Try.f73, Try.func73, by kernel_rfl⟩
  obtain ⟨fn', e7, e8⟩ := e73
  have n1 : H1.next = H.next + 1 := by rw [d1]; rfl
  have n2 : H2.next = H.next + 2 := by rw [d2]; show H1.next + 1 = _; rw [n1]
  have old : ∀ (K : CH) (k : Blk) (b j : Nat), b ≠ K.next → (K.new k).cell b j = K.cell b j := fun K k b j h => by
    unfold CH.cell CH.live; rw [CH.new_get, if_neg (Ne.symm h)]
  have c5 : H3.cell (H.next + 2) 0 = some (.int .u64 (Int.ofNat t)) := by rw [d3, ← n2]; exact new_row_cell rfl
  have c4 : H3.cell (H.next + 1) 0 = some (.int .u64 (Int.ofNat s)) := by rw [d3, old _ _ _ _ (by omega), d2, ← n1]; exact new_row_cell rfl
  have c30 : H3.cell H.next 0 = some (.int .u64 (Int.ofNat fl)) := by rw [d3, old _ _ _ _ (by omega), d2, old _ _ _ _ (by omega), d1]; exact new_row_cell rfl
  have c31 : H3.cell H.next 1 = some (.slice ab len cap) := by rw [d3, old _ _ _ _ (by omega), d2, old _ _ _ _ (by omega), d1]; exact new_row_cell rfl
  let A : Value := .agg #[.int .u64 (Int.ofNat fl), .slice ab len cap]
  obtain ⟨r0, s1, r3, r4, hb⟩ : ∃ r0 s1 r3 r4, Try.f12.body = some (.seq r0 (.seq s1 (.seq r3 (.seq r4 .ret)))) := ⟨_, _, _, _, rfl⟩
  have h1 : ∀ a0, aget a0 0 = A → aget a0 1 = .int .u64 (Int.ofNat s) → aget a0 2 = .int .u64 (Int.ofNat t) →
      ∃ a1, evalCode Try.prog call lf r0 a0 H = some (.normal, a1, H3) ∧ aget a1 3 = ptr H.next 0 ∧ aget a1 4 = ptr (H.next + 1) 0 ∧ aget a1 5 = ptr (H.next + 2) 0 := by
    intro a0 t0 t1 t2
    simp only [Try.f12, Option.some.injEq, Code.seq.injEq] at hb
    obtain ⟨rfl, _⟩ := hb
    simp only [evalCode, evalOps, stepOp, Region.wanted, cop, aeval, aput, t0]
    have nn : ∀ (K : CH) (k : Blk), (K.new k).next = K.next + 1 := fun _ _ => rfl
    simp [aget_put, t1, t2, A, Value.cells, d1, d2, d3, nn]
  obtain ⟨a1, q1, g3, g4, g5⟩ := h1 (tOf 0 [A, .int .u64 (Int.ofNat s), .int .u64 (Int.ofNat t)]) (by simp [tOf, aget_put]) (by simp [tOf, aget_put]) (by simp [tOf, aget_put])
  have h2 : ∃ a2, evalCode Try.prog call lf s1 a1 H3 = some (cond (decide (t ≤ s)) .ret .normal, a2, H3) ∧ (t ≤ s → aget a2 6 = .bool false) ∧
      aget a2 3 = ptr H.next 0 ∧ aget a2 4 = ptr (H.next + 1) 0 ∧ aget a2 5 = ptr (H.next + 2) 0 := by
    simp only [Try.f12, Option.some.injEq, Code.seq.injEq] at hb
    obtain ⟨_, rfl, _⟩ := hb
    by_cases g : t ≤ s
    · simp only [evalCode, evalOps, stepOp, Region.wanted, cop, aeval, aput, loadV, e3, guardOk, cbin, cintOp]
      simp [aget_put, aeval, g3, g4, g5, ptr, c4, c5, cbin, cintOp, g, Option.map]
    · simp only [evalCode, evalOps, stepOp, Region.wanted, cop, aeval, aput, loadV, e3, guardOk, cbin, cintOp]
      simp [aget_put, aeval, g3, g4, g5, ptr, c4, c5, cbin, cintOp, g, Option.map]
  obtain ⟨a2, q2, k6, k3, k4, k5⟩ := h2
  have h3 : ∃ a3, evalCode Try.prog call lf r3 a2 H3 = some (.normal, a3, H3) ∧ aget a3 7 = .func (.func 72) #[] #[ptr (H.next + 1) 0, ptr (H.next + 2) 0] ∧
      aget a3 3 = ptr H.next 0 ∧ aget a3 5 = ptr (H.next + 2) 0 := by
    simp only [Try.f12, Option.some.injEq, Code.seq.injEq] at hb
    obtain ⟨_, _, rfl, _⟩ := hb
    simp only [evalCode, evalOps, stepOp, Region.wanted, cop, aeval, aput]
    simp [aget_put, aeval, k3, k4, k5]
  obtain ⟨a3, q3, l7, l3, l5⟩ := h3
  have h4 : ∃ a4, evalCode Try.prog call lf r4 a3 H3 = some (.normal, a4, H3) ∧ aget a4 6 = .bool (cond (decide (fl < t)) true (first (fun i => asks s t (f i)) len 0).isSome) := by
    simp only [Try.f12, Option.some.injEq, Code.seq.injEq] at hb
    obtain ⟨_, _, _, rfl, _⟩ := hb
    by_cases g : fl < t
    · simp only [evalCode, evalOps, stepOp, Region.wanted, yieldC_yv, List.getElem?_toArray, List.getElem?_cons_succ, List.getElem?_cons_zero, Option.bind_some, yv_some, cop, aeval, aput, loadV, e3, e4, guardOk, cbin, cintOp]
      simp [aget_put, aeval, l3, l5, l7, ptr, e5, c30, c5, bv, cbin, cintOp, g, Option.map]
    · simp only [evalCode, evalOps, stepOp, Region.wanted, yieldC_yv, List.getElem?_toArray, List.getElem?_cons_succ, List.getElem?_cons_zero, Option.bind_some, yv_some, cop, aeval, aput, loadV, e3, e4, guardOk, cbin, cintOp]
      simp only [ptr] at hcall l7
      simp [aget_put, aeval, l3, l5, l7, ptr, e5, e6, c30, c31, c5, bv, cbin, cintOp, g, Option.map, ccall, ccallF, e7, e8, hcall]
  obtain ⟨a4, q4, m6⟩ := h4
  have hn : Nat.ble 3 Try.f12.ntmps = true := by kernel_rfl
  have hres : Try.f12.results.toList = [.tmp 6] := by kernel_rfl
  have hz : (#[A, .int .u64 (Int.ofNat s), .int .u64 (Int.ofNat t)] : Array Value).size = 3 := rfl
  show CM.stepG Try.prog (funAt Try.prog []) call lf 12 #[A, .int .u64 (Int.ofNat s), .int .u64 (Int.ofNat t)] H = some (.bool (needed fl s t f len), H3)
  simp only [CM.stepG, e0, hb, hres]
  rw [hz, hn]
  unfold needed
  by_cases g : t ≤ s
  · simp only [g, decide_true, cond_true] at q2 k6 ⊢
    simp only [evalCode, q1, q2, cresults, k6 trivial, Option.map, packR]
  · simp only [g, decide_false, cond_false, cond_true] at q2 ⊢
    simp only [evalCode, q1, q2, q3, q4, cresults, m6, Option.map, packR]

/-! ### the contracts -/
def okab (cap0 : Nat) : Option Addr → Nat → Bool
  | none, len => Nat.beq len 0
  | some ⟨b, o, none⟩, len => Nat.beq b 0 && (Nat.beq o 0 && Nat.ble len cap0)
  | some _, _ => false

def conN (cap0 : Nat) (f : Nat → Nat) : CallT := fun g args H =>
  match args.toList with
  | [.agg ⟨[.int .u64 (.ofNat fl), .slice ab len cap]⟩, .int .u64 (.ofNat s), .int .u64 (.ofNat t)] =>
    cond (Nat.beq g 12) (cond (okab cap0 ab len) (some (.bool (needed fl s t f len), ((H.new (rowOf 25 #[.int .u64 (Int.ofNat fl), .slice ab len cap])).new (rowOf 22 #[.int .u64 (Int.ofNat s)])).new (rowOf 22 #[.int .u64 (Int.ofNat t)]))) none)
      (cond (Nat.beq g 13) (cond (okab cap0 ab len) (some (.bool (needed fl s t f len), H.new (rowOf 25 #[.int .u64 (Int.ofNat fl), .slice ab len cap]))) none) none)
  | _ => none

def ckN (cap0 : Nat) (f : Nat → Nat) : ConC := fun g args H k z =>
  match args.toList with
  | [.agg ⟨[.int .u64 (.ofNat fl), .slice ab len cap]⟩, .int .u64 (.ofNat s), .int .u64 (.ofNat t)] =>
    cond (Nat.beq g 12) (cond (okab cap0 ab len) (k (.bool (needed fl s t f len)) (((H.new (rowOf 25 #[.int .u64 (Int.ofNat fl), .slice ab len cap])).new (rowOf 22 #[.int .u64 (Int.ofNat s)])).new (rowOf 22 #[.int .u64 (Int.ofNat t)]))) z)
      (cond (Nat.beq g 13) (cond (okab cap0 ab len) (k (.bool (needed fl s t f len)) (H.new (rowOf 25 #[.int .u64 (Int.ofNat fl), .slice ab len cap]))) z) z)
  | _ => z

theorem fitsN (cap0 : Nat) (f : Nat → Nat) : Fits (conN cap0 f) (ckN cap0 f) := fun g args H k z => by
  unfold conN ckN
  split
  · rename_i fl ab len cap s t _
    cases Nat.beq g 12 <;> cases Nat.beq g 13 <;> cases okab cap0 ab len <;> rfl
  · rfl

theorem okab_cells {cap0 : Nat} {f : Nat → Nat} {te : TypeId} {ab : Option Addr} {len : Nat} (h : okab cap0 ab len = true) (hc : cap0 < 9223372036854775808) {H : CH} (hI : Old 1 (H0.new (rowN te .u64 cap0 f)) H) :
    len < 9223372036854775808 ∧ ∀ i, i < len → ∃ b, ab = some ⟨b, 0, none⟩ ∧ b < H.next ∧ H.cell b i = some (.int .u64 (Int.ofNat (f i))) := by
  cases ab with
  | none =>
    have : len = 0 := Nat.eq_of_beq_eq_true h
    subst this
    exact ⟨by omega, fun i hi => absurd hi (by omega)⟩
  | some a =>
    obtain ⟨b, o, sp⟩ := a
    cases sp with
    | some _ => cases h
    | none =>
      simp only [okab, Bool.and_eq_true] at h
      obtain ⟨h1, h2, h3⟩ := h
      have e1 : b = 0 := Nat.eq_of_beq_eq_true h1
      have e2 : o = 0 := Nat.eq_of_beq_eq_true h2
      have e3 := Nat.le_of_ble_eq_true h3
      subst e1 e2
      refine ⟨by omega, fun i hi => ⟨0, rfl, hI.1, ?_⟩⟩
      obtain ⟨k, g1, g2, g3⟩ := hI.2 0 (by omega)
      have h0 : H0.next = 0 := rfl
      rw [CH.new_get, if_pos h0] at g3
      cases g3
      unfold CH.cell CH.live
      rw [g1]
      show (rowN te .u64 cap0 f).get i = _
      exact rowN_get te .u64 cap0 f (by omega)

theorem evalG_succ {P : Program} {funs : FuncId → Option Func} (lf n : Nat) (f : FuncId) (args : Array Value) (H : CH) :
    evalG P noT funs lf (n + 1) f args H = CM.stepG P funs (evalG P noT funs lf n) lf f args H := rfl

theorem old_cell (K : CH) (k : Blk) (b j : Nat) (h : b ≠ K.next) : (K.new k).cell b j = K.cell b j := by
  unfold CH.cell CH.live; rw [CH.new_get, if_neg (Ne.symm h)]

theorem runs12 (n fl s t len cap : Nat) (ab : Option Addr) (f : Nat → Nat) (H : CH) (hl : len < 9223372036854775808) (hx : ∀ i, i < len → ∃ b, ab = some ⟨b, 0, none⟩ ∧ b < H.next ∧ H.cell b i = some (.int .u64 (Int.ofNat (f i)))) :
    evalG Try.prog noT (funAt Try.prog []) (len + 1) (n + 1 + 1 + 1 + 1) 12 #[.agg #[.int .u64 (Int.ofNat fl), .slice ab len cap], .int .u64 (Int.ofNat s), .int .u64 (Int.ofNat t)] H =
      some (.bool (needed fl s t f len), ((H.new (rowOf 25 #[.int .u64 (Int.ofNat fl), .slice ab len cap])).new (rowOf 22 #[.int .u64 (Int.ofNat s)])).new (rowOf 22 #[.int .u64 (Int.ofNat t)])) := by
  rw [evalG_succ]
  refine needed12 _ _ H fl s t len cap ab f _ _ _ rfl rfl rfl ?_
  rw [evalG_succ]
  refine contains73 _ _ _ _ _ _ _ ?_
  rw [evalG_succ]
  refine index_func _ _ _ len cap ab _ _ hl (by omega) (fun i => asks s t (f i)) (fun i hi => ?_)
  obtain ⟨b, h1, h2, h3⟩ := hx i hi
  refine ⟨b, .int .u64 (Int.ofNat (f i)), h1, ?_, ?_⟩
  · rw [old_cell _ _ _ _ (by show b ≠ H.next + 1 + 1; omega), old_cell _ _ _ _ (by show b ≠ H.next + 1; omega), old_cell _ _ _ _ (by omega)]
    exact h3
  · rw [evalG_succ]
    refine asks_ok _ _ _ _ _ _ _ _ ?_ ?_
    · rw [old_cell _ _ _ _ (by show H.next + 1 ≠ H.next + 1 + 1; omega)]
      exact new_row_cell (H := H.new _) rfl
    · exact new_row_cell (H := (H.new _).new _) rfl

theorem runs13 (n fl s t len cap : Nat) (ab : Option Addr) (f : Nat → Nat) (H : CH) (hl : len < 9223372036854775808) (hx : ∀ i, i < len → ∃ b, ab = some ⟨b, 0, none⟩ ∧ b < H.next ∧ H.cell b i = some (.int .u64 (Int.ofNat (f i)))) :
    evalG Try.prog noT (funAt Try.prog []) (len + 1) (n + 1) 13 #[.agg #[.int .u64 (Int.ofNat fl), .slice ab len cap], .int .u64 (Int.ofNat s), .int .u64 (Int.ofNat t)] H =
      some (.bool (needed fl s t f len), H.new (rowOf 25 #[.int .u64 (Int.ofNat fl), .slice ab len cap])) := by
  rw [evalG_succ]
  refine needed13 _ _ H fl s t len cap ab f hl (by omega) (fun i hi => ?_)
  obtain ⟨b, h1, h2, h3⟩ := hx i hi
  exact ⟨b, h1, by omega, h3⟩

theorem conN_valid (hm : Try.prog.follows .mixedOrders = true) (cap0 : Nat) (f : Nat → Nat) (te : TypeId) (hc : cap0 < 9223372036854775808) : ValidOn Try.prog (Old 1 (H0.new (rowN te .u64 cap0 f))) (conN cap0 f) := by
  intro g args H v H' hI h
  obtain ⟨args⟩ := args
  unfold conN at h
  split at h
  · rename_i fl ab len cap s t heq
    simp only at heq
    subst heq
    cases h12 : Nat.beq g 12 with
    | true =>
      rw [h12] at h
      simp only [cond_true] at h
      cases hok : okab cap0 ab len with
      | false => rw [hok] at h; cases h
      | true =>
        rw [hok] at h
        simp only [cond_true, Option.some.injEq, Prod.mk.injEq] at h
        obtain ⟨rfl, rfl⟩ := h
        obtain ⟨hl, hx⟩ := okab_cells hok hc hI
        refine ⟨((hI.new _).new _).new _, evalG Try.prog noT (funAt Try.prog []) (len + 1) (0 + 1 + 1 + 1 + 1), evalG_ok hm funAt_ok noT_ok _ _, ?_⟩
        rw [Nat.eq_of_beq_eq_true h12]
        exact runs12 0 fl s t len cap ab f H hl hx
    | false =>
      rw [h12] at h
      simp only [cond_false] at h
      cases h13 : Nat.beq g 13 with
      | false => rw [h13] at h; cases h
      | true =>
        rw [h13] at h
        simp only [cond_true] at h
        cases hok : okab cap0 ab len with
        | false => rw [hok] at h; cases h
        | true =>
          rw [hok] at h
          simp only [cond_true, Option.some.injEq, Prod.mk.injEq] at h
          obtain ⟨rfl, rfl⟩ := h
          obtain ⟨hl, hx⟩ := okab_cells hok hc hI
          refine ⟨hI.new _, evalG Try.prog noT (funAt Try.prog []) (len + 1) (0 + 1), evalG_ok hm funAt_ok noT_ok _ _, ?_⟩
          rw [Nat.eq_of_beq_eq_true h13]
          exact runs13 0 fl s t len cap ab f H hl hx
  · cases h
end Go.Proofs.Ytipbbnoepphdkaa.cutNeeded
