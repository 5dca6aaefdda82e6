/- What HandleNone's parts do: word.Handle, word.Unhandle and the document's Unhandle of every number, a load of a memory that nobody wrote to, each by its text; contracts for calls of these; and the run of HandleNone with them, for every slots, handle and stamp. No conditions beyond the ones each theorem states. -/
import Derived.Test.YtipbbnoepphdkaaProg
import Derived.Test.YtipbbnoepphdkaaCmC
namespace Go.Proofs.Ytipbbnoepphdkaa.handleNone
open Go Go.CM

theorem aget_put {a : TM} {d t : Nat} {v : Value} (h : d < 1048575) : aget (T.set 20 a d v) t = if d = t then v else aget a t := by
  unfold aget
  rw [T.get_set v 20 a d t (by omega)]
  by_cases e : d = t <;> simp [e]

def bv : Value → Option Bool
  | .bool b => some b
  | _ => none
def yv (d : Option Tmp) (a : TM) : Option Bool :=
  match d with
  | some d => bv (aget a d)
  | none => none
theorem yv_some (d : Tmp) (a : TM) : yv (some d) a = bv (aget a d) := rfl
theorem yieldC_yv (ops : Array Oper) (a : TM) (j : Nat) : yieldC ops a j = yv ((ops[j]?).bind (·.dst)) a := by
  unfold yieldC yv
  cases (ops[j]?).bind (·.dst) with
  | none => rfl
  | some d =>
    simp only [Option.bind_some]
    unfold bv aget
    cases a.get d with
    | none => rfl
    | some v => cases v <;> rfl

/-- Is it a row of 128 zeros? -/
def zeroV : Option Value → Bool
  | some (.int .u64 (.ofNat 0)) => true
  | _ => false

def zrow (k : Blk) : Nat → Nat → Bool
  | 0, _ => true
  | m + 1, i => cond (zeroV (k.get i)) (zrow k m (i + 1)) false

theorem zeroV_some {x : Option Value} (h : zeroV x = true) : x = some (.int .u64 0) := by
  unfold zeroV at h
  split at h
  · rfl
  · cases h

theorem zrow_get (k : Blk) : ∀ (m i : Nat), zrow k m i = true → ∀ j, i ≤ j → j < i + m → k.get j = some (.int .u64 0)
  | 0, i, _, j, h1, h2 => absurd h2 (by omega)
  | m + 1, i, h, j, h1, h2 => by
    unfold zrow at h
    cases hz : zeroV (k.get i) with
    | false => rw [hz] at h; cases h
    | true =>
      rw [hz] at h
      by_cases e : i = j
      · subst e; exact zeroV_some hz
      · exact zrow_get k m (i + 1) h j (by omega) (by omega)

/-- A cell of a memory that nobody wrote to is 0. -/
def conL : CallT := fun g args H =>
  match args.toList with
  | [.pointer (some ⟨bp, 0, none⟩), .int .u64 (.ofNat a)] =>
    match H.cell bp 0 with
    | some (.slice (some ⟨bc, 0, none⟩) len _) =>
      match H.live bc with
      | some k => cond (Nat.beq g 228) (cond (Nat.beq len 128) (cond (zrow k 128 0) (cond (Nat.blt a 128) (some (.int .u64 0, H)) none) none) none) none
      | none => none
    | _ => none
  | _ => none

def ckL : ConC := fun g args H k z =>
  cond (Nat.beq g 228)
  (match args.toList with
  | [.pointer (some ⟨bp, 0, none⟩), .int .u64 (.ofNat a)] =>
    match H.cell bp 0 with
    | some (.slice (some ⟨bc, 0, none⟩) len _) =>
      match H.live bc with
      | some kb => cond (Nat.beq len 128) (cond (zrow kb 128 0) (cond (Nat.blt a 128) (k (.int .u64 0) H) z) z) z
      | none => z
    | _ => z
  | _ => z) z

theorem fitsL : Fits conL ckL := fun g args H k z => by
  unfold conL ckL
  split
  · rename_i bp a _
    split
    · rename_i bc len _ _
      split
      · rename_i kb _
        cases Nat.beq g 228 <;> cases Nat.beq len 128 <;> cases zrow kb 128 0 <;> cases Nat.blt a 128 <;> rfl
      · cases Nat.beq g 228 <;> rfl
    · cases Nat.beq g 228 <;> rfl
  · cases Nat.beq g 228 <;> rfl

theorem evalG_succ {P : Program} {funs : FuncId → Option Func} (lf n : Nat) (f : FuncId) (args : Array Value) (H : CH) :
    evalG P noT funs lf (n + 1) f args H = CM.stepG P funs (evalG P noT funs lf n) lf f args H := rfl

theorem load_ok (call : CallT) (lf : Nat) (H : CH) (bp bc a cap : Nat) (hs : H.cell bp 0 = some (.slice (some ⟨bc, 0, none⟩) 128 cap)) (hc : H.cell bc a = some (.int .u64 0)) (ha : a < 128) :
    CM.stepG Try.prog (funAt Try.prog []) call lf 228 #[.pointer (some ⟨bp, 0, none⟩), .int .u64 (Int.ofNat a)] H = some (.int .u64 0, H) := by
  have e0 : funAt Try.prog [] 228 = some Try.f228 := by kernel_rfl
  have e1 : Try.prog.underlying 23 = some (.slice 22) := by kernel_rfl
  have e2 : szOf Try.prog 22 = some 1 := by kernel_rfl
  have e3 : isAggT Try.prog 22 = some false := by kernel_rfl
  have e4 : isAggT Try.prog 23 = some false := by kernel_rfl
  have e5 : ∀ b, cfieldAt Try.prog 148 (.pointer (some ⟨b, 0, none⟩)) 0 = some (.pointer (some ⟨b, 0, none⟩)) := fun b => by kernel_rfl
  have hn : Nat.ble 2 Try.f228.ntmps = true := by kernel_rfl
  have hres : Try.f228.results.toList = [.tmp 4] := by kernel_rfl
  have ha' : (a : Int) < 128 := by omega
  obtain ⟨c, hb⟩ : ∃ c, Try.f228.body = some c := ⟨_, rfl⟩
  have h1 : ∀ a0, aget a0 0 = .pointer (some ⟨bp, 0, none⟩) → aget a0 1 = .int .u64 (Int.ofNat a) → ∃ a1, evalCode Try.prog call lf c a0 H = some (.ret, a1, H) ∧ aget a1 4 = .int .u64 0 := by
    intro a0 t0 t1
    simp only [Try.f228, Option.some.injEq] at hb
    subst hb
    simp only [evalCode, evalOps, stepOp, Region.wanted, cop, aeval, aput, loadV, e3, e4]
    simp [aget_put, aeval, t0, t1, ptr, e5, hs, hc, Option.map, cindexAt, e1, e2, ha']
  obtain ⟨a1, r1, g⟩ := h1 (tOf 0 [.pointer (some ⟨bp, 0, none⟩), .int .u64 (Int.ofNat a)]) (by simp [tOf, aget_put]) (by simp [tOf, aget_put])
  simp only [CM.stepG, e0, hb, hres]
  have hz : (#[Value.pointer (some ⟨bp, 0, none⟩), .int .u64 (Int.ofNat a)] : Array Value).size = 2 := rfl
  rw [hz, hn]
  simp only [cond_true, r1, cresults, g, Option.map, packR]

theorem conL_ok (hm : Try.prog.follows .mixedOrders = true) : CallOK Try.prog conL := CallOK.of fun g args H r h => by
  refine ⟨evalG Try.prog noT (funAt Try.prog []) 1000 (0 + 1), evalG_ok hm funAt_ok noT_ok _ _, ?_⟩
  rw [evalG_succ]
  obtain ⟨args⟩ := args
  unfold conL at h
  split at h
  · rename_i bp a heq
    simp only at heq
    subst heq
    split at h
    · rename_i bc len cap hcell
      split at h
      · rename_i k hlive
        cases h1 : Nat.beq g 228 with
        | false => rw [h1] at h; cases h
        | true =>
          cases h2 : Nat.beq len 128 with
          | false => rw [h1, h2] at h; cases h
          | true =>
            cases h3 : zrow k 128 0 with
            | false => rw [h1, h2, h3] at h; cases h
            | true =>
              cases h4 : Nat.blt a 128 with
              | false => rw [h1, h2, h3, h4] at h; cases h
              | true =>
                rw [h1, h2, h3, h4] at h
                simp only [cond_true, Option.some.injEq] at h
                subst h
                have e2 := Nat.eq_of_beq_eq_true h2
                subst e2
                have e4 := blt_iff.1 h4
                rw [Nat.eq_of_beq_eq_true h1]
                refine load_ok _ _ H bp bc a cap hcell ?_ e4
                unfold CH.cell
                rw [hlive]
                exact zrow_get k 128 0 h3 a (by omega) (by omega)
      · cases h
    · cases h
  · cases h

theorem wrapU {n : Nat} (h : n < 18446744073709551616) {z : Int} (e : z = Int.ofNat n) : IntKind.u64.wrap z = z := by
  rw [e]; exact wrap_small _ _ (by simp only [limK]; omega)
theorem wrapI {n : Nat} (h : n < 9223372036854775808) {z : Int} (e : z = Int.ofNat n) : IntKind.i64.wrap z = z := by
  rw [e]; exact wrap_small _ _ (by simp only [limK]; omega)

theorem handle_good (call : CallT) (lf : Nat) (H : CH) (m g : Nat) (hm : m < 256) (hg : g < 1048576) :
    CM.stepG Try.prog (funAt Try.prog []) call lf 103 #[.int .i64 (Int.ofNat m), .int .u64 (Int.ofNat g)] H = some (.tuple #[.int .u64 (Int.ofNat (m + 1 + 65536 * g)), .int .i64 0], H) := by
  have e0 : funAt Try.prog [] 103 = some Try.f103 := by kernel_rfl
  have hn : Nat.ble 2 Try.f103.ntmps = true := by kernel_rfl
  have hres : Try.f103.results.toList = [.tmp 4, .tmp 5] := by kernel_rfl
  have k1 : Try.prog.underlying 3 = some (.int .i64) := by kernel_rfl
  have k2 : Try.prog.underlying 22 = some (.int .u64) := by kernel_rfl
  have w1 : IntKind.u64.wrap (m : Int) = m := wrapU (n := m) (by omega) rfl
  have w2 : IntKind.u64.wrap ((m : Int) + 1) = m + 1 := wrapU (n := m + 1) (by omega) (by simp)
  have w3 : IntKind.u64.wrap (65536 * (g : Int)) = 65536 * g := wrapU (n := 65536 * g) (by omega) (by simp)
  have w4 : IntKind.u64.wrap ((m : Int) + 1 + 65536 * g) = m + 1 + 65536 * g := wrapU (n := m + 1 + 65536 * g) (by omega) (by simp)
  have t1 : ¬ (m : Int) < 0 := by omega
  have t2 : ¬ (256 : Int) ≤ m := by omega
  have t3 : ¬ (1048576 : Int) ≤ g := by omega
  obtain ⟨c, hb⟩ : ∃ c, Try.f103.body = some c := ⟨_, rfl⟩
  have h1 : ∀ a0, aget a0 0 = .int .i64 (Int.ofNat m) → aget a0 1 = .int .u64 (Int.ofNat g) → ∃ a1, evalCode Try.prog call lf c a0 H = some (.ret, a1, H) ∧ aget a1 4 = .int .u64 (Int.ofNat (m + 1 + 65536 * g)) ∧ aget a1 5 = .int .i64 0 := by
    intro a0 g0 g1
    simp only [Try.f103, Option.some.injEq] at hb
    subst hb
    simp only [evalCode, evalOps, stepOp, Region.wanted, yieldC_yv, List.getElem?_toArray, List.getElem?_cons_succ, List.getElem?_cons_zero, Option.bind_some, yv_some, cop, aeval, aput, guardOk, cbin, cintOp]
    simp [aget_put, aeval, g0, g1, bv, cbin, cintOp, cconv, k1, k2, Option.map, t1, t2, t3, w1, w2, w3, w4]
  obtain ⟨a1, r1, g4, g5⟩ := h1 (tOf 0 [.int .i64 (Int.ofNat m), .int .u64 (Int.ofNat g)]) (by simp [tOf, aget_put]) (by simp [tOf, aget_put])
  simp only [CM.stepG, e0, hb, hres]
  have hz : (#[Value.int .i64 (Int.ofNat m), .int .u64 (Int.ofNat g)] : Array Value).size = 2 := rfl
  rw [hz, hn]
  simp only [cond_true, r1, cresults, g4, g5, Option.map, packR]

theorem handle_bad (call : CallT) (lf : Nat) (H : CH) (m : Int) (g : Nat) (hb : m < 0 ∨ 256 ≤ m ∨ 1048576 ≤ g) :
    CM.stepG Try.prog (funAt Try.prog []) call lf 103 #[.int .i64 m, .int .u64 (Int.ofNat g)] H = some (.tuple #[.int .u64 0, .int .i64 2], H) := by
  have e0 : funAt Try.prog [] 103 = some Try.f103 := by kernel_rfl
  have hn : Nat.ble 2 Try.f103.ntmps = true := by kernel_rfl
  have hres : Try.f103.results.toList = [.tmp 4, .tmp 5] := by kernel_rfl
  obtain ⟨c, hc⟩ : ∃ c, Try.f103.body = some c := ⟨_, rfl⟩
  have h1 : ∀ a0, aget a0 0 = .int .i64 m → aget a0 1 = .int .u64 (Int.ofNat g) → ∃ a1, evalCode Try.prog call lf c a0 H = some (.ret, a1, H) ∧ aget a1 4 = .int .u64 0 ∧ aget a1 5 = .int .i64 2 := by
    intro a0 g0 g1
    simp only [Try.f103, Option.some.injEq] at hc
    subst hc
    simp only [evalCode, evalOps, stepOp, Region.wanted, yieldC_yv, List.getElem?_toArray, List.getElem?_cons_succ, List.getElem?_cons_zero, Option.bind_some, yv_some, cop, aeval, aput, guardOk, cbin, cintOp]
    by_cases t1 : m < 0
    · simp [aget_put, aeval, g0, bv, cbin, cintOp, Option.map, t1]
    · by_cases t2 : 256 ≤ m
      · simp [aget_put, aeval, g0, bv, cbin, cintOp, Option.map, t1, t2]
      · have t3 : (1048576 : Int) ≤ g := by omega
        simp [aget_put, aeval, g0, g1, bv, cbin, cintOp, Option.map, t1, t2, t3]
  obtain ⟨a1, r1, g4, g5⟩ := h1 (tOf 0 [.int .i64 m, .int .u64 (Int.ofNat g)]) (by simp [tOf, aget_put]) (by simp [tOf, aget_put])
  simp only [CM.stepG, e0, hc, hres]
  have hz : (#[Value.int .i64 m, .int .u64 (Int.ofNat g)] : Array Value).size = 2 := rfl
  rw [hz, hn]
  simp only [cond_true, r1, cresults, g4, g5, Option.map, packR]

/-- Is it a handle's word? -/
def uhOk (h : Nat) : Bool := Nat.ble 1 (h % 65536) && (Nat.ble (h % 65536) 256 && Nat.blt (h / 65536) 1048576)

def uhV (h : Nat) : Value :=
  cond (uhOk h) (.tuple #[.int .i64 (Int.ofNat (h % 65536 - 1)), .int .u64 (Int.ofNat (h / 65536)), .int .i64 0]) (.tuple #[.int .i64 0, .int .u64 0, .int .i64 33])

theorem unhandle_ok (call : CallT) (lf : Nat) (H : CH) (h : Nat) (hl : h < 18446744073709551616) (hcall : ∀ m : Int, ∀ g, m = (h % 65536 : Nat) - 1 → g = h / 65536 → call 103 #[.int .i64 m, .int .u64 (Int.ofNat g)] H =
      some (cond (uhOk h) (.tuple #[.int .u64 (Int.ofNat h), .int .i64 0]) (.tuple #[.int .u64 0, .int .i64 2]), H)) :
    CM.stepG Try.prog (funAt Try.prog []) call lf 111 #[.int .u64 (Int.ofNat h)] H = some (uhV h, H) := by
  have e0 : funAt Try.prog [] 111 = some Try.f111 := by kernel_rfl
  have hn : Nat.ble 1 Try.f111.ntmps = true := by kernel_rfl
  have hres : Try.f111.results.toList = [.tmp 2, .tmp 3, .tmp 4] := by kernel_rfl
  have k1 : Try.prog.underlying 3 = some (.int .i64) := by kernel_rfl
  have k2 : Try.prog.underlying 22 = some (.int .u64) := by kernel_rfl
  have e103 : ∃ fn, Try.prog.funcs[103]? = some fn ∧ fn.body.isSome = true := ⟨Try.f103, Try.func103, by kernel_rfl⟩
  obtain ⟨fn', e7, e8⟩ := e103
  have hq : h / 65536 < 18446744073709551616 := by omega
  have hr : h % 65536 < 65536 := Nat.mod_lt _ (by omega)
  have r1 : (h : Int).tmod 65536 = (h : Int) % 65536 := Int.tmod_eq_emod_of_nonneg (by omega)
  have r2 : (h : Int).tdiv 65536 = (h : Int) / 65536 := Int.tdiv_eq_ediv_of_nonneg (by omega)
  have w1 : IntKind.i64.wrap ((h : Int) % 65536) = (h : Int) % 65536 := wrapI (n := h % 65536) (by omega) (by simp)
  have w2 : IntKind.i64.wrap ((h : Int) % 65536 - 1) = (h : Int) % 65536 - 1 := by
    rcases Nat.eq_zero_or_pos (h % 65536) with g | g
    · have : (h : Int) % 65536 = 0 := by omega
      rw [this]; decide
    · exact wrapI (n := h % 65536 - 1) (by omega) (by simp; omega)
  have w3 : IntKind.u64.wrap ((h : Int) / 65536) = (h : Int) / 65536 := wrapU (n := h / 65536) (by omega) (by simp)
  have hc' := hcall ((h : Int) % 65536 - 1) (h / 65536) (by simp) rfl
  have hq' : Int.ofNat (h / 65536) = (h : Int) / 65536 := by simp
  rw [hq'] at hc'
  obtain ⟨c, hb⟩ : ∃ c, Try.f111.body = some c := ⟨_, rfl⟩
  have h1 : ∀ a0, aget a0 0 = .int .u64 (Int.ofNat h) → ∃ a1, evalCode Try.prog call lf c a0 H = some (.ret, a1, H) ∧
      (uhOk h = true → aget a1 2 = .int .i64 ((h : Int) % 65536 - 1) ∧ aget a1 3 = .int .u64 ((h : Int) / 65536) ∧ aget a1 4 = .int .i64 0) ∧
      (uhOk h = false → aget a1 2 = .int .i64 0 ∧ aget a1 3 = .int .u64 0 ∧ aget a1 4 = .int .i64 33) := by
    intro a0 g0
    simp only [Try.f111, Option.some.injEq] at hb
    subst hb
    simp only [evalCode, evalOps, stepOp, Region.wanted, yieldC_yv, List.getElem?_toArray, List.getElem?_cons_succ, List.getElem?_cons_zero, Option.bind_some, yv_some, cop, aeval, aput, guardOk, cbin, cintOp]
    cases hu : uhOk h with
    | true =>
      rw [hu] at hc'
      simp only [cond_true] at hc'
      simp [aget_put, aeval, g0, bv, cbin, cintOp, cconv, k1, k2, Option.map, r1, r2, w1, w2, w3, ccall, ccallF, e7, e8, hc']
    | false =>
      rw [hu] at hc'
      simp only [cond_false] at hc'
      simp [aget_put, aeval, g0, bv, cbin, cintOp, cconv, k1, k2, Option.map, r1, r2, w1, w2, w3, ccall, ccallF, e7, e8, hc']
  obtain ⟨a1, q1, g1, g2⟩ := h1 (tOf 0 [.int .u64 (Int.ofNat h)]) (by simp [tOf, aget_put])
  simp only [CM.stepG, e0, hb, hres]
  have hz : (#[Value.int .u64 (Int.ofNat h)] : Array Value).size = 1 := rfl
  rw [hz, hn]
  unfold uhV
  cases hu : uhOk h with
  | true =>
    obtain ⟨s1, s2, s3⟩ := g1 hu
    have e9 : (h : Int) % 65536 - 1 = Int.ofNat (h % 65536 - 1) := by
      simp only [uhOk, Bool.and_eq_true] at hu
      have := Nat.le_of_ble_eq_true hu.1
      simp; omega
    simp only [cond_true, q1, cresults, s1, s2, s3, Option.map, packR, e9, hq']
  | false =>
    obtain ⟨s1, s2, s3⟩ := g2 hu
    simp only [cond_true, cond_false, q1, cresults, s1, s2, s3, Option.map, packR]

theorem unhandle_ref (call : CallT) (lf : Nat) (H : CH) (h : Nat) (hl : h < 18446744073709551616) :
    CM.stepG Try.prog (funAt Try.prog []) call lf 105 #[.int .u64 (Int.ofNat h)] H = some (uhV h, H) := by
  have e0 : funAt Try.prog [] 105 = some Try.f105 := by kernel_rfl
  have hn : Nat.ble 1 Try.f105.ntmps = true := by kernel_rfl
  have hres : Try.f105.results.toList = [.tmp 2, .tmp 3, .tmp 4] := by kernel_rfl
  have k1 : Try.prog.underlying 3 = some (.int .i64) := by kernel_rfl
  have k2 : Try.prog.underlying 22 = some (.int .u64) := by kernel_rfl
  have hr : h % 65536 < 65536 := Nat.mod_lt _ (by omega)
  have r1 : (h : Int).tmod 65536 = (h : Int) % 65536 := Int.tmod_eq_emod_of_nonneg (by omega)
  have r2 : (h : Int).tdiv 65536 = (h : Int) / 65536 := Int.tdiv_eq_ediv_of_nonneg (by omega)
  have w1 : IntKind.i64.wrap ((h : Int) % 65536) = (h : Int) % 65536 := wrapI (n := h % 65536) (by omega) (by simp)
  have w3 : IntKind.u64.wrap ((h : Int) / 65536) = (h : Int) / 65536 := wrapU (n := h / 65536) (by omega) (by simp)
  have hq' : Int.ofNat (h / 65536) = (h : Int) / 65536 := by simp
  obtain ⟨c, hb⟩ : ∃ c, Try.f105.body = some c := ⟨_, rfl⟩
  have h1 : ∀ a0, aget a0 0 = .int .u64 (Int.ofNat h) → ∃ a1, evalCode Try.prog call lf c a0 H = some (.ret, a1, H) ∧
      (uhOk h = true → aget a1 2 = .int .i64 ((h : Int) % 65536 - 1) ∧ aget a1 3 = .int .u64 ((h : Int) / 65536) ∧ aget a1 4 = .int .i64 0) ∧
      (uhOk h = false → aget a1 2 = .int .i64 0 ∧ aget a1 3 = .int .u64 0 ∧ aget a1 4 = .int .i64 33) := by
    intro a0 g0
    simp only [Try.f105, Option.some.injEq] at hb
    subst hb
    simp only [evalCode, evalOps, stepOp, Region.wanted, yieldC_yv, List.getElem?_toArray, List.getElem?_cons_succ, List.getElem?_cons_zero, Option.bind_some, yv_some, cop, aeval, aput, guardOk, cbin, cintOp]
    by_cases t1 : (h : Int) % 65536 < 1
    · have hu : uhOk h = false := by
        unfold uhOk
        have : Nat.ble 1 (h % 65536) = false := by rw [Bool.eq_false_iff]; intro hh; have := Nat.le_of_ble_eq_true hh; omega
        rw [this]; rfl
      simp [aget_put, aeval, g0, bv, cbin, cintOp, cconv, k1, k2, Option.map, r1, r2, w1, w3, t1, hu]
    · by_cases t2 : (256 : Int) < (h : Int) % 65536
      · have hu : uhOk h = false := by
          unfold uhOk
          have : Nat.ble (h % 65536) 256 = false := by rw [Bool.eq_false_iff]; intro hh; have := Nat.le_of_ble_eq_true hh; omega
          rw [this]; simp
        simp [aget_put, aeval, g0, bv, cbin, cintOp, cconv, k1, k2, Option.map, r1, r2, w1, w3, t1, t2, hu]
      · by_cases t3 : (1048576 : Int) ≤ (h : Int) / 65536
        · have hu : uhOk h = false := by
            unfold uhOk
            have : Nat.blt (h / 65536) 1048576 = false := by rw [Bool.eq_false_iff]; intro hh; have := blt_iff.1 hh; omega
            rw [this]; simp
          simp [aget_put, aeval, g0, bv, cbin, cintOp, cconv, k1, k2, Option.map, r1, r2, w1, w3, t1, t2, t3, hu]
        · have hu : uhOk h = true := by
            unfold uhOk
            simp only [Bool.and_eq_true]
            exact ⟨Nat.ble_eq_true_of_le (by omega), Nat.ble_eq_true_of_le (by omega), blt_iff.2 (by omega)⟩
          have w2 : IntKind.i64.wrap ((h : Int) % 65536 - 1) = (h : Int) % 65536 - 1 := wrapI (n := h % 65536 - 1) (by omega) (by simp; omega)
          simp [aget_put, aeval, g0, bv, cbin, cintOp, cconv, k1, k2, Option.map, r1, r2, w1, w2, w3, t1, t2, t3, hu]
  obtain ⟨a1, q1, g1, g2⟩ := h1 (tOf 0 [.int .u64 (Int.ofNat h)]) (by simp [tOf, aget_put])
  simp only [CM.stepG, e0, hb, hres]
  have hz : (#[Value.int .u64 (Int.ofNat h)] : Array Value).size = 1 := rfl
  rw [hz, hn]
  unfold uhV
  cases hu : uhOk h with
  | true =>
    obtain ⟨s1, s2, s3⟩ := g1 hu
    have e9 : (h : Int) % 65536 - 1 = Int.ofNat (h % 65536 - 1) := by
      simp only [uhOk, Bool.and_eq_true] at hu
      have := Nat.le_of_ble_eq_true hu.1
      simp; omega
    simp only [cond_true, q1, cresults, s1, s2, s3, Option.map, packR, e9, hq']
  | false =>
    obtain ⟨s1, s2, s3⟩ := g2 hu
    simp only [cond_true, cond_false, q1, cresults, s1, s2, s3, Option.map, packR]

/-- Unhandle, of the program and of the document. -/
def conU : CallT := fun g args H =>
  match args.toList with
  | [.int .u64 (.ofNat h)] => cond (Nat.beq g 111) (cond (Nat.blt h 18446744073709551616) (some (uhV h, H)) none) (cond (Nat.beq g 105) (cond (Nat.blt h 18446744073709551616) (some (uhV h, H)) none) none)
  | _ => none

def ckU (uo : Nat → Bool) (sl gn : Nat → Nat) : ConC := fun g args H k z =>
  cond (Nat.beq g 111)
    (match args.toList with
    | [.int .u64 (.ofNat h)] => cond (Nat.blt h 18446744073709551616) (cond (uo h) (k (.tuple #[.int .i64 (Int.ofNat (sl h)), .int .u64 (Int.ofNat (gn h)), .int .i64 0]) H) (k (.tuple #[.int .i64 0, .int .u64 0, .int .i64 33]) H)) z
    | _ => z)
    (cond (Nat.beq g 105)
    (match args.toList with
    | [.int .u64 (.ofNat h)] => cond (Nat.blt h 18446744073709551616) (cond (uo h) (k (.tuple #[.int .i64 (Int.ofNat (sl h)), .int .u64 (Int.ofNat (gn h)), .int .i64 0]) H) (k (.tuple #[.int .i64 0, .int .u64 0, .int .i64 33]) H)) z
    | _ => z) z)

def slOf (h : Nat) : Nat := h % 65536 - 1
def gnOf (h : Nat) : Nat := h / 65536

theorem fitsU : Fits conU (ckU uhOk slOf gnOf) := fun g args H k z => by
  unfold conU ckU uhV
  split
  · rename_i h _
    cases Nat.beq g 111 <;> cases Nat.beq g 105 <;> cases Nat.blt h 18446744073709551616 <;> cases uhOk h <;> rfl
  · cases Nat.beq g 111 <;> cases Nat.beq g 105 <;> rfl

theorem conU_ok (hm : Try.prog.follows .mixedOrders = true) : CallOK Try.prog conU := CallOK.of fun g args H r h => by
  refine ⟨evalG Try.prog noT (funAt Try.prog []) 1000 (0 + 1 + 1), evalG_ok hm funAt_ok noT_ok _ _, ?_⟩
  rw [evalG_succ]
  obtain ⟨args⟩ := args
  unfold conU at h
  split at h
  · rename_i x heq
    simp only at heq
    subst heq
    cases h1 : Nat.blt x 18446744073709551616 with
    | false =>
      rw [h1] at h
      cases h2 : Nat.beq g 111 <;> cases h3 : Nat.beq g 105 <;> rw [h2] at h <;> first | (cases h; done) | (rw [h3] at h; cases h)
    | true =>
      have hl := blt_iff.1 h1
      rw [h1] at h
      cases h2 : Nat.beq g 111 with
      | true =>
        rw [h2] at h
        simp only [cond_true, Option.some.injEq] at h
        subst h
        rw [Nat.eq_of_beq_eq_true h2]
        refine unhandle_ok _ _ H x hl (fun m g' hm' hg' => ?_)
        rw [evalG_succ]
        subst hg'
        cases hu : uhOk x with
        | true =>
          simp only [uhOk, Bool.and_eq_true] at hu
          obtain ⟨u1, u2, u3⟩ := hu
          have u1 := Nat.le_of_ble_eq_true u1
          have u2 := Nat.le_of_ble_eq_true u2
          have u3 := blt_iff.1 u3
          have e1 : m = Int.ofNat (x % 65536 - 1) := by rw [hm']; simp; omega
          have e2 : x % 65536 - 1 + 1 + 65536 * (x / 65536) = x := by omega
          have := handle_good (evalG Try.prog noT (funAt Try.prog []) 1000 0) 1000 H (x % 65536 - 1) (x / 65536) (by omega) u3
          rw [e1, this, e2]; rfl
        | false =>
          refine handle_bad _ _ H m (x / 65536) ?_
          rw [hm']
          simp only [uhOk, Bool.and_eq_false_iff] at hu
          have nle : ∀ {a b : Nat}, Nat.ble a b = false → b < a := fun {a b} hh => by
            rcases Nat.lt_or_ge b a with h | h
            · exact h
            · rw [Nat.ble_eq_true_of_le h] at hh; cases hh
          rcases hu with hu | hu | hu
          · have := nle hu; left; omega
          · have := nle hu; right; left; omega
          · have : ¬ (x / 65536 < 1048576) := fun hh => by rw [blt_iff.2 hh] at hu; cases hu
            right; right; omega
      | false =>
        rw [h2] at h
        cases h3 : Nat.beq g 105 with
        | false => rw [h3] at h; cases h
        | true =>
          rw [h3] at h
          simp only [cond_true, cond_false, Option.some.injEq] at h
          subst h
          rw [Nat.eq_of_beq_eq_true h3]
          exact unhandle_ref _ _ H x hl
  · cases h

noncomputable def tA (h : Nat) (uo : Nat → Bool) (x y : RR) : RR := cond (Nat.blt h 18446744073709551616) (cond (uo h) x y) none
noncomputable def tM (cnt s : Nat) (x y : RR) : RR := cond (leF (if (256 : Int) < Int.ofNat cnt then 256 else Int.ofNat cnt) (Int.ofNat s)) x y
def yes : RR := some (.bool true, H0)
def no : RR := some (.bool false, H0)
noncomputable def tP (h : Nat) (uo : Nat → Bool) (cnt s a : Nat) (x y : RR) : RR :=
  tA h uo (tM cnt s x (cond (cond (Nat.blt a 128) false true) y (cond (Nat.blt a 128) y none))) x
noncomputable def tW (h : Nat) (uo : Nat → Bool) (cnt s : Nat) (x y : RR) : RR :=
  cond (Nat.blt 256 cnt) (tA h uo (cond (Nat.blt 255 s) x y) x) (tA h uo (cond (Nat.ble cnt s) x y) x)
noncomputable def tR (h : Nat) (uo : Nat → Bool) (cnt s a : Nat) : RR := tW h uo cnt s (tP h uo cnt s a yes no) (tP h uo cnt s a no yes)
noncomputable def tC (h : Nat) (uo : Nat → Bool) (cnt s : Nat) (x : RR) : RR := tA h uo (tM cnt s x x) x

theorem runsP (cam fst cnt mst h stamp : Nat) (uo : Nat → Bool) (sl gn : Nat → Nat) : callD 50 Try.prog (ckOr (ckOf (conKnown (knownOf 39 true))) (ckOr (ckU uo sl gn) ckL)) [111, 105, 228] 1000 8
    #[.agg #[.int .u64 (Int.ofNat cam), .int .u64 (Int.ofNat fst), .int .i64 (Int.ofNat cnt), .int .u64 (Int.ofNat mst)], .int .u64 (Int.ofNat h), .int .u64 (Int.ofNat stamp)] H0 kT =
    tC h uo cnt (sl h) (tC h uo cnt (sl h) (tR h uo cnt (sl h) (Nat.mod (Nat.add fst (Nat.mod (sl h) 18446744073709551616)) 18446744073709551616))) := by kernel_rfl

theorem runsN (cam fst cnt mst h stamp : Nat) (uo : Nat → Bool) (sl gn : Nat → Nat) : callD 50 Try.prog (ckOr (ckOf (conKnown (knownOf 39 true))) (ckOr (ckU uo sl gn) ckL)) [111, 105, 228] 1000 8
    #[.agg #[.int .u64 (Int.ofNat cam), .int .u64 (Int.ofNat fst), .int .i64 (Int.negSucc cnt), .int .u64 (Int.ofNat mst)], .int .u64 (Int.ofNat h), .int .u64 (Int.ofNat stamp)] H0 kT =
    tA h uo (tA h uo (tA h uo (tA h uo yes yes) (tA h uo yes yes)) (tA h uo (tA h uo yes yes) (tA h uo yes yes))) (tA h uo (tA h uo (tA h uo yes yes) (tA h uo yes yes)) (tA h uo (tA h uo yes yes) (tA h uo yes yes))) := by kernel_rfl

theorem tM_eq (cnt s : Nat) (x y : RR) : tM cnt s x y = cond (cond (Nat.blt 256 cnt) (Nat.blt 255 s) (Nat.ble cnt s)) x y := by
  unfold tM
  rw [leF_eq]
  congr 1
  cases hb : Nat.blt 256 cnt with
  | true =>
    have h1 := blt_iff.1 hb
    rw [if_pos (by simp; omega)]
    simp only [cond_true]
    cases h2 : Nat.blt 255 s with
    | true => have := blt_iff.1 h2; simp; omega
    | false =>
      have : ¬ 255 < s := fun hh => by rw [blt_iff.2 hh] at h2; cases h2
      simp; omega
  | false =>
    have h1 : ¬ 256 < cnt := fun hh => by rw [blt_iff.2 hh] at hb; cases hb
    rw [if_neg (by simp; omega)]
    simp only [cond_false]
    cases h2 : Nat.ble cnt s with
    | true => have := Nat.le_of_ble_eq_true h2; simp; omega
    | false =>
      have : ¬ cnt ≤ s := fun hh => by rw [Nat.ble_eq_true_of_le hh] at h2; cases h2
      simp; omega

theorem okP (h cnt s a : Nat) (uo : Nat → Bool) (hl : h < 18446744073709551616) : tC h uo cnt s (tC h uo cnt s (tR h uo cnt s a)) = some (.bool true, H0) := by
  unfold tC tR tW tP tA
  rw [blt_iff.2 hl]
  simp only [tM_eq]
  cases uo h <;> cases Nat.blt 256 cnt <;> cases Nat.blt 255 s <;> cases Nat.ble cnt s <;> cases Nat.blt a 128 <;> rfl

theorem okN (h : Nat) (uo : Nat → Bool) (hl : h < 18446744073709551616) : tA h uo (tA h uo (tA h uo (tA h uo yes yes) (tA h uo yes yes)) (tA h uo (tA h uo yes yes) (tA h uo yes yes))) (tA h uo (tA h uo (tA h uo yes yes) (tA h uo yes yes)) (tA h uo (tA h uo yes yes) (tA h uo yes yes))) = some (.bool true, H0) := by
  unfold tA
  rw [blt_iff.2 hl]
  cases uo h <;> rfl
end Go.Proofs.Ytipbbnoepphdkaa.handleNone
