/- OrderNone's text in three pieces: what each tells by the kernel, from a state of one form to the next, for every tree, operation, way and key. No conditions beyond the ones each theorem states. -/
import Derived.Test.YtjlgcjicaegchaaGreatProg
import Derived.Test.YtjlgcjicaegchaaGreatCmD
namespace Go.Proofs.YtjlgcjicaegchaaGreat.orderNone
open Go Go.CM

noncomputable section
abbrev agg (cam root kd key val old hdl : Nat) (rb : Bool) (ri rj : Int) (sl : Value) (lo hi : Nat) (way : Int) (k : Nat) : Value := .agg #[.int .u64 (Int.ofNat cam), .int .u64 (Int.ofNat root), .int .u8 (Int.ofNat kd), .int .u64 (Int.ofNat key), .int .u64 (Int.ofNat val), .int .u64 (Int.ofNat old), .int .u64 (Int.ofNat hdl), .bool rb, .int .i64 ri, .int .i64 rj, sl, .int .u64 (Int.ofNat lo), .int .u64 (Int.ofNat hi), .int .i64 way, .int .u64 (Int.ofNat k)]
def body : Code := (Tryz.f4.body).getD .skip
def ck : ConC := ckOf (conKnown (knownOf 15 true))
def evs : CallF := callD 50 Tryz.prog ck [] 1000
def srcsA : List Src := [.tmp 3, .tmp 9, .cell 1 0, .cell 2 0, .cell 3 0]
def runA (kd cam root key val old hdl : Nat) (rb : Bool) (ri rj : Int) (sl : Value) (lo hi : Nat) (way : Int) (kk : Nat) (te : TypeId) (cap : Nat) (f : Nat → Nat) : RR := codeF (takeC 17 body) Tryz.prog evs 1000 (tm1 [agg cam root kd key val old hdl rb ri rj sl lo hi way kk]) (H0.new (rowN te .u64 cap f)) (kForm isN srcsA [true, true, true, true, true] [3, 5, 6, 9] 205 (tm1 [agg cam root kd key val old hdl rb ri rj sl lo hi way kk]).own)

def sb (elem : TypeId) (es : Nat) (wr : Bool) (cs : List Value) : Blk := { elem, size := cs.length, es, wr, dead := false, cells := { base := nthV cs, own := .leaf } }
def vsA (way : Int) (kk : Nat) : List Value := [.pointer (some ⟨0, 0, none⟩), .int .i64 way, .int .u64 (Int.ofNat kk), .pointer (some ⟨1, 0, none⟩)]
def bsA (cam root : Nat) : List Blk := [sb 24 0 true [.int .u64 (Int.ofNat cam), .int .u64 (Int.ofNat root)], sb 109 0 true [.pointer (some ⟨2, 0, none⟩), .int .i64 0, .int .i64 0],
  sb 104 0 true [.iface 105 (.pointer (some ⟨3, 0, none⟩)), .bool false, .slice none 0 0], sb 107 0 true [.slice (some ⟨4, 0, none⟩) 128 128, .int .i64 1], sb 22 0 true (List.replicate 128 (.int .u64 0))]
def srcsB : List Src := [.tmp 9, .tmp 12, .tmp 23, .tmp 24, .cell 0 0, .cell 4 0, .cell 5 0]
def runB (d : Nat → Value) (jb : Nat → Option Blk) (cam root : Nat) (way : Int) (kk : Nat) : RR := codeF (takeC 8 (dropC 17 body)) Tryz.prog evs 1000 (stA d [3, 5, 6, 9] (vsA way kk)) (stH 205 jb (bsA cam root))
   (kForm isN srcsB [true, true, true, true, true, true, true] [9, 12, 20, 22, 23, 24] 205 (zipT [3, 5, 6, 9] (vsA way kk)))

def vsB : List Value := [.pointer (some ⟨0, 0, none⟩), .pointer (some ⟨1, 0, none⟩), .bool false, .bool false, .pointer (some ⟨2, 0, none⟩), .pointer (some ⟨3, 0, none⟩)]
def bsB (cam root r kk k2 : Nat) (en idle : Bool) : List Blk := [sb 109 0 true [.pointer (some ⟨4, 0, none⟩), .int .i64 0, .int .i64 0],
  sb 150 0 true [(.int .u64 (Int.ofNat cam)), (.int .u64 (Int.ofNat root)), (.int .u64 (Int.ofNat kk)), (.pointer none), (.bool false), (.int .u64 (Int.ofNat 0)), (.int .u64 (Int.ofNat 0)), (.bool false), (.int .u64 (Int.ofNat 0)), (.int .i64 (Int.ofNat 0)), (.int .u64 (Int.ofNat 0)), (.bool false), (.slice none 0 0), (.bool true)],
  sb 138 0 true [(.int .u8 (Int.ofNat r)), (.int .u64 (Int.ofNat cam)), (.int .u64 (Int.ofNat root)), (.int .u64 (Int.ofNat k2)), (.bool en), (.int .i64 (Int.ofNat 0)), (.pointer none), (.pointer none), (.int .u64 (Int.ofNat 0)), (.int .u64 (Int.ofNat 0)), (.int .u64 (Int.ofNat 0)), (.int .u64 (Int.ofNat 0)), (.int .u64 (Int.ofNat 0)), (.int .u64 (Int.ofNat 0)), (.int .u64 (Int.ofNat 0)), (.int .i64 (Int.ofNat 0)), (.bool idle), (.bool false), (.int .u64 (Int.ofNat 0)), (.int .u64 (Int.ofNat 0)), (.bool false), (.int .i64 (Int.ofNat 0)), (.bool false)],
  sb 81 0 true [(.int .u64 (Int.ofNat cam)), (.int .u64 (Int.ofNat root)), (.int .i64 (Int.ofNat r)), (.int .u64 (Int.ofNat kk)), (.int .i64 (Int.ofNat 0)), (.int .u64 (Int.ofNat 0)), (.int .u64 (Int.ofNat 0)), (.int .u64 (Int.ofNat 0)), (.bool false), (.bool false), (.int .i64 (Int.ofNat 0)), (.int .u64 (Int.ofNat 0)), (.int .u64 (Int.ofNat 0)), (.int .u64 (Int.ofNat 0)), (.int .u64 (Int.ofNat 0)), (.int .u64 (Int.ofNat 0)), (.int .u64 (Int.ofNat 0)), (.int .u64 (Int.ofNat 0)), (.int .i64 (Int.ofNat 0)), (.int .u64 (Int.ofNat 0)), (.int .u64 (Int.ofNat 0)), (.int .u64 (Int.ofNat 0)), (.int .i64 (Int.ofNat 0)), (.int .u64 (Int.ofNat 0)), (.int .u64 (Int.ofNat 0)), (.int .u64 (Int.ofNat 0)), (.int .u64 (Int.ofNat 0)), (.int .i64 (Int.ofNat 0)), (.int .u64 (Int.ofNat 0)), (.int .u64 (Int.ofNat 0)), (.int .u64 (Int.ofNat 0)), (.int .u64 (Int.ofNat 0)), (.int .u64 (Int.ofNat 0)), (.int .u64 (Int.ofNat 0)), (.int .i64 (Int.ofNat 0)), (.int .u64 (Int.ofNat 0)), (.int .u64 (Int.ofNat 0)), (.int .u64 (Int.ofNat 0)), (.bool false), (.int .i64 (Int.ofNat 0)), (.int .i64 (Int.ofNat 0)), (.int .i64 (Int.ofNat 0)), (.int .i64 (Int.ofNat 0)), (.int .u64 (Int.ofNat 0)), (.int .u64 (Int.ofNat 0)), (.int .u64 (Int.ofNat 0)), (.int .u64 (Int.ofNat 0)), (.int .u64 (Int.ofNat 0)), (.bool false), (.int .i64 (Int.ofNat 0)), (.int .i64 (Int.ofNat 0))],
  sb 104 0 true [.iface 105 (.pointer (some ⟨5, 0, none⟩)), .bool false, .slice none 0 0], sb 107 0 true [.slice (some ⟨6, 0, none⟩) 128 128, .int .i64 1], sb 22 0 true (List.replicate 128 (.int .u64 0))]
def runC (d : Nat → Value) (jb : Nat → Option Blk) (cam root r kk k2 : Nat) (en idle : Bool) : RR := codeF (dropC 8 (dropC 17 body)) Tryz.prog evs 1000 (stA d [9, 12, 20, 22, 23, 24] vsB) (stH 205 jb (bsB cam root r kk k2 en idle)) (kTell 2)

/-- The first piece, whatever the operation's kind is. -/
theorem runA_some (cam root key val old hdl : Nat) (rb : Bool) (ri rj : Int) (len cap lo hi : Nat) (way : Int) (kk : Nat) (te : TypeId) (f : Nat → Nat) : ∀ kd : Nat, runA kd cam root key val old hdl rb ri rj (.slice (some ⟨0, 0, none⟩) len cap) lo hi way kk te cap f = some (.tuple ⟨vsA way kk⟩, encH { base := fun _ => some undV, own := .leaf } (bsA cam root))
  | 0 => by kernel_rfl
  | 1 => by kernel_rfl
  | 2 => by kernel_rfl
  | 3 => by kernel_rfl
  | 4 => by kernel_rfl
  | m + 5 => by kernel_rfl

theorem runA_none (cam root key val old hdl : Nat) (rb : Bool) (ri rj : Int) (cap lo hi : Nat) (way : Int) (kk : Nat) (te : TypeId) (f : Nat → Nat) : ∀ kd : Nat, runA kd cam root key val old hdl rb ri rj (.slice none 0 0) lo hi way kk te cap f = some (.tuple ⟨vsA way kk⟩, encH { base := fun _ => some undV, own := .leaf } (bsA cam root))
  | 0 => by kernel_rfl
  | 1 => by kernel_rfl
  | 2 => by kernel_rfl
  | 3 => by kernel_rfl
  | 4 => by kernel_rfl
  | m + 5 => by kernel_rfl

def leafB (d : Nat → Value) (cam root r kk k2 : Nat) (en idle : Bool) : RR := some (.tuple ⟨vsB⟩, encH { base := fun t => some (d t), own := .leaf } (bsB cam root r kk k2 en idle))
def tL (m r : Nat) (x : RR) : RR := cond (Nat.blt m 9223372036854775808) (cond (Nat.blt r 256) x none) none
def tB (d : Nat → Value) (cam root m r kk : Nat) : RR :=
  cond (Nat.blt m 9223372036854775808) (cond (Nat.beq r 1) (tL m r (leafB d cam root r kk (Nat.mod (Nat.add kk 1) 18446744073709551616) false (Nat.beq kk 18446744073709551615)))
    (cond (Nat.beq r 2) (tL m r (leafB d cam root r kk kk false false)) (cond (Nat.beq r 3) (tL m r (leafB d cam root r kk 0 false false)) (cond (Nat.beq r 4) (tL m r (leafB d cam root r kk 0 true false)) (tL m r (leafB d cam root r kk 0 false true)))))) none

theorem runB_pos (d : Nat → Value) (jb : Nat → Option Blk) (cam root m kk : Nat) : runB d jb cam root (Int.ofNat m) kk = tB d cam root m (Nat.mod m 256) kk := by kernel_rfl
theorem runB_neg (d : Nat → Value) (jb : Nat → Option Blk) (cam root m kk : Nat) : runB d jb cam root (Int.negSucc m) kk = tB d cam root m (Int.toNat (IntKind.u8.wrap (Int.negSucc m))) kk := by kernel_rfl

def yes : RR := some (.bool true, H0)
theorem runC1f (d : Nat → Value) (jb : Nat → Option Blk) (cam root kk k2 : Nat) : runC d jb cam root 1 kk k2 false false = cond (Nat.beq kk 18446744073709551615) yes yes := by kernel_rfl
theorem runC1t (d : Nat → Value) (jb : Nat → Option Blk) (cam root kk k2 : Nat) : runC d jb cam root 1 kk k2 false true = cond (Nat.beq kk 18446744073709551615) yes yes := by kernel_rfl
theorem runC2 (d : Nat → Value) (jb : Nat → Option Blk) (cam root kk : Nat) : runC d jb cam root 2 kk kk false false = yes := by kernel_rfl
theorem runC3 (d : Nat → Value) (jb : Nat → Option Blk) (cam root kk : Nat) : runC d jb cam root 3 kk 0 false false = yes := by kernel_rfl
theorem runC4 (d : Nat → Value) (jb : Nat → Option Blk) (cam root kk : Nat) : runC d jb cam root 4 kk 0 true false = yes := by kernel_rfl
theorem runC0 (d : Nat → Value) (jb : Nat → Option Blk) (cam root kk : Nat) : runC d jb cam root 0 kk 0 false true = yes := by kernel_rfl
theorem runC5 (d : Nat → Value) (jb : Nat → Option Blk) (cam root kk m : Nat) : runC d jb cam root (m + 5) kk 0 false true = yes := by kernel_rfl

/-- Where the second piece may lead, and that the third tells true from there. -/
theorem runB_some (d : Nat → Value) (jb : Nat → Option Blk) (cam root kk : Nat) (way : Int) (hw : (Lit.int .i64 way).wf = true) : ∃ r k2 en idle, runB d jb cam root way kk = leafB d cam root r kk k2 en idle ∧ ∀ d2 jb2, runC d2 jb2 cam root r kk k2 en idle = yes := by
  have key : ∀ m r : Nat, m < 9223372036854775808 → r < 256 → ∃ r' k2 en idle, tB d cam root m r kk = leafB d cam root r' kk k2 en idle ∧ ∀ d2 jb2, runC d2 jb2 cam root r' kk k2 en idle = yes := by
    intro m r hm hr
    unfold tB tL
    rw [blt_iff.2 hm, blt_iff.2 hr]
    simp only [cond_true]
    match r, hr with
    | 1, _ =>
      refine ⟨1, _, false, Nat.beq kk 18446744073709551615, rfl, fun d2 jb2 => ?_⟩
      cases hb : Nat.beq kk 18446744073709551615 with
      | true => rw [runC1t, hb]; rfl
      | false => rw [runC1f, hb]; rfl
    | 2, _ => exact ⟨2, kk, false, false, rfl, fun d2 jb2 => runC2 d2 jb2 cam root kk⟩
    | 3, _ => exact ⟨3, 0, false, false, rfl, fun d2 jb2 => runC3 d2 jb2 cam root kk⟩
    | 4, _ => exact ⟨4, 0, true, false, rfl, fun d2 jb2 => runC4 d2 jb2 cam root kk⟩
    | 0, _ => exact ⟨0, 0, false, true, rfl, fun d2 jb2 => runC0 d2 jb2 cam root kk⟩
    | r + 5, _ => exact ⟨r + 5, 0, false, true, rfl, fun d2 jb2 => runC5 d2 jb2 cam root kk r⟩
  have hw' : IntKind.i64.min ≤ way ∧ way ≤ IntKind.i64.max := by
    simpa only [Lit.wf, Bool.and_eq_true, decide_eq_true_eq] using hw
  have e1 : IntKind.i64.min = -9223372036854775808 := by decide
  have e2 : IntKind.i64.max = 9223372036854775807 := by decide
  rw [e1, e2] at hw'
  cases way with
  | ofNat m =>
    obtain ⟨r, k2, en, idle, h1, h2⟩ := key m (Nat.mod m 256) (by have := hw'.2; simp at this; omega) (Nat.mod_lt m (by decide))
    exact ⟨r, k2, en, idle, (runB_pos d jb cam root m kk).trans h1, h2⟩
  | negSucc m =>
    have hlt : Int.toNat (IntKind.u8.wrap (Int.negSucc m)) < 256 := by
      have h : IntKind.u8.wrap (Int.negSucc m) < 256 := by
        show (Int.negSucc m) % 2 ^ 8 < 256
        exact Int.emod_lt_of_pos _ (by decide)
      have h2 : (0 : Int) ≤ IntKind.u8.wrap (Int.negSucc m) := by
        show (0 : Int) ≤ (Int.negSucc m) % 2 ^ 8
        exact Int.emod_nonneg _ (by decide)
      omega
    obtain ⟨r, k2, en, idle, h1, h2⟩ := key m _ (by have := hw'.1; omega) hlt
    exact ⟨r, k2, en, idle, (runB_neg d jb cam root m kk).trans h1, h2⟩
end
end Go.Proofs.YtjlgcjicaegchaaGreat.orderNone
