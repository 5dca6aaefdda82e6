/- WalkNone returns true for every input, in every world: the statement WalkNoneSaid. No conditions. -/
import Derived.Test.YtjlgcjicaegchaaGreatRows
import Derived.Test.YtjlgcjicaegchaaGreatCmC
namespace Go.Proofs.YtjlgcjicaegchaaGreat.walkNone
open Go Go.CM Go.ChangeShapes Go.WideShapes Go.ChangeAt Go.RowKit

theorem own : ownKnob Tryz.prog.godebug = none := by kernel_rfl
theorem laid : laidOutB Tryz.prog = true := by kernel_rfl
theorem mixed : Tryz.prog.follows .mixedOrders = true := by kernel_rfl

theorem live_runs : runF Tryz.prog known0 [] 1000 50 5 #[] H0 = true := by kernel_rfl
theorem live_known : KnownOK Tryz.prog (knownOf 5 true) := by
  obtain ⟨H, h⟩ := of_runF live_runs
  exact knownOf_ok Tryz.func5 (by kernel_rfl) (by kernel_rfl) fun w => pure_call mixed known0_ok AR.nil h w

theorem runs (a0 : Nat) (a1 : Nat) (a2 : Nat) (a3 : Nat) (a4 : Nat) : callF 50 Tryz.prog (knownOf 5 true) [45] 1000 3 #[.agg #[.int .u64 (Int.ofNat a0), .int .u64 (Int.ofNat a1), .int .u64 (Int.ofNat a2), .int .u64 (Int.ofNat a3), .int .u64 (Int.ofNat a4)]] H0 kT = (cond (Nat.blt a4 a3) (cond (Nat.blt a4 a3) (cond (cond (cond (cond (Nat.beq a0 a0) (cond (Nat.beq a1 a1) true false) false) (cond (cond (Nat.beq a0 a0) (cond (Nat.beq a1 a1) true false) false) true false) false) true false) (cond (cond (cond (cond (Nat.beq a0 a0) (cond (Nat.beq a1 a1) true false) false) (cond (cond (Nat.beq a0 a0) (cond (Nat.beq a1 a1) true false) false) true false) false) true false) (cond (cond (cond (Nat.beq a2 a2) (cond (Nat.beq a2 a2) (cond (Nat.beq a2 a2) true false) false) false) (cond (cond (Nat.beq a0 a0) (cond (Nat.beq a0 a0) (cond (Nat.beq a0 a0) true false) false) false) true false) false) (cond (cond (cond (Nat.beq a2 a2) (cond (Nat.beq a2 a2) (cond (Nat.beq a2 a2) true false) false) false) (cond (cond (Nat.beq a0 a0) (cond (Nat.beq a0 a0) (cond (Nat.beq a0 a0) true false) false) false) true false) false) (some (.bool true, H0)) none) none) none) none) none) (cond (cond (cond (cond (Nat.beq a0 a0) (cond (Nat.beq a1 a1) true false) false) (cond (cond (Nat.beq a0 a0) (cond (Nat.beq a1 a1) true false) false) true false) false) true false) (cond (cond (cond (cond (Nat.beq a0 a0) (cond (Nat.beq a1 a1) true false) false) (cond (cond (Nat.beq a0 a0) (cond (Nat.beq a1 a1) true false) false) true false) false) true false) (cond (cond (cond (Nat.beq a2 a2) (cond (Nat.beq a2 a2) (cond (Nat.beq a2 a2) true false) false) false) (cond (cond (Nat.beq a0 a0) (cond (Nat.beq a0 a0) (cond (Nat.beq a0 a0) true false) false) false) true false) false) (cond (cond (cond (Nat.beq a2 a2) (cond (Nat.beq a2 a2) (cond (Nat.beq a2 a2) true false) false) false) (cond (cond (Nat.beq a0 a0) (cond (Nat.beq a0 a0) (cond (Nat.beq a0 a0) true false) false) false) true false) false) (some (.bool true, H0)) none) none) none) none)) := by kernel_rfl

theorem walk (a0 : Nat) (a1 : Nat) (a2 : Nat) (a3 : Nat) (a4 : Nat) (w : World) : Calls Tryz.prog 3 #[.agg #[.int .u64 (Int.ofNat a0), .int .u64 (Int.ofNat a1), .int .u64 (Int.ofNat a2), .int .u64 (Int.ofNat a3), .int .u64 (Int.ofNat a4)]] w fun e w' => e = .returned (.bool true) ∧ Less w w' := by
  obtain ⟨H, h⟩ := of_callT ((runs a0 a1 a2 a3 a4).trans (by simp only [Nat.beq_refl, cond_true]; cases Nat.blt a4 a3 <;> rfl))
  refine pure_call mixed live_known ?_ h w
  exact LR.toA (.cons (VR.of_pure _ 100 _ rfl) .nil)

set_option maxRecDepth 100000 in
theorem lifted (os : Os) (started : os.Started) (H : Type) (enc : TypeId × Value → H) :
    ReturnsInHanded {} Tryz.checked os 3 .any (Rows.walkNoneSpec.pre6 enc Tryz.prog Tryz.f3 Rows.walkNoneRow.domain false) (Rows.walkNoneSpec.post enc Tryz.prog Tryz.f3 false true false false) := by
  refine returnsInHanded_of_change (C := Tryz.checked) own started (by kernel_rfl) Tryz.func3
    (ChangeSpec.witness6 (enc := enc) (C := Tryz.checked) false ⟨#[], #[.agg #[.int .u64 0, .int .u64 0, .int .u64 0, .int .u64 0, .int .u64 0]], []⟩ 8 (by kernel_rfl) (by kernel_rfl) (by kernel_rfl) (by kernel_rfl)) ?_
  intro W base args ds gs before hval0 hW hcnd _
  have hval : ∀ (j : Nat) t v, Tryz.f3.params[j]? = some t → args[j]? = some v → Value.okWide Tryz.prog W .any base t v := hval0
  have hW' := hW
  obtain ⟨p, q, hA0, hV, rfl, hfz, hnd⟩ := hW
  have hA : DataW.TrodAll enc Tryz.prog W 0 (fun _ => true) true Tryz.f3.params.toList args.toList ds p := hA0
  rw [Tryz.params3] at hA hval
  obtain ⟨v0, d0, rfl, rfl, h0⟩ := trodAll_one hA
  obtain ⟨rfl, rfl⟩ := trodVars_none hV
  obtain ⟨l0, rfl, c0⟩ := arg_struct (ks := [.int .u64, .int .u64, .int .u64, .int .u64, .int .u64]) (n := 8) Tryz.underlying26 (by kernel_rfl) (hval 0 26 v0 rfl rfl) h0
  obtain ⟨_, l0_0, rfl, ⟨ia0, rfl, wa0⟩, c0_0⟩ := CKs.cons c0
  obtain ⟨a0, rfl, la0⟩ := nat_of_wf rfl wa0
  obtain ⟨_, l0_1, rfl, ⟨ia1, rfl, wa1⟩, c0_1⟩ := CKs.cons c0_0
  obtain ⟨a1, rfl, la1⟩ := nat_of_wf rfl wa1
  obtain ⟨_, l0_2, rfl, ⟨ia2, rfl, wa2⟩, c0_2⟩ := CKs.cons c0_1
  obtain ⟨a2, rfl, la2⟩ := nat_of_wf rfl wa2
  obtain ⟨_, l0_3, rfl, ⟨ia3, rfl, wa3⟩, c0_3⟩ := CKs.cons c0_2
  obtain ⟨a3, rfl, la3⟩ := nat_of_wf rfl wa3
  obtain ⟨_, l0_4, rfl, ⟨ia4, rfl, wa4⟩, c0_4⟩ := CKs.cons c0_3
  obtain ⟨a4, rfl, la4⟩ := nat_of_wf rfl wa4
  obtain rfl := CKs.nil c0_4
  refine (walk a0 a1 a2 a3 a4 W).mono fun e W' ⟨he, hl⟩ => ?_
  exact ⟨_, he, law_post laid (by kernel_rfl) rfl Tryz.underlying4 rfl ⟨rfl, rfl, rfl⟩ hW' hl⟩

theorem proved : Rows.WalkNoneSaid :=
  OpenClaim.holds_of_wide 3 Tryz.f3 rfl rfl rfl rfl rfl rfl rfl ⟨rfl, rfl, rfl, rfl, rfl⟩ rfl rfl rfl rfl rfl (by kernel_rfl) Tryz.func3 (by kernel_rfl)
    (of_decide_eq_true (by kernel_rfl)) (by unfold Func.isWrapper; first | (rw [if_pos (by decide +kernel)]; kernel_rfl) | (rw [if_neg (by decide +kernel)]; exact ⟨rfl, rfl⟩))
    (fun os started H enc _ => lifted os started H enc)
#print axioms proved

end Go.Proofs.YtjlgcjicaegchaaGreat.walkNone
