/- MultiNone returns true for every input, in every world: the statement MultiNoneSaid. No conditions. -/
import Derived.Test.YtipbbnoepphdkaaRows
import Derived.Test.YtipbbnoepphdkaaCmB
namespace Go.Proofs.Ytipbbnoepphdkaa.multiNone
open Go Go.CM Go.ChangeShapes Go.WideShapes Go.ChangeAt Go.RowKit

theorem own : ownKnob Try.prog.godebug = none := by kernel_rfl
theorem laid : laidOutB Try.prog = true := by kernel_rfl
theorem mixed : Try.prog.follows .mixedOrders = true := by kernel_rfl

theorem live_runs : resT (evalCall Try.prog known0 1000 50 65 #[] H0) = true := by kernel_rfl
theorem live_known : KnownOK Try.prog (knownOf 65 true) := by
  obtain ⟨H, h⟩ := of_resT live_runs
  exact knownOf_ok Try.func65 (by kernel_rfl) (by kernel_rfl) fun w => pure_call mixed known0_ok AR.nil h w

theorem runs (a0 : Int) : resT (evalCall Try.prog (knownOf 65 true) 1000 50 10 #[.int .u64 a0] H0) = true := by kernel_rfl

theorem walk (a0 : Int) (w : World) : Calls Try.prog 10 #[.int .u64 a0] w fun e w' => e = .returned (.bool true) ∧ Less w w' := by
  obtain ⟨H, h⟩ := of_resT (runs a0)
  refine pure_call mixed live_known ?_ h w
  exact LR.toA (.cons (VR.of_pure _ 100 _ rfl) .nil)

set_option maxRecDepth 100000 in
theorem lifted (os : Os) (started : os.Started) (H : Type) (enc : TypeId × Value → H) :
    ReturnsInHanded {} Try.checked os 10 .any (Rows.multiNoneSpec.pre6 enc Try.prog Try.f10 Rows.multiNoneRow.domain false) (Rows.multiNoneSpec.post enc Try.prog Try.f10 false true false false) := by
  refine returnsInHanded_of_change (C := Try.checked) own started (by kernel_rfl) Try.func10
    (ChangeSpec.witness6 (enc := enc) (C := Try.checked) false ⟨#[], #[.int .u64 0], []⟩ 8 (by kernel_rfl) (by kernel_rfl) (by kernel_rfl) (by kernel_rfl)) ?_
  intro W base args ds gs before hval0 hW hcnd _
  have hval : ∀ (j : Nat) t v, Try.f10.params[j]? = some t → args[j]? = some v → Value.okWide Try.prog W .any base t v := hval0
  have hW' := hW
  obtain ⟨p, q, hA0, hV, rfl, hfz, hnd⟩ := hW
  have hA : DataW.TrodAll enc Try.prog W 0 (fun _ => true) true Try.f10.params.toList args.toList ds p := hA0
  rw [Try.params10] at hA hval
  obtain ⟨v0, d0, rfl, rfl, h0⟩ := trodAll_one hA
  obtain ⟨rfl, rfl⟩ := trodVars_none hV
  obtain ⟨a0, rfl, rfl, rfl, _⟩ := open_int Try.underlying22 (hval 0 22 v0 rfl rfl) h0
  refine (walk a0 W).mono fun e W' ⟨he, hl⟩ => ?_
  exact ⟨_, he, law_post laid (by kernel_rfl) rfl Try.underlying4 rfl ⟨rfl, rfl, rfl⟩ hW' hl⟩

theorem proved : Rows.MultiNoneSaid :=
  OpenClaim.holds_of_wide 10 Try.f10 rfl rfl rfl rfl rfl rfl rfl ⟨rfl, rfl, rfl, rfl, rfl⟩ rfl rfl rfl rfl rfl (by kernel_rfl) Try.func10 (by kernel_rfl)
    (of_decide_eq_true (by kernel_rfl)) (by unfold Func.isWrapper; first | (rw [if_pos (by decide +kernel)]; kernel_rfl) | (rw [if_neg (by decide +kernel)]; exact ⟨rfl, rfl⟩))
    (fun os started H enc _ => lifted os started H enc)
#print axioms proved

end Go.Proofs.Ytipbbnoepphdkaa.multiNone
