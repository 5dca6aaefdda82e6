/- AnnounceNone returns true for every input, in every world: the statement AnnounceNoneSaid. No conditions. -/
import Derived.Test.YtipbbnoepphdkaaRows
import Derived.Test.YtipbbnoepphdkaaCmB
namespace Go.Proofs.Ytipbbnoepphdkaa.announceNone
open Go Go.CM Go.ChangeShapes Go.WideShapes Go.ChangeAt Go.RowKit

theorem own : ownKnob Try.prog.godebug = none := by kernel_rfl
theorem laid : laidOutB Try.prog = true := by kernel_rfl
theorem mixed : Try.prog.follows .mixedOrders = true := by kernel_rfl

theorem live_runs : resT (evalCall Try.prog known0 1000 50 53 #[] H0) = true := by kernel_rfl
theorem live_known : KnownOK Try.prog (knownOf 53 true) := by
  obtain ⟨H, h⟩ := of_resT live_runs
  exact knownOf_ok Try.func53 (by kernel_rfl) (by kernel_rfl) fun w => pure_call mixed known0_ok AR.nil h w

theorem runs (a0 : Int) (a1 : Int) (a2 : Int) (a3 : Int) (a4 : Int) : resT (evalCall Try.prog (knownOf 53 true) 1000 50 9 #[.agg #[.int .u64 a0, .int .u64 a1, .int .i64 a2, .int .u64 a3], .int .u64 a4] H0) = true := by kernel_rfl

theorem walk (a0 : Int) (a1 : Int) (a2 : Int) (a3 : Int) (a4 : Int) (w : World) : Calls Try.prog 9 #[.agg #[.int .u64 a0, .int .u64 a1, .int .i64 a2, .int .u64 a3], .int .u64 a4] w fun e w' => e = .returned (.bool true) ∧ Less w w' := by
  obtain ⟨H, h⟩ := of_resT (runs a0 a1 a2 a3 a4)
  refine pure_call mixed live_known ?_ h w
  exact LR.toA (.cons (VR.of_pure _ 100 _ rfl) (.cons (VR.of_pure _ 100 _ rfl) .nil))

set_option maxRecDepth 100000 in
theorem lifted (os : Os) (started : os.Started) (H : Type) (enc : TypeId × Value → H) :
    ReturnsInHanded {} Try.checked os 9 .any (Rows.announceNoneSpec.pre6 enc Try.prog Try.f9 Rows.announceNoneRow.domain false) (Rows.announceNoneSpec.post enc Try.prog Try.f9 false true false false) := by
  refine returnsInHanded_of_change (C := Try.checked) own started (by kernel_rfl) Try.func9
    (ChangeSpec.witness6 (enc := enc) (C := Try.checked) false ⟨#[], #[.agg #[.int .u64 0, .int .u64 0, .int .i64 0, .int .u64 0], .int .u64 0], []⟩ 8 (by kernel_rfl) (by kernel_rfl) (by kernel_rfl) (by kernel_rfl)) ?_
  intro W base args ds gs before hval0 hW hcnd _
  have hval : ∀ (j : Nat) t v, Try.f9.params[j]? = some t → args[j]? = some v → Value.okWide Try.prog W .any base t v := hval0
  have hW' := hW
  obtain ⟨p, q, hA0, hV, rfl, hfz, hnd⟩ := hW
  have hA : DataW.TrodAll enc Try.prog W 0 (fun _ => true) true Try.f9.params.toList args.toList ds p := hA0
  rw [Try.params9] at hA hval
  obtain ⟨v0, v1, d0, d1, p0, p1, rfl, rfl, rfl, h0, h1⟩ := trodAll_two hA
  obtain ⟨rfl, rfl⟩ := trodVars_none hV
  obtain ⟨l0, rfl, c0⟩ := arg_struct (ks := [.int .u64, .int .u64, .int .i64, .int .u64]) (n := 8) Try.underlying31 (by kernel_rfl) (hval 0 31 v0 rfl rfl) h0
  obtain ⟨_, l0_0, rfl, ⟨a0, rfl, _⟩, c0_0⟩ := CKs.cons c0
  obtain ⟨_, l0_1, rfl, ⟨a1, rfl, _⟩, c0_1⟩ := CKs.cons c0_0
  obtain ⟨_, l0_2, rfl, ⟨a2, rfl, _⟩, c0_2⟩ := CKs.cons c0_1
  obtain ⟨_, l0_3, rfl, ⟨a3, rfl, _⟩, c0_3⟩ := CKs.cons c0_2
  obtain rfl := CKs.nil c0_3
  obtain ⟨a4, rfl, rfl, rfl, _⟩ := open_int Try.underlying22 (hval 1 22 v1 rfl rfl) h1
  refine (walk a0 a1 a2 a3 a4 W).mono fun e W' ⟨he, hl⟩ => ?_
  exact ⟨_, he, law_post laid (by kernel_rfl) rfl Try.underlying4 rfl ⟨rfl, rfl, rfl⟩ hW' hl⟩

theorem proved : Rows.AnnounceNoneSaid :=
  OpenClaim.holds_of_wide 9 Try.f9 rfl rfl rfl rfl rfl rfl rfl ⟨rfl, rfl, rfl, rfl, rfl⟩ rfl rfl rfl rfl rfl (by kernel_rfl) Try.func9 (by kernel_rfl)
    (of_decide_eq_true (by kernel_rfl)) (by unfold Func.isWrapper; first | (rw [if_pos (by decide +kernel)]; kernel_rfl) | (rw [if_neg (by decide +kernel)]; exact ⟨rfl, rfl⟩))
    (fun os started H enc _ => lifted os started H enc)
#print axioms proved

end Go.Proofs.Ytipbbnoepphdkaa.announceNone
