/- CutNone returns true for every tree and slots, in every world: the statement CutNoneSaid. No conditions. -/
import Derived.Test.YtipbbnoepphdkaaRows
import Derived.Test.YtipbbnoepphdkaaCmB
import Derived.Lib.SmallJoins
namespace Go.Proofs.Ytipbbnoepphdkaa.cutNone
open Go Go.CM Go.ChangeShapes Go.WideShapes Go.ChangeAt Go.RowKit

theorem own : ownKnob Try.prog.godebug = none := by kernel_rfl
theorem laid : laidOutB Try.prog = true := by kernel_rfl
theorem mixed : Try.prog.follows .mixedOrders = true := by kernel_rfl

def resT : Option (Value × CH) → Bool
  | some (.bool true, _) => true
  | _ => false
theorem of_resT {x : Option (Value × CH)} (h : resT x = true) : ∃ H, x = some (.bool true, H) := by
  cases x with
  | none => cases h
  | some r =>
    obtain ⟨v, H⟩ := r
    cases v with
    | bool b => cases b with
      | true => exact ⟨H, rfl⟩
      | false => cases h
    | _ => cases h

theorem live_runs : resT (evalCall Try.prog known0 1000 50 11 #[] H0) = true := by kernel_rfl
theorem live_known : KnownOK Try.prog (knownOf 11 true) := by
  obtain ⟨H, h⟩ := of_resT live_runs
  exact knownOf_ok Try.func11 (by kernel_rfl) (by kernel_rfl) fun w => pure_call mixed known0_ok AR.nil h w

theorem runs (a b c d e f : Int) : resT (evalCall Try.prog (knownOf 11 true) 1000 50 4 #[.agg #[.int .u64 a, .int .u64 b], .agg #[.int .u64 c, .int .u64 d, .int .i64 e, .int .u64 f]] H0) = true := by kernel_rfl

theorem walk (a b c d e f : Int) (w : World) : Calls Try.prog 4 #[.agg #[.int .u64 a, .int .u64 b], .agg #[.int .u64 c, .int .u64 d, .int .i64 e, .int .u64 f]] w fun e w' => e = .returned (.bool true) ∧ Less w w' := by
  obtain ⟨H, h⟩ := of_resT (runs a b c d e f)
  refine pure_call mixed live_known ?_ h w
  exact LR.toA (.cons (VR.of_pure _ 100 _ rfl) (.cons (VR.of_pure _ 100 _ rfl) .nil))

set_option maxRecDepth 100000 in
theorem lifted (os : Os) (started : os.Started) (H : Type) (enc : TypeId × Value → H) :
    ReturnsInHanded {} Try.checked os 4 .any (Rows.cutNoneSpec.pre6 enc Try.prog Try.f4 Rows.cutNoneRow.domain false) (Rows.cutNoneSpec.post enc Try.prog Try.f4 false true false false) := by
  refine returnsInHanded_of_change (C := Try.checked) own started (by kernel_rfl) Try.func4
    (ChangeSpec.witness6 (enc := enc) (C := Try.checked) false ⟨#[], #[.agg #[.int .u64 0, .int .u64 0], .agg #[.int .u64 0, .int .u64 0, .int .i64 0, .int .u64 0]], []⟩ 8 (by kernel_rfl) (by kernel_rfl) (by kernel_rfl) (by kernel_rfl)) ?_
  intro W base args ds gs before hval0 hW hcnd _
  have hval : ∀ (j : Nat) t v, Try.f4.params[j]? = some t → args[j]? = some v → Value.okWide Try.prog W .any base t v := hval0
  have hW' := hW
  obtain ⟨p, q, hA0, hV, rfl, hfz, hnd⟩ := hW
  have hA : DataW.TrodAll enc Try.prog W 0 (fun _ => true) true Try.f4.params.toList args.toList ds p := hA0
  rw [Try.params4] at hA hval
  obtain ⟨v0, v1, d0, d1, p0, p1, rfl, rfl, rfl, h0, h1⟩ := trodAll_two hA
  obtain ⟨rfl, rfl⟩ := trodVars_none hV
  obtain ⟨x0, x1, y0, y1, n0, rfl, rfl, rfl, g0, g1⟩ := Joins.open_agg2 (Try.underlying29) (by kernel_rfl) (by kernel_rfl) (hval 0 29 v0 rfl rfl) h0
  obtain ⟨x2, x3, x4, x5, y2, y3, y4, y5, n1, rfl, rfl, rfl, g2, g3, g4, g5⟩ := Joins.open_agg4 (Try.underlying31) (by kernel_rfl) (by kernel_rfl) (hval 1 31 v1 rfl rfl) h1
  have int22 : ∀ {n : Nat} {x : Value} {y : DataW H × List MemPlace}, DataW.trod enc Try.prog W 0 (fun _ => true) true n 22 [x] = some y → ∃ k, x = .int .u64 k := fun h => by
    obtain ⟨k, e, _⟩ := DataW.trod_int Try.underlying22 h
    exact ⟨k, by simpa using e⟩
  have int3 : ∀ {n : Nat} {x : Value} {y : DataW H × List MemPlace}, DataW.trod enc Try.prog W 0 (fun _ => true) true n 3 [x] = some y → ∃ k, x = .int .i64 k := fun h => by
    obtain ⟨k, e, _⟩ := DataW.trod_int Try.underlying3 h
    exact ⟨k, by simpa using e⟩
  obtain ⟨a, rfl⟩ := int22 g0
  obtain ⟨b, rfl⟩ := int22 g1
  obtain ⟨c, rfl⟩ := int22 g2
  obtain ⟨d, rfl⟩ := int22 g3
  obtain ⟨e, rfl⟩ := int3 g4
  obtain ⟨f, rfl⟩ := int22 g5
  refine (walk a b c d e f W).mono fun e W' ⟨he, hl⟩ => ?_
  exact ⟨_, he, law_post laid (by kernel_rfl) rfl Try.underlying4 rfl ⟨rfl, rfl, rfl⟩ hW' hl⟩

theorem proved : Rows.CutNoneSaid :=
  OpenClaim.holds_of_wide 4 Try.f4 rfl rfl rfl rfl rfl rfl rfl ⟨rfl, rfl, rfl, rfl, rfl⟩ rfl rfl rfl rfl rfl (by kernel_rfl) Try.func4 (by kernel_rfl)
    (of_decide_eq_true (by kernel_rfl)) (by unfold Func.isWrapper; first | (rw [if_pos (by decide +kernel)]; kernel_rfl) | (rw [if_neg (by decide +kernel)]; exact ⟨rfl, rfl⟩))
    (fun os started H enc _ => lifted os started H enc)
#print axioms proved

end Go.Proofs.Ytipbbnoepphdkaa.cutNone
