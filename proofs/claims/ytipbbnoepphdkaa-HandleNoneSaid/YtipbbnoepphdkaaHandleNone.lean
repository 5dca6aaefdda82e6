/- HandleNone returns true for every input, in every world: the statement HandleNoneSaid. No conditions. -/
import Derived.Test.YtipbbnoepphdkaaRows
import Derived.Test.YtipbbnoepphdkaaHandleNoneA
namespace Go.Proofs.Ytipbbnoepphdkaa.handleNone
open Go Go.CM Go.ChangeShapes Go.WideShapes Go.ChangeAt Go.RowKit

theorem own : ownKnob Try.prog.godebug = none := by kernel_rfl
theorem laid : laidOutB Try.prog = true := by kernel_rfl
theorem mixed : Try.prog.follows .mixedOrders = true := by kernel_rfl

theorem live_runs : runF Try.prog known0 [] 1000 50 39 #[] H0 = true := by kernel_rfl
theorem live_known : KnownOK Try.prog (knownOf 39 true) := by
  obtain ⟨H, h⟩ := of_runF live_runs
  exact knownOf_ok Try.func39 (by kernel_rfl) (by kernel_rfl) fun w => pure_call mixed known0_ok AR.nil h w

theorem fits : Fits (orT (conKnown (knownOf 39 true)) (orT conU conL)) (ckOr (ckOf (conKnown (knownOf 39 true))) (ckOr (ckU uhOk slOf gnOf) ckL)) := (Fits.of _).or (fitsU.or fitsL)
theorem cons_ok : CallOK Try.prog (orT (conKnown (knownOf 39 true)) (orT conU conL)) := (conKnown_ok live_known).or ((conU_ok mixed).or (conL_ok mixed))

theorem walk (cam fst mst h stamp : Nat) (cnt : Int) (hl : h < 18446744073709551616) (w : World) :
    Calls Try.prog 8 #[.agg #[.int .u64 (Int.ofNat cam), .int .u64 (Int.ofNat fst), .int .i64 cnt, .int .u64 (Int.ofNat mst)], .int .u64 (Int.ofNat h), .int .u64 (Int.ofNat stamp)] w fun e w' => e = .returned (.bool true) ∧ Less w w' := by
  have ha : AR (fun _ => none) #[.agg #[.int .u64 (Int.ofNat cam), .int .u64 (Int.ofNat fst), .int .i64 cnt, .int .u64 (Int.ofNat mst)], .int .u64 (Int.ofNat h), .int .u64 (Int.ofNat stamp)]
      #[.agg #[.int .u64 (Int.ofNat cam), .int .u64 (Int.ofNat fst), .int .i64 cnt, .int .u64 (Int.ofNat mst)], .int .u64 (Int.ofNat h), .int .u64 (Int.ofNat stamp)] :=
    LR.toA (.cons (VR.of_pure _ 100 _ rfl) (.cons (VR.of_pure _ 100 _ rfl) (.cons (VR.of_pure _ 100 _ rfl) .nil)))
  cases cnt with
  | ofNat cnt =>
    obtain ⟨H1, e⟩ := of_callDT fits ((runsP cam fst cnt mst h stamp uhOk slOf gnOf).trans (okP _ _ _ _ _ hl))
    exact ro_call (evalG_ok mixed funAt_ok cons_ok 1000 50) (HR.empty w) RO.empty ha e
  | negSucc cnt =>
    obtain ⟨H1, e⟩ := of_callDT fits ((runsN cam fst cnt mst h stamp uhOk slOf gnOf).trans (okN _ _ hl))
    exact ro_call (evalG_ok mixed funAt_ok cons_ok 1000 50) (HR.empty w) RO.empty ha e

set_option maxRecDepth 100000 in
theorem lifted (os : Os) (started : os.Started) (H : Type) (enc : TypeId × Value → H) :
    ReturnsInHanded {} Try.checked os 8 .any (Rows.handleNoneSpec.pre6 enc Try.prog Try.f8 Rows.handleNoneRow.domain false) (Rows.handleNoneSpec.post enc Try.prog Try.f8 false true false false) := by
  refine returnsInHanded_of_change (C := Try.checked) own started (by kernel_rfl) Try.func8
    (ChangeSpec.witness6 (enc := enc) (C := Try.checked) false ⟨#[], #[.agg #[.int .u64 0, .int .u64 0, .int .i64 0, .int .u64 0], .int .u64 0, .int .u64 0], []⟩ 8 (by kernel_rfl) (by kernel_rfl) (by kernel_rfl) (by kernel_rfl)) ?_
  intro W base args ds gs before hval0 hW hcnd _
  have hval : ∀ (j : Nat) t v, Try.f8.params[j]? = some t → args[j]? = some v → Value.okWide Try.prog W .any base t v := hval0
  have hW' := hW
  obtain ⟨p, q, hA0, hV, rfl, hfz, hnd⟩ := hW
  have hA : DataW.TrodAll enc Try.prog W 0 (fun _ => true) true Try.f8.params.toList args.toList ds p := hA0
  rw [Try.params8] at hA hval
  obtain ⟨v0, v1, v2, d0, d1, d2, p0, p1, p2, rfl, rfl, rfl, h0, h1, h2⟩ := trodAll_three hA
  obtain ⟨rfl, rfl⟩ := trodVars_none hV
  obtain ⟨l0, rfl, c0⟩ := arg_leaves (ks := [22, 22, 3, 22]) (n := 8) Try.underlying31 (by kernel_rfl) (by kernel_rfl) (hval 0 31 v0 rfl rfl) h0
  obtain ⟨x0, l1, rfl, e0, c1⟩ := Rows2.cons c0
  obtain ⟨x1, l2, rfl, e1, c2⟩ := Rows2.cons c1
  obtain ⟨x2, l3, rfl, e2, c3⟩ := Rows2.cons c2
  obtain ⟨x3, l4, rfl, e3, c4⟩ := Rows2.cons c3
  obtain rfl := Rows2.nil c4
  obtain ⟨cam, rfl, _⟩ := e0.nat Try.underlying22 rfl
  obtain ⟨fst, rfl, _⟩ := e1.nat Try.underlying22 rfl
  obtain ⟨cnt, rfl, _⟩ := e2.int Try.underlying3
  obtain ⟨mst, rfl, _⟩ := e3.nat Try.underlying22 rfl
  obtain ⟨ih, rfl, rfl, rfl, wh⟩ := open_int Try.underlying22 (hval 1 22 v1 rfl rfl) h1
  obtain ⟨h, rfl, lh⟩ := nat_of_wf rfl wh
  obtain ⟨it, rfl, rfl, rfl, wt⟩ := open_int Try.underlying22 (hval 2 22 v2 rfl rfl) h2
  obtain ⟨t, rfl, lt⟩ := nat_of_wf rfl wt
  refine (walk cam fst mst h t cnt lh W).mono fun e W' ⟨he, hl⟩ => ?_
  exact ⟨_, he, law_post laid (by kernel_rfl) rfl Try.underlying4 rfl ⟨rfl, rfl, rfl⟩ hW' hl⟩

theorem proved : Rows.HandleNoneSaid :=
  OpenClaim.holds_of_wide 8 Try.f8 rfl rfl rfl rfl rfl rfl rfl ⟨rfl, rfl, rfl, rfl, rfl⟩ rfl rfl rfl rfl rfl (by kernel_rfl) Try.func8 (by kernel_rfl)
    (of_decide_eq_true (by kernel_rfl)) (by unfold Func.isWrapper; first | (rw [if_pos (by decide +kernel)]; kernel_rfl) | (rw [if_neg (by decide +kernel)]; exact ⟨rfl, rfl⟩))
    (fun os started H enc _ => lifted os started H enc)
#print axioms proved

end Go.Proofs.Ytipbbnoepphdkaa.handleNone
