/- CutNeeded returns true for every input, in every world: the statement CutNeededSaid. No conditions. -/
import Derived.Test.YtipbbnoepphdkaaRows
import Derived.Test.YtipbbnoepphdkaaCutNeededA
namespace Go.Proofs.Ytipbbnoepphdkaa.cutNeeded
open Go Go.CM Go.ChangeShapes Go.WideShapes Go.ChangeAt Go.RowKit

theorem own : ownKnob Try.prog.godebug = none := by kernel_rfl
theorem laid : laidOutB Try.prog = true := by kernel_rfl
theorem mixed : Try.prog.follows .mixedOrders = true := by kernel_rfl

theorem live_runs : runF Try.prog known0 [] 1000 50 11 #[] H0 = true := by kernel_rfl
theorem live_known : KnownOK Try.prog (knownOf 11 true) := by
  obtain ⟨H, h⟩ := of_runF live_runs
  exact knownOf_ok Try.func11 (by kernel_rfl) (by kernel_rfl) fun w => pure_call mixed known0_ok AR.nil h w

theorem runs1 (te fl len s t cap : Nat) (f : Nat → Nat) : callD 50 Try.prog (ckOr (ckOf (conKnown (knownOf 11 true))) (ckN cap f)) [12, 13] 1000 3
    #[.agg #[.int .u64 (Int.ofNat fl), .slice (some ⟨0, 0, none⟩) len cap], .int .u64 (Int.ofNat s), .int .u64 (Int.ofNat t)] (H0.new (rowN te .u64 cap f)) kT =
    (cond (Nat.ble len cap) (cond (Nat.ble len cap) (cond (cond (cond (cond (Nat.beq fl fl) (cond (cond (Nat.beq len len) (Nat.beq cap cap) false) true false) false) (cond (cond (Nat.beq fl fl) (cond (cond (Nat.beq len len) (Nat.beq cap cap) false) true false) false) true false) false) true false)
      (some (.bool (needed fl s t f len == needed fl s t f len), H0)) none) none) none) := by kernel_rfl

theorem runs0 (te fl s t cap : Nat) (f : Nat → Nat) : callD 50 Try.prog (ckOr (ckOf (conKnown (knownOf 11 true))) (ckN cap f)) [12, 13] 1000 3
    #[.agg #[.int .u64 (Int.ofNat fl), .slice none 0 0], .int .u64 (Int.ofNat s), .int .u64 (Int.ofNat t)] (H0.new (rowN te .u64 cap f)) kT =
    (cond (cond (cond (cond (Nat.beq fl fl) true false) (cond (cond (Nat.beq fl fl) true false) true false) false) true false)
      (some (.bool (needed fl s t f 0 == needed fl s t f 0), H0)) none) := by kernel_rfl

theorem fits (cap : Nat) (f : Nat → Nat) : Fits (orT (conKnown (knownOf 11 true)) (conN cap f)) (ckOr (ckOf (conKnown (knownOf 11 true))) (ckN cap f)) := (Fits.of _).or (fitsN cap f)

theorem walk (fl s t : Nat) (w : World) (v : Value) (hv : v = .slice none 0 0 ∨ ∃ (a : Addr) (len cap : Nat) (f : Nat → Nat) (te : TypeId), v = .slice (some a) len cap ∧ RowIn w .u64 a len cap f te) :
    Calls Try.prog 3 #[.agg #[.int .u64 (Int.ofNat fl), v], .int .u64 (Int.ofNat s), .int .u64 (Int.ofNat t)] w fun e w' => e = .returned (.bool true) ∧ Less w w' := by
  obtain ⟨ab, len, cap0, cap, f, te, ρ, hr, hro, hvr, hab, hle, hmx, hf⟩ := slice_arg hv
  have hc : cap0 < 9223372036854775808 := Nat.lt_of_le_of_lt hmx (by decide)
  have hZ : Old 1 (H0.new (rowN te .u64 cap0 f)) (H0.new (rowN te .u64 cap0 f)) := ⟨Nat.le_refl _, fun b hb => by
    obtain rfl : b = 0 := by omega
    have h0 : H0.next = 0 := rfl
    exact ⟨rowN te .u64 cap0 f, by rw [CH.new_get, if_pos h0], rfl, by rw [CH.new_get, if_pos h0]⟩⟩
  have hval := (validKnown (I := Old 1 (H0.new (rowN te .u64 cap0 f))) live_known).or (conN_valid mixed cap0 f te hc)
  have ha : AR ρ #[.agg #[.int .u64 (Int.ofNat fl), .slice ab len cap], .int .u64 (Int.ofNat s), .int .u64 (Int.ofNat t)] #[.agg #[.int .u64 (Int.ofNat fl), v], .int .u64 (Int.ofNat s), .int .u64 (Int.ofNat t)] :=
    LR.toA (.cons (.aggA (LR.toA (.cons (.int _ _) (.cons hvr .nil)))) (.cons (.int _ _) (.cons (.int _ _) .nil)))
  rcases hab with ⟨rfl, rfl, rfl⟩ | ⟨rfl, rfl⟩
  · obtain ⟨H1, h⟩ := of_callDT (fits cap0 f) ((runs0 te fl s t cap0 f).trans (by simp))
    exact ro_run mixed hval hZ hr hro ha h
  · obtain ⟨H1, h⟩ := of_callDT (fits cap f) ((runs1 te fl len s t cap f).trans (by simp [Nat.ble_eq_true_of_le hle]))
    exact ro_run mixed hval hZ hr hro ha h

set_option maxRecDepth 100000 in
theorem lifted (os : Os) (started : os.Started) (H : Type) (enc : TypeId × Value → H) :
    ReturnsInHanded {} Try.checked os 3 .any (Rows.cutNeededSpec.pre6 enc Try.prog Try.f3 Rows.cutNeededRow.domain false) (Rows.cutNeededSpec.post enc Try.prog Try.f3 false true false false) := by
  refine returnsInHanded_of_change (C := Try.checked) own started (by kernel_rfl) Try.func3
    (ChangeSpec.witness6 (enc := enc) (C := Try.checked) false ⟨#[], #[.agg #[.int .u64 0, .slice none 0 0], .int .u64 0, .int .u64 0], []⟩ 8 (by kernel_rfl) (by kernel_rfl) (by kernel_rfl) (by kernel_rfl)) ?_
  intro W base args ds gs before hval0 hW hcnd _
  have hval : ∀ (j : Nat) t v, Try.f3.params[j]? = some t → args[j]? = some v → Value.okWide Try.prog W .any base t v := hval0
  have hW' := hW
  obtain ⟨p, q, hA0, hV, rfl, hfz, hnd⟩ := hW
  have hA : DataW.TrodAll enc Try.prog W 0 (fun _ => true) true Try.f3.params.toList args.toList ds p := hA0
  rw [Try.params3] at hA hval
  obtain ⟨v0, v1, v2, d0, d1, d2, p0, p1, p2, rfl, rfl, rfl, h0, h1, h2⟩ := trodAll_three hA
  obtain ⟨rfl, rfl⟩ := trodVars_none hV
  obtain ⟨l0, rfl, c0⟩ := arg_leaves (ks := [22, 23]) (n := 8) Try.underlying25 (by kernel_rfl) (by kernel_rfl) (hval 0 25 v0 rfl rfl) h0
  obtain ⟨x0, l1, rfl, e0, c1⟩ := Rows2.cons c0
  obtain ⟨x1, l2, rfl, e1, c2⟩ := Rows2.cons c1
  obtain rfl := Rows2.nil c2
  obtain ⟨fl, rfl, lfl⟩ := e0.nat Try.underlying22 rfl
  have hs := e1.nats Try.underlying23 Try.underlying22 (by kernel_rfl) rfl
  obtain ⟨is, rfl, rfl, rfl, ws⟩ := open_int Try.underlying22 (hval 1 22 v1 rfl rfl) h1
  obtain ⟨s, rfl, ls⟩ := nat_of_wf rfl ws
  obtain ⟨it, rfl, rfl, rfl, wt⟩ := open_int Try.underlying22 (hval 2 22 v2 rfl rfl) h2
  obtain ⟨t, rfl, lt⟩ := nat_of_wf rfl wt
  refine (walk fl s t W x1 hs).mono fun e W' ⟨he, hl⟩ => ?_
  exact ⟨_, he, law_post laid (by kernel_rfl) rfl Try.underlying4 rfl ⟨rfl, rfl, rfl⟩ hW' hl⟩

theorem proved : Rows.CutNeededSaid :=
  OpenClaim.holds_of_wide 3 Try.f3 rfl rfl rfl rfl rfl rfl rfl ⟨rfl, rfl, rfl, rfl, rfl⟩ rfl rfl rfl rfl rfl (by kernel_rfl) Try.func3 (by kernel_rfl)
    (of_decide_eq_true (by kernel_rfl)) (by unfold Func.isWrapper; first | (rw [if_pos (by decide +kernel)]; kernel_rfl) | (rw [if_neg (by decide +kernel)]; exact ⟨rfl, rfl⟩))
    (fun os started H enc _ => lifted os started H enc)
#print axioms proved

end Go.Proofs.Ytipbbnoepphdkaa.cutNeeded
