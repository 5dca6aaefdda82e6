/- MultiWords returns true for every input whose bulk is at most 1048576, in every world: the statement MultiWordsUptoSaid. No other conditions. -/
import Derived.Test.YtlabejmlkhgeoaaRows
import Derived.Test.YtlabejmlkhgeoaaSp
import Derived.JoinedCond
namespace Go.Proofs.Ytlabejmlkhgeoaa.multiWords
open Go Go.CM Go.ChangeShapes Go.WideShapes Go.ChangeAt Go.RowKit
set_option maxRecDepth 100000

theorem own : ownKnob Try.prog.godebug = none := by kernel_rfl
theorem laid : laidOutB Try.prog = true := by kernel_rfl
theorem mixed : Try.prog.follows .mixedOrders = true := by kernel_rfl

theorem live_runs : runE Try.prog known0 1000 50 15 = true := by kernel_rfl
theorem live_known : KnownOK Try.prog (knownOf 15 true) := by
  obtain ⟨H, h⟩ := of_runE live_runs
  exact knownOf_ok Try.func15 (by kernel_rfl) (by kernel_rfl) fun w => pure_call mixed known0_ok AR.nil h w

theorem bulk_one {H : Type} (d : DataW H) : 1 ≤ Rows.uptoBulk d := by
  cases d with
  | lit l => cases l <;> simp [Rows.uptoBulk]
  | nil => simp [Rows.uptoBulk]
  | ptr d => simp [Rows.uptoBulk]
  | slice elems spare => simp [Rows.uptoBulk]
  | agg parts => simp [Rows.uptoBulk]
  | iface t d => simp [Rows.uptoBulk]
  | map entries => simp [Rows.uptoBulk]
  | held h => simp [Rows.uptoBulk]
theorem bulk_len {H : Type} (l : List (DataW H)) : l.length ≤ Rows.uptoBulkAll l := by
  induction l with
  | nil => simp [Rows.uptoBulkAll]
  | cons x r ih => have := bulk_one x; simp only [Rows.uptoBulkAll, List.length_cons]; omega
theorem bulk_part {H : Type} {d : DataW H} {l : List (DataW H)} (h : d ∈ l) : Rows.uptoBulk d ≤ Rows.uptoBulkAll l := by
  induction l with
  | nil => cases h
  | cons x r ih =>
    simp only [Rows.uptoBulkAll]
    cases List.mem_cons.1 h with
    | inl e => subst e; omega
    | inr e => have := ih e; omega
theorem bulk_agg {H : Type} {d : DataW H} {l : List (DataW H)} (h : d ∈ l) : Rows.uptoBulk d ≤ Rows.uptoBulk (.agg l) := by
  have := bulk_part h
  simp only [Rows.uptoBulk]; omega
theorem rows_bulk {H α : Type} {Q : DataW H → α → Prop} {d : DataW H} {l : List α} (h : (d = .nil ∧ l = []) ∨ ∃ (el sp : List (DataW H)), d = .slice el sp ∧ el.length = l.length ∧ ∀ (i : Nat) x y, el[i]? = some x → l[i]? = some y → Q x y) :
    l.length ≤ Rows.uptoBulk d ∧ ∀ y ∈ l, ∃ x, Q x y ∧ Rows.uptoBulk x ≤ Rows.uptoBulk d := by
  rcases h with ⟨rfl, rfl⟩ | ⟨el, sp, rfl, hl, hq⟩
  · exact ⟨Nat.zero_le _, fun y hy => nomatch hy⟩
  · refine ⟨?_, fun y hy => ?_⟩
    · have := bulk_len el
      simp only [Rows.uptoBulk]; omega
    · obtain ⟨i, hi⟩ := List.mem_iff_getElem?.1 hy
      have hil : i < l.length := (List.getElem?_eq_some_iff.1 hi).1
      obtain ⟨x, hx⟩ : ∃ x, el[i]? = some x := ⟨_, List.getElem?_eq_getElem (by omega)⟩
      refine ⟨x, hq i x y hx hi, ?_⟩
      have := bulk_part (List.mem_of_getElem? hx)
      simp only [Rows.uptoBulk]; omega
theorem small {H : Type} {l : List (DataW H)} (hk : Rows.uptoSmall H (l ++ []) = true) : Rows.uptoBulkAll l ≤ 1048576 := by
  rw [List.append_nil] at hk
  unfold Rows.uptoSmall at hk
  exact of_decide_eq_true hk


set_option maxRecDepth 100000 in
theorem contract (H : Type) (enc : TypeId × Value → H) (W : World) (base : Nat) (args : Array Value) (ds gs : List (DataW H)) (before : List MemPlace)
    (hval : ∀ (j : Nat) t v, Try.f3.params[j]? = some t → args[j]? = some v → Value.okWide Try.prog W .any base t v)
    (hW : DataW.Whole enc Try.prog Try.f3.params.toList Rows.multiWordsSpec.vars false W args.toList ds gs before) (hk : Rows.uptoSmall H (ds ++ gs) = true) :
    Calls Try.prog 3 args W fun e W' => ∃ v, e = .returned v ∧ Rows.multiWordsSpec.post enc Try.prog Try.f3 false true false false W args v W' := by
  have hW' := hW
  obtain ⟨p, q, hA0, hV, rfl, hfz, hnd⟩ := hW
  have hA : DataW.TrodAll enc Try.prog W 0 (fun _ => true) true Try.f3.params.toList args.toList ds p := hA0
  rw [Try.params3] at hA hval
  have hargs : args = args.toList.toArray := rfl
  obtain ⟨v0, v1, v2, d0, d1, d2, p0, p1, p2, rfl, rfl, rfl, h0, h1, h2⟩ := trodAll_three hA
  obtain ⟨rfl, rfl⟩ := trodVars_none hV
  have hb := small hk
  simp only [Rows.uptoBulkAll] at hb
  have hv0 := hval 0 22 v0 rfl rfl
  obtain ⟨n0, ρ0, K0, cs0, e0, hr0, hro0, s0, lr0, dat0⟩ := arg_dat (m := 8) (by kernel_rfl) hv0 h0 (HR.vac H0 W) RO.empty
  have hv1 := hval 1 23 v1 rfl rfl
  obtain ⟨n1, ρ1, K1, cs1, e1, hr1, hro1, s1, lr1, dat1⟩ := arg_dat (m := 8) (by kernel_rfl) hv1 h1 hr0 hro0
  have hv2 := hval 2 3 v2 rfl rfl
  obtain ⟨n2, ρ2, K2, cs2, e2, hr2, hro2, s2, lr2, dat2⟩ := arg_dat (m := 8) (by kernel_rfl) hv2 h2 hr1 hro1
  replace dat0 := dat0.mono ((s1).trans s2)
  replace lr0 := LR.mono ((e1).trans e2) lr0
  replace dat1 := dat1.mono (s2)
  replace lr1 := LR.mono (e2) lr1
  obtain ⟨x, rfl⟩ := dat_nat dat0 Try.underlying22 rfl
  obtain ⟨xv, vals, rfl, hp, hq⟩ := nums_datB dat1 Try.underlying23 Try.underlying22 (by kernel_rfl)
  obtain ⟨m2, rfl⟩ := dat_pos dat2
  obtain ⟨z, _, rfl, _⟩ := dat_int dat2 Try.underlying3
  have b3 := (rows_bulk hq).1
  have hS : Sat [NumsR xv vals] K2 := sat_ro hro2 hp trivial
  refine (ro_ev (con := conKnown (knownOf 15 true)) mixed (conKnown_ok live_known) hr2 hro2 (args := [u64 x, xv, i64 z]) (LR.toA (.cons (arg_int Try.underlying22 hv0 lr0) (.cons (arg_slc Try.underlying23 hv1 lr1) (.cons (arg_int Try.underlying3 hv2 lr2) .nil))))
    (multiWords_ok (con_known rfl) (fun H => rfl) (by omega) hS (fun h a => NumsR.nums (SatL.head a fun _ a s => RowsR.mono (fun a _ => a) a s)))).mono fun e W' ⟨he, hl⟩ => ?_
  exact ⟨_, he, law_post laid (by kernel_rfl) rfl Try.underlying4 rfl ⟨rfl, rfl, rfl⟩ hW' hl⟩

set_option maxRecDepth 100000 in
theorem lifted (os : Os) (started : os.Started) (H : Type) (enc : TypeId × Value → H) (F : Stop.Interp) :
    ReturnsInHanded {} Try.checked os 3 .any ((Rows.OpenSpec.upto Rows.multiWordsSpec).pre6 enc Try.prog Try.f3 Rows.multiWordsUptoRow.domain false) (((Rows.OpenSpec.upto Rows.multiWordsSpec).at F).post enc Try.prog Try.f3 false true false false) := by
  refine returnsInHanded_of_cond (C := Try.checked) (s := Rows.OpenSpec.upto Rows.multiWordsSpec) (k := Rows.uptoSmall) rfl own started (by kernel_rfl) Try.func3
    (OpenSpec.witness (enc := enc) (C := Try.checked) (s := Rows.OpenSpec.upto Rows.multiWordsSpec) (k := Rows.uptoSmall) rfl false ⟨#[], #[.int .u64 0, .slice none 0 0, .int .i64 0], []⟩ 8 (by kernel_rfl) (by kernel_rfl) (by kernel_rfl)
      (x := ([.lit (.int .u64 0), .nil, .lit (.int .i64 0)], [], [])) (by kernel_rfl) rfl (by kernel_rfl)) ?_
  intro W base args ds gs before hval hW _ hk _
  exact contract H enc W base args ds gs before hval hW hk

theorem andT {a b : Bool} (h : a = true) (k : b = true) : (a && b) = true := by rw [h, k]; rfl
theorem fact0 : (Rows.multiWordsUptoRow.wf (OpenSpec.ofChange (Rows.OpenSpec.upto Rows.multiWordsSpec).bare)) = true := by kernel_rfl
theorem fact1 : (laidOutB Try.prog) = true := by kernel_rfl
theorem fact2 : (mapsRowed Try.prog) = true := by kernel_rfl
theorem fact3 : (Try.f3.params.all (Try.prog.readableRec ·)) = true := by kernel_rfl
theorem fact4 : (namedTie Try.prog Rows.multiWordsUptoRow.named (Rows.OpenSpec.upto Rows.multiWordsSpec).bare.vars) = true := by kernel_rfl
theorem fact5 : ((Rows.multiWordsUptoRow.stops == [])) = true := by kernel_rfl
theorem fact6 : ((Try.prog.stops == [])) = true := by kernel_rfl
theorem fact7 : ((Rows.multiWordsUptoRow.knobs == [])) = true := by kernel_rfl
theorem fact8 : ((Try.prog.stopKnobs == [])) = true := by kernel_rfl
theorem fact9 : ((Rows.multiWordsUptoRow.inPlace == Try.prog.inPlace 3)) = true := by kernel_rfl
theorem fact10 : ((Rows.multiWordsUptoRow.unfollowed == Try.prog.unfollowed 3)) = true := by kernel_rfl
theorem fact11 : ((Rows.multiWordsUptoRow.recurses == Try.prog.recurses 3)) = true := by kernel_rfl
theorem fact12 : ((Rows.multiWordsUptoRow.named == Try.prog.varsNamed 3)) = true := by kernel_rfl
theorem fact13 : ((Rows.multiWordsUptoRow.maps == (Try.f3.params.toList ++ (Rows.OpenSpec.upto Rows.multiWordsSpec).bare.plain.varTypes Try.prog).any (Try.prog.mapsRec ·))) = true := by kernel_rfl
theorem fact14 : ((Rows.multiWordsUptoRow.ifaces == (Try.f3.params.toList ++ (Rows.OpenSpec.upto Rows.multiWordsSpec).bare.plain.varTypes Try.prog).any (Try.prog.ifacesRec ·))) = true := by kernel_rfl
theorem fact15 : ((Rows.multiWordsUptoRow.mapsOut == Try.prog.mapsAmong Try.f3.resultTypes.toList)) = true := by kernel_rfl
theorem fact16 : ((Rows.multiWordsUptoRow.loops == (Try.f3.params.toList ++ (Rows.OpenSpec.upto Rows.multiWordsSpec).bare.plain.varTypes Try.prog).any (Try.prog.loopsFrom ·))) = true := by kernel_rfl
theorem fact17 : ((Rows.multiWordsUptoRow.wideKeys == (Try.f3.params.toList ++ (Rows.OpenSpec.upto Rows.multiWordsSpec).bare.plain.varTypes Try.prog ++ Try.f3.resultTypes.toList).any (Try.prog.wideKeysFrom ·))) = true := by kernel_rfl
theorem fact18 : ((Rows.OpenSpec.upto Rows.multiWordsSpec).bare.vars.all (Try.prog.varReadable ·)) = true := by kernel_rfl
theorem fact19 : (Try.f3.resultTypes.all (fun t => Try.prog.readableRec t && decide (t < Try.prog.types.size))) = true := by kernel_rfl
theorem fact20 : ((Rows.multiWordsUptoRow.ifacesOut == Try.f3.resultTypes.toList.any (Try.prog.ifacesRec ·))) = true := by kernel_rfl
theorem fact21 : ((Rows.multiWordsUptoRow.loopsOut == Try.f3.resultTypes.toList.any (Try.prog.loopsFrom ·))) = true := by kernel_rfl
theorem fact22 : ((Rows.multiWordsUptoRow.plainKeys == Try.prog.plainKeys)) = true := by kernel_rfl
theorem fact23 : (Rows.multiWordsUptoRow.shortTexts.isNone) = true := by kernel_rfl
theorem fact24 : (Try.prog.stopsHeard) = true := by kernel_rfl
theorem fact25 : (Try.prog.mayEnter) = true := by kernel_rfl
theorem fact26 : ((Rows.multiWordsUptoRow.lifted == Try.prog.liftsFinal)) = true := by kernel_rfl
theorem fact27 : ((Try.prog.make == some Rows.multiWordsUptoRow.make)) = true := by kernel_rfl
theorem fact28 : ((Rows.multiWordsUptoRow.kinds == (if Rows.multiWordsUptoRow.domain.isEmpty then [] else Try.f3.params.toList.map fun t => match Try.prog.underlying t with | some (.int k) => some k | _ => none))) = true := by kernel_rfl
theorem fact29 : ((Rows.multiWordsUptoRow.pinned == Rows.multiWordsUptoRow.pinnedBy)) = true := by kernel_rfl
theorem fact30 : ((Rows.multiWordsUptoRow.veiled == (Try.f3.params.toList ++ (Rows.OpenSpec.upto Rows.multiWordsSpec).bare.plain.varTypes Try.prog ++ Try.f3.resultTypes.toList).any (Try.prog.veiledRec ·))) = true := by kernel_rfl
theorem fact31 : (Rows.multiWordsUptoRow.veiledFits Try.prog Try.f3.params.toList (Try.f3.params.toList ++ (Rows.OpenSpec.upto Rows.multiWordsSpec).bare.plain.varTypes Try.prog ++ Try.f3.resultTypes.toList)) = true := by kernel_rfl
theorem closed : joinedFacts Try.prog 3 Try.f3 (Rows.OpenSpec.upto Rows.multiWordsSpec).bare Rows.multiWordsUptoRow = true := by
  unfold joinedFacts
  exact andT (andT (andT (andT (andT (andT (andT (andT (andT (andT (andT (andT (andT (andT (andT (andT (andT (andT (andT (andT (andT (andT (andT (andT (andT (andT (andT (andT (andT (andT (andT fact0 fact1) fact2) fact3) fact4) fact5) fact6) fact7) fact8) fact9) fact10) fact11) fact12) fact13) fact14) fact15) fact16) fact17) fact18) fact19) fact20) fact21) fact22) fact23) fact24) fact25) fact26) fact27) fact28) fact29) fact30) fact31
theorem proved : Rows.MultiWordsUptoSaid :=
  OpenClaim.holds_of_cond 3 Try.f3 rfl rfl rfl rfl rfl rfl rfl ⟨rfl, rfl, rfl, rfl, rfl⟩ rfl rfl rfl rfl rfl (by kernel_rfl) Try.func3 closed
    (of_decide_eq_true (by kernel_rfl)) (by unfold Func.isWrapper; first | (rw [if_pos (by decide +kernel)]; kernel_rfl) | (rw [if_neg (by decide +kernel)]; exact ⟨rfl, rfl⟩))
    (fun os started H enc _ F => lifted os started H enc F)
#print axioms proved
end Go.Proofs.Ytlabejmlkhgeoaa.multiWords
