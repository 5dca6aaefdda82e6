/- CutKeeps returns true for every input whose bulk is at most 1048576, in every world: the statement CutKeepsUptoSaid. No other conditions. -/
import Derived.Test.YtlabejmlkhgeoaaRows
import Derived.Test.YtlabejmlkhgeoaaSp
import Derived.JoinedCond
namespace Go.Proofs.Ytlabejmlkhgeoaa.cutKeeps
open Go Go.CM Go.ChangeShapes Go.WideShapes Go.ChangeAt Go.RowKit
set_option maxRecDepth 100000

theorem own : ownKnob Try.prog.godebug = none := by kernel_rfl
theorem laid : laidOutB Try.prog = true := by kernel_rfl
theorem mixed : Try.prog.follows .mixedOrders = true := by kernel_rfl

theorem live_runs : runE Try.prog known0 1000 50 18 = true := by kernel_rfl
theorem live_known : KnownOK Try.prog (knownOf 18 true) := by
  obtain ⟨H, h⟩ := of_runE live_runs
  exact knownOf_ok Try.func18 (by kernel_rfl) (by kernel_rfl) fun w => pure_call mixed known0_ok AR.nil h w
theorem st45 {H : Type} {n : Nat} {d : DataW H} {cs : List Value} {h : PH} (a : Dat Try.prog n 45 d cs h) : ∃ (m : Nat) (x0 x1 : DataW H) (c0 c1 : Value), d = .agg [x0, x1] ∧ cs = [c0, c1] ∧ Dat Try.prog m 22 x0 [c0] h ∧ Dat Try.prog m 23 x1 [c1] h := by
  obtain ⟨m, rfl⟩ := dat_pos a
  obtain ⟨ds, rfl, hl, hcl, hf⟩ := dat_struct a Try.underlying45
  rw [show Try.prog.cellsOf 45 = 2 by kernel_rfl] at hcl
  match cs, hcl, ds, hl, hf with
  | [c0, c1], _, [x0, x1], _, hf =>
    refine ⟨m, x0, x1, c0, c1, rfl, rfl, ?_, ?_⟩
    · have this : Dat Try.prog m 22 x0 (List.take (Try.prog.cellsOf 22) (List.drop 0 [c0, c1])) h := hf 0 _ x0 rfl rfl
      rw [show Try.prog.cellsOf 22 = 1 by kernel_rfl] at this
      exact this
    · have this : Dat Try.prog m 23 x1 (List.take (Try.prog.cellsOf 23) (List.drop 1 [c0, c1])) h := hf 1 _ x1 rfl rfl
      rw [show Try.prog.cellsOf 23 = 1 by kernel_rfl] at this
      exact this

theorem bulk_one {H : Type} (d : DataW H) : 1 ≤ Rows.uptoBulk d := by
  cases d with
  | lit l => cases l <;> simp [Rows.uptoBulk]
  | nil => simp [Rows.uptoBulk]
  | ptr d => simp [Rows.uptoBulk]
  | slice elems spare => simp [Rows.uptoBulk]
  | agg parts => simp [Rows.uptoBulk]
  | iface t d => simp [Rows.uptoBulk]
  | map entries => simp [Rows.uptoBulk]
  | held h => simp [Rows.uptoBulk]
theorem bulk_len {H : Type} (l : List (DataW H)) : l.length ≤ Rows.uptoBulkAll l := by
  induction l with
  | nil => simp [Rows.uptoBulkAll]
  | cons x r ih => have := bulk_one x; simp only [Rows.uptoBulkAll, List.length_cons]; omega
theorem bulk_part {H : Type} {d : DataW H} {l : List (DataW H)} (h : d ∈ l) : Rows.uptoBulk d ≤ Rows.uptoBulkAll l := by
  induction l with
  | nil => cases h
  | cons x r ih =>
    simp only [Rows.uptoBulkAll]
    cases List.mem_cons.1 h with
    | inl e => subst e; omega
    | inr e => have := ih e; omega
theorem bulk_agg {H : Type} {d : DataW H} {l : List (DataW H)} (h : d ∈ l) : Rows.uptoBulk d ≤ Rows.uptoBulk (.agg l) := by
  have := bulk_part h
  simp only [Rows.uptoBulk]; omega
theorem rows_bulk {H α : Type} {Q : DataW H → α → Prop} {d : DataW H} {l : List α} (h : (d = .nil ∧ l = []) ∨ ∃ (el sp : List (DataW H)), d = .slice el sp ∧ el.length = l.length ∧ ∀ (i : Nat) x y, el[i]? = some x → l[i]? = some y → Q x y) :
    l.length ≤ Rows.uptoBulk d ∧ ∀ y ∈ l, ∃ x, Q x y ∧ Rows.uptoBulk x ≤ Rows.uptoBulk d := by
  rcases h with ⟨rfl, rfl⟩ | ⟨el, sp, rfl, hl, hq⟩
  · exact ⟨Nat.zero_le _, fun y hy => nomatch hy⟩
  · refine ⟨?_, fun y hy => ?_⟩
    · have := bulk_len el
      simp only [Rows.uptoBulk]; omega
    · obtain ⟨i, hi⟩ := List.mem_iff_getElem?.1 hy
      have hil : i < l.length := (List.getElem?_eq_some_iff.1 hi).1
      obtain ⟨x, hx⟩ : ∃ x, el[i]? = some x := ⟨_, List.getElem?_eq_getElem (by omega)⟩
      refine ⟨x, hq i x y hx hi, ?_⟩
      have := bulk_part (List.mem_of_getElem? hx)
      simp only [Rows.uptoBulk]; omega
theorem small {H : Type} {l : List (DataW H)} (hk : Rows.uptoSmall H (l ++ []) = true) : Rows.uptoBulkAll l ≤ 1048576 := by
  rw [List.append_nil] at hk
  unfold Rows.uptoSmall at hk
  exact of_decide_eq_true hk


set_option maxRecDepth 100000 in
theorem contract (H : Type) (enc : TypeId × Value → H) (W : World) (base : Nat) (args : Array Value) (ds gs : List (DataW H)) (before : List MemPlace)
    (hval : ∀ (j : Nat) t v, Try.f4.params[j]? = some t → args[j]? = some v → Value.okWide Try.prog W .any base t v)
    (hW : DataW.Whole enc Try.prog Try.f4.params.toList Rows.cutKeepsSpec.vars false W args.toList ds gs before) (hk : Rows.uptoSmall H (ds ++ gs) = true) :
    Calls Try.prog 4 args W fun e W' => ∃ v, e = .returned v ∧ Rows.cutKeepsSpec.post enc Try.prog Try.f4 false true false false W args v W' := by
  have hW' := hW
  obtain ⟨p, q, hA0, hV, rfl, hfz, hnd⟩ := hW
  have hA : DataW.TrodAll enc Try.prog W 0 (fun _ => true) true Try.f4.params.toList args.toList ds p := hA0
  rw [Try.params4] at hA hval
  have hargs : args = args.toList.toArray := rfl
  obtain ⟨v0, v1, v2, d0, d1, d2, p0, p1, p2, rfl, rfl, rfl, h0, h1, h2⟩ := trodAll_three hA
  obtain ⟨rfl, rfl⟩ := trodVars_none hV
  have hb := small hk
  simp only [Rows.uptoBulkAll] at hb
  have hv0 := hval 0 23 v0 rfl rfl
  obtain ⟨n0, ρ0, K0, cs0, e0, hr0, hro0, s0, lr0, dat0⟩ := arg_dat (m := 8) (by kernel_rfl) hv0 h0 (HR.vac H0 W) RO.empty
  have hv1 := hval 1 45 v1 rfl rfl
  obtain ⟨n1, ρ1, K1, cs1, e1, hr1, hro1, s1, lr1, dat1⟩ := arg_dat (m := 8) (by kernel_rfl) hv1 h1 hr0 hro0
  have hv2 := hval 2 23 v2 rfl rfl
  obtain ⟨n2, ρ2, K2, cs2, e2, hr2, hro2, s2, lr2, dat2⟩ := arg_dat (m := 8) (by kernel_rfl) hv2 h2 hr1 hro1
  replace dat0 := dat0.mono ((s1).trans s2)
  replace lr0 := LR.mono ((e1).trans e2) lr0
  replace dat1 := dat1.mono (s2)
  replace lr1 := LR.mono (e2) lr1
  obtain ⟨xv, was, rfl, hp0, hq0⟩ := nums_datB dat0 Try.underlying23 Try.underlying22 (by kernel_rfl)
  obtain ⟨m1, y0, y1, z0, z1, rfl, rfl, f0, f1⟩ := st45 dat1
  obtain ⟨fl, u0⟩ := dat_nat f0 Try.underlying22 rfl
  obtain ⟨xn, nd, u1, hp1, hq1⟩ := nums_datB f1 Try.underlying23 Try.underlying22 (by kernel_rfl)
  simp only [List.cons.injEq, and_true] at u0 u1
  subst u0 u1
  obtain ⟨xa, asked, rfl, hp2, hq2⟩ := nums_datB dat2 Try.underlying23 Try.underlying22 (by kernel_rfl)
  have b0 := (rows_bulk hq0).1
  have b1 := (rows_bulk hq1).1
  have b2 := (rows_bulk hq2).1
  have c1 := (rows_bulk hq1).2
  have c2 := (rows_bulk hq2).2
  have b4 : Rows.uptoBulk y1 ≤ Rows.uptoBulk (.agg [y0, y1]) := bulk_agg (by simp)
  have hS : Sat [NumsR xv was, NumsR z1 nd, NumsR xa asked] K2 := sat_ro hro2 hp0 (sat_ro hro2 hp1 (sat_ro hro2 hp2 trivial))
  have hm : ∀ {v : Value} {l : List Nat} {L : List HP}, Has (NumsR v l :: L) (Nums v l) := fun h a => NumsR.nums (SatL.head a fun _ a s => RowsR.mono (fun a _ => a) a s)
  refine (ro_ev (con := conKnown (knownOf 18 true)) mixed (conKnown_ok live_known) hr2 hro2 (args := [xv, .agg ⟨[u64 fl, z1]⟩, xa]) (LR.toA (.cons (arg_slc Try.underlying23 hv0 lr0) (.cons (arg_agg Try.underlying45 hv1 lr1) (.cons (arg_slc Try.underlying23 hv2 lr2) .nil))))
    (cutKeeps_ok (con_known rfl) (fun H => rfl) hS hm (Has.skip hm) (Has.skip (Has.skip hm)) (by omega) (by omega) (by omega) (fun x hx => by
      rcases List.mem_append.1 hx with hx | hx
      · obtain ⟨y, q, _⟩ := c2 x hx; exact q
      · obtain ⟨y, q, _⟩ := c1 x hx; exact q))).mono fun e W' ⟨he, hl⟩ => ?_
  exact ⟨_, he, law_post laid (by kernel_rfl) rfl Try.underlying4 rfl ⟨rfl, rfl, rfl⟩ hW' hl⟩

set_option maxRecDepth 100000 in
theorem lifted (os : Os) (started : os.Started) (H : Type) (enc : TypeId × Value → H) (F : Stop.Interp) :
    ReturnsInHanded {} Try.checked os 4 .any ((Rows.OpenSpec.upto Rows.cutKeepsSpec).pre6 enc Try.prog Try.f4 Rows.cutKeepsUptoRow.domain false) (((Rows.OpenSpec.upto Rows.cutKeepsSpec).at F).post enc Try.prog Try.f4 false true false false) := by
  refine returnsInHanded_of_cond (C := Try.checked) (s := Rows.OpenSpec.upto Rows.cutKeepsSpec) (k := Rows.uptoSmall) rfl own started (by kernel_rfl) Try.func4
    (OpenSpec.witness (enc := enc) (C := Try.checked) (s := Rows.OpenSpec.upto Rows.cutKeepsSpec) (k := Rows.uptoSmall) rfl false ⟨#[], #[.slice none 0 0, .agg #[.int .u64 0, .slice none 0 0], .slice none 0 0], []⟩ 8 (by kernel_rfl) (by kernel_rfl) (by kernel_rfl)
      (x := ([.nil, .agg [.lit (.int .u64 0), .nil], .nil], [], [])) (by kernel_rfl) rfl (by kernel_rfl)) ?_
  intro W base args ds gs before hval hW _ hk _
  exact contract H enc W base args ds gs before hval hW hk

theorem andT {a b : Bool} (h : a = true) (k : b = true) : (a && b) = true := by rw [h, k]; rfl
theorem fact0 : (Rows.cutKeepsUptoRow.wf (OpenSpec.ofChange (Rows.OpenSpec.upto Rows.cutKeepsSpec).bare)) = true := by kernel_rfl
theorem fact1 : (laidOutB Try.prog) = true := by kernel_rfl
theorem fact2 : (mapsRowed Try.prog) = true := by kernel_rfl
theorem fact3 : (Try.f4.params.all (Try.prog.readableRec ·)) = true := by kernel_rfl
theorem fact4 : (namedTie Try.prog Rows.cutKeepsUptoRow.named (Rows.OpenSpec.upto Rows.cutKeepsSpec).bare.vars) = true := by kernel_rfl
theorem fact5 : ((Rows.cutKeepsUptoRow.stops == [])) = true := by kernel_rfl
theorem fact6 : ((Try.prog.stops == [])) = true := by kernel_rfl
theorem fact7 : ((Rows.cutKeepsUptoRow.knobs == [])) = true := by kernel_rfl
theorem fact8 : ((Try.prog.stopKnobs == [])) = true := by kernel_rfl
theorem fact9 : ((Rows.cutKeepsUptoRow.inPlace == Try.prog.inPlace 4)) = true := by kernel_rfl
theorem fact10 : ((Rows.cutKeepsUptoRow.unfollowed == Try.prog.unfollowed 4)) = true := by kernel_rfl
theorem fact11 : ((Rows.cutKeepsUptoRow.recurses == Try.prog.recurses 4)) = true := by kernel_rfl
theorem fact12 : ((Rows.cutKeepsUptoRow.named == Try.prog.varsNamed 4)) = true := by kernel_rfl
theorem fact13 : ((Rows.cutKeepsUptoRow.maps == (Try.f4.params.toList ++ (Rows.OpenSpec.upto Rows.cutKeepsSpec).bare.plain.varTypes Try.prog).any (Try.prog.mapsRec ·))) = true := by kernel_rfl
theorem fact14 : ((Rows.cutKeepsUptoRow.ifaces == (Try.f4.params.toList ++ (Rows.OpenSpec.upto Rows.cutKeepsSpec).bare.plain.varTypes Try.prog).any (Try.prog.ifacesRec ·))) = true := by kernel_rfl
theorem fact15 : ((Rows.cutKeepsUptoRow.mapsOut == Try.prog.mapsAmong Try.f4.resultTypes.toList)) = true := by kernel_rfl
theorem fact16 : ((Rows.cutKeepsUptoRow.loops == (Try.f4.params.toList ++ (Rows.OpenSpec.upto Rows.cutKeepsSpec).bare.plain.varTypes Try.prog).any (Try.prog.loopsFrom ·))) = true := by kernel_rfl
theorem fact17 : ((Rows.cutKeepsUptoRow.wideKeys == (Try.f4.params.toList ++ (Rows.OpenSpec.upto Rows.cutKeepsSpec).bare.plain.varTypes Try.prog ++ Try.f4.resultTypes.toList).any (Try.prog.wideKeysFrom ·))) = true := by kernel_rfl
theorem fact18 : ((Rows.OpenSpec.upto Rows.cutKeepsSpec).bare.vars.all (Try.prog.varReadable ·)) = true := by kernel_rfl
theorem fact19 : (Try.f4.resultTypes.all (fun t => Try.prog.readableRec t && decide (t < Try.prog.types.size))) = true := by kernel_rfl
theorem fact20 : ((Rows.cutKeepsUptoRow.ifacesOut == Try.f4.resultTypes.toList.any (Try.prog.ifacesRec ·))) = true := by kernel_rfl
theorem fact21 : ((Rows.cutKeepsUptoRow.loopsOut == Try.f4.resultTypes.toList.any (Try.prog.loopsFrom ·))) = true := by kernel_rfl
theorem fact22 : ((Rows.cutKeepsUptoRow.plainKeys == Try.prog.plainKeys)) = true := by kernel_rfl
theorem fact23 : (Rows.cutKeepsUptoRow.shortTexts.isNone) = true := by kernel_rfl
theorem fact24 : (Try.prog.stopsHeard) = true := by kernel_rfl
theorem fact25 : (Try.prog.mayEnter) = true := by kernel_rfl
theorem fact26 : ((Rows.cutKeepsUptoRow.lifted == Try.prog.liftsFinal)) = true := by kernel_rfl
theorem fact27 : ((Try.prog.make == some Rows.cutKeepsUptoRow.make)) = true := by kernel_rfl
theorem fact28 : ((Rows.cutKeepsUptoRow.kinds == (if Rows.cutKeepsUptoRow.domain.isEmpty then [] else Try.f4.params.toList.map fun t => match Try.prog.underlying t with | some (.int k) => some k | _ => none))) = true := by kernel_rfl
theorem fact29 : ((Rows.cutKeepsUptoRow.pinned == Rows.cutKeepsUptoRow.pinnedBy)) = true := by kernel_rfl
theorem fact30 : ((Rows.cutKeepsUptoRow.veiled == (Try.f4.params.toList ++ (Rows.OpenSpec.upto Rows.cutKeepsSpec).bare.plain.varTypes Try.prog ++ Try.f4.resultTypes.toList).any (Try.prog.veiledRec ·))) = true := by kernel_rfl
theorem fact31 : (Rows.cutKeepsUptoRow.veiledFits Try.prog Try.f4.params.toList (Try.f4.params.toList ++ (Rows.OpenSpec.upto Rows.cutKeepsSpec).bare.plain.varTypes Try.prog ++ Try.f4.resultTypes.toList)) = true := by kernel_rfl
theorem closed : joinedFacts Try.prog 4 Try.f4 (Rows.OpenSpec.upto Rows.cutKeepsSpec).bare Rows.cutKeepsUptoRow = true := by
  unfold joinedFacts
  exact andT (andT (andT (andT (andT (andT (andT (andT (andT (andT (andT (andT (andT (andT (andT (andT (andT (andT (andT (andT (andT (andT (andT (andT (andT (andT (andT (andT (andT (andT (andT fact0 fact1) fact2) fact3) fact4) fact5) fact6) fact7) fact8) fact9) fact10) fact11) fact12) fact13) fact14) fact15) fact16) fact17) fact18) fact19) fact20) fact21) fact22) fact23) fact24) fact25) fact26) fact27) fact28) fact29) fact30) fact31
theorem proved : Rows.CutKeepsUptoSaid :=
  OpenClaim.holds_of_cond 4 Try.f4 rfl rfl rfl rfl rfl rfl rfl ⟨rfl, rfl, rfl, rfl, rfl⟩ rfl rfl rfl rfl rfl (by kernel_rfl) Try.func4 closed
    (of_decide_eq_true (by kernel_rfl)) (by unfold Func.isWrapper; first | (rw [if_pos (by decide +kernel)]; kernel_rfl) | (rw [if_neg (by decide +kernel)]; exact ⟨rfl, rfl⟩))
    (fun os started H enc _ F => lifted os started H enc F)
#print axioms proved
end Go.Proofs.Ytlabejmlkhgeoaa.cutKeeps
