/- HandleHolds returns true for every input whose bulk is at most 1048576, in every world: the statement HandleHoldsUptoSaid. No other conditions. -/
import Derived.Test.YtocphcgcpjcfjaaGreatRows
import Derived.Test.YtocphcgcpjcfjaaGreatSp
import Derived.JoinedCond
namespace Go.Proofs.YtocphcgcpjcfjaaGreat.handleHolds
open Go Go.CM Go.ChangeShapes Go.WideShapes Go.ChangeAt Go.RowKit
set_option maxRecDepth 100000

theorem own : ownKnob Tryz.prog.godebug = none := by kernel_rfl
theorem laid : laidOutB Tryz.prog = true := by kernel_rfl
theorem mixed : Tryz.prog.follows .mixedOrders = true := by kernel_rfl

theorem live_runs : runE Tryz.prog known0 1000 50 22 = true := by kernel_rfl
theorem live_known : KnownOK Tryz.prog (knownOf 22 true) := by
  obtain ⟨H, h⟩ := of_runE live_runs
  exact knownOf_ok Tryz.func22 (by kernel_rfl) (by kernel_rfl) fun w => pure_call mixed known0_ok AR.nil h w
theorem st98 {H : Type} {n : Nat} {d : DataW H} {cs : List Value} {h : PH} (a : Dat Tryz.prog n 98 d cs h) : ∃ (m : Nat) (x0 x1 x2 : DataW H) (c0 c1 c2 : Value), d = .agg [x0, x1, x2] ∧ cs = [c0, c1, c2] ∧ Dat Tryz.prog m 3 x0 [c0] h ∧ Dat Tryz.prog m 22 x1 [c1] h ∧ Dat Tryz.prog m 22 x2 [c2] h := by
  obtain ⟨m, rfl⟩ := dat_pos a
  obtain ⟨ds, rfl, hl, hcl, hf⟩ := dat_struct a Tryz.underlying98
  rw [show Tryz.prog.cellsOf 98 = 3 by kernel_rfl] at hcl
  match cs, hcl, ds, hl, hf with
  | [c0, c1, c2], _, [x0, x1, x2], _, hf =>
    refine ⟨m, x0, x1, x2, c0, c1, c2, rfl, rfl, ?_, ?_, ?_⟩
    · have this : Dat Tryz.prog m 3 x0 (List.take (Tryz.prog.cellsOf 3) (List.drop 0 [c0, c1, c2])) h := hf 0 _ x0 rfl rfl
      rw [show Tryz.prog.cellsOf 3 = 1 by kernel_rfl] at this
      exact this
    · have this : Dat Tryz.prog m 22 x1 (List.take (Tryz.prog.cellsOf 22) (List.drop 1 [c0, c1, c2])) h := hf 1 _ x1 rfl rfl
      rw [show Tryz.prog.cellsOf 22 = 1 by kernel_rfl] at this
      exact this
    · have this : Dat Tryz.prog m 22 x2 (List.take (Tryz.prog.cellsOf 22) (List.drop 2 [c0, c1, c2])) h := hf 2 _ x2 rfl rfl
      rw [show Tryz.prog.cellsOf 22 = 1 by kernel_rfl] at this
      exact this

theorem st83 {H : Type} {n : Nat} {d : DataW H} {cs : List Value} {h : PH} (a : Dat Tryz.prog n 83 d cs h) : ∃ (m : Nat) (x0 x1 x2 x3 : DataW H) (c0 c1 c2 c3 : Value), d = .agg [x0, x1, x2, x3] ∧ cs = [c0, c1, c2, c3] ∧ Dat Tryz.prog m 3 x0 [c0] h ∧ Dat Tryz.prog m 22 x1 [c1] h ∧ Dat Tryz.prog m 81 x2 [c2] h ∧ Dat Tryz.prog m 24 x3 [c3] h := by
  obtain ⟨m, rfl⟩ := dat_pos a
  obtain ⟨ds, rfl, hl, hcl, hf⟩ := dat_struct a Tryz.underlying83
  rw [show Tryz.prog.cellsOf 83 = 4 by kernel_rfl] at hcl
  match cs, hcl, ds, hl, hf with
  | [c0, c1, c2, c3], _, [x0, x1, x2, x3], _, hf =>
    refine ⟨m, x0, x1, x2, x3, c0, c1, c2, c3, rfl, rfl, ?_, ?_, ?_, ?_⟩
    · have this : Dat Tryz.prog m 3 x0 (List.take (Tryz.prog.cellsOf 3) (List.drop 0 [c0, c1, c2, c3])) h := hf 0 _ x0 rfl rfl
      rw [show Tryz.prog.cellsOf 3 = 1 by kernel_rfl] at this
      exact this
    · have this : Dat Tryz.prog m 22 x1 (List.take (Tryz.prog.cellsOf 22) (List.drop 1 [c0, c1, c2, c3])) h := hf 1 _ x1 rfl rfl
      rw [show Tryz.prog.cellsOf 22 = 1 by kernel_rfl] at this
      exact this
    · have this : Dat Tryz.prog m 81 x2 (List.take (Tryz.prog.cellsOf 81) (List.drop 2 [c0, c1, c2, c3])) h := hf 2 _ x2 rfl rfl
      rw [show Tryz.prog.cellsOf 81 = 1 by kernel_rfl] at this
      exact this
    · have this : Dat Tryz.prog m 24 x3 (List.take (Tryz.prog.cellsOf 24) (List.drop 3 [c0, c1, c2, c3])) h := hf 3 _ x3 rfl rfl
      rw [show Tryz.prog.cellsOf 24 = 1 by kernel_rfl] at this
      exact this

theorem bulk_one {H : Type} (d : DataW H) : 1 ≤ Rows.uptoBulk d := by
  cases d with
  | lit l => cases l <;> simp [Rows.uptoBulk]
  | nil => simp [Rows.uptoBulk]
  | ptr d => simp [Rows.uptoBulk]
  | slice elems spare => simp [Rows.uptoBulk]
  | agg parts => simp [Rows.uptoBulk]
  | iface t d => simp [Rows.uptoBulk]
  | map entries => simp [Rows.uptoBulk]
  | held h => simp [Rows.uptoBulk]
theorem bulk_len {H : Type} (l : List (DataW H)) : l.length ≤ Rows.uptoBulkAll l := by
  induction l with
  | nil => simp [Rows.uptoBulkAll]
  | cons x r ih => have := bulk_one x; simp only [Rows.uptoBulkAll, List.length_cons]; omega
theorem bulk_part {H : Type} {d : DataW H} {l : List (DataW H)} (h : d ∈ l) : Rows.uptoBulk d ≤ Rows.uptoBulkAll l := by
  induction l with
  | nil => cases h
  | cons x r ih =>
    simp only [Rows.uptoBulkAll]
    cases List.mem_cons.1 h with
    | inl e => subst e; omega
    | inr e => have := ih e; omega
theorem bulk_agg {H : Type} {d : DataW H} {l : List (DataW H)} (h : d ∈ l) : Rows.uptoBulk d ≤ Rows.uptoBulk (.agg l) := by
  have := bulk_part h
  simp only [Rows.uptoBulk]; omega
theorem rows_bulk {H α : Type} {Q : DataW H → α → Prop} {d : DataW H} {l : List α} (h : (d = .nil ∧ l = []) ∨ ∃ (el sp : List (DataW H)), d = .slice el sp ∧ el.length = l.length ∧ ∀ (i : Nat) x y, el[i]? = some x → l[i]? = some y → Q x y) :
    l.length ≤ Rows.uptoBulk d ∧ ∀ y ∈ l, ∃ x, Q x y ∧ Rows.uptoBulk x ≤ Rows.uptoBulk d := by
  rcases h with ⟨rfl, rfl⟩ | ⟨el, sp, rfl, hl, hq⟩
  · exact ⟨Nat.zero_le _, fun y hy => nomatch hy⟩
  · refine ⟨?_, fun y hy => ?_⟩
    · have := bulk_len el
      simp only [Rows.uptoBulk]; omega
    · obtain ⟨i, hi⟩ := List.mem_iff_getElem?.1 hy
      have hil : i < l.length := (List.getElem?_eq_some_iff.1 hi).1
      obtain ⟨x, hx⟩ : ∃ x, el[i]? = some x := ⟨_, List.getElem?_eq_getElem (by omega)⟩
      refine ⟨x, hq i x y hx hi, ?_⟩
      have := bulk_part (List.mem_of_getElem? hx)
      simp only [Rows.uptoBulk]; omega
theorem small {H : Type} {l : List (DataW H)} (hk : Rows.uptoSmall H (l ++ []) = true) : Rows.uptoBulkAll l ≤ 1048576 := by
  rw [List.append_nil] at hk
  unfold Rows.uptoSmall at hk
  exact of_decide_eq_true hk

theorem c14_dat {H : Type} {n : Nat} {d : DataW H} {cs : List Value} {h : PH} (a : Dat Tryz.prog n 98 d cs h) : ∃ c : C14, cs = [i64 c.kind, u64 c.h, u64 c.st] ∧ c.h < 18446744073709551616 ∧ c.st < 18446744073709551616 := by
  obtain ⟨m, x0, x1, x2, c0, c1, c2, rfl, rfl, g0, g1, g2⟩ := st98 a
  obtain ⟨m, rfl⟩ := dat_pos g0
  obtain ⟨kind, _, e0, _⟩ := dat_int g0 Tryz.underlying3
  obtain ⟨hh, e1, hlt⟩ := dat_natB g1 Tryz.underlying22 rfl
  obtain ⟨hs, e2, hlt2⟩ := dat_natB g2 Tryz.underlying22 rfl
  simp only [List.cons.injEq, and_true] at e0 e1 e2
  subst e0 e1 e2
  exact ⟨⟨kind, hh, hs⟩, rfl, hlt, hlt2⟩
theorem thr_dat {H : Type} {n : Nat} {d : DataW H} {cs : List Value} {h : PH} (a : Dat Tryz.prog n 81 d cs h) : ∃ (v : Value) (l : List (List C14)), cs = [v] ∧ Thr14 v l h ∧ l.length ≤ Rows.uptoBulk d ∧ ∀ y ∈ l, y.length ≤ Rows.uptoBulk d ∧ ∀ c ∈ y, c.h < 18446744073709551616 ∧ c.st < 18446744073709551616 := by
  obtain ⟨n, rfl⟩ := dat_pos a
  obtain ⟨v, l, rfl, h1, h2⟩ := dat_rows (PE := ThrP14) (Q := fun x y => y.length ≤ Rows.uptoBulk x ∧ ∀ c ∈ y, c.h < 18446744073709551616 ∧ c.st < 18446744073709551616) a Tryz.underlying81 (by kernel_rfl) fun x c hx => by
    obtain ⟨m, rfl⟩ := dat_pos hx
    obtain ⟨v, l, rfl, g1, g2⟩ := dat_rows (PE := fun (c : C14) cs _ => cs = [i64 c.kind, u64 c.h, u64 c.st]) (Q := fun _ c => c.h < 18446744073709551616 ∧ c.st < 18446744073709551616) hx Tryz.underlying144 (by kernel_rfl) fun x c hx => c14_dat hx
    obtain ⟨k1, k2⟩ := rows_bulk g2
    exact ⟨l, ⟨v, rfl, g1⟩, k1, fun c hc => by obtain ⟨x, q, q2⟩ := k2 c hc; exact q⟩
  obtain ⟨k1, k2⟩ := rows_bulk h2
  exact ⟨v, l, rfl, h1, k1, fun y hy => by
    obtain ⟨x, ⟨q, q2⟩, q3⟩ := k2 y hy
    exact ⟨by omega, q2⟩⟩

set_option maxRecDepth 100000 in
theorem contract (H : Type) (enc : TypeId × Value → H) (W : World) (base : Nat) (args : Array Value) (ds gs : List (DataW H)) (before : List MemPlace)
    (hval : ∀ (j : Nat) t v, Tryz.f8.params[j]? = some t → args[j]? = some v → Value.okWide Tryz.prog W .any base t v)
    (hW : DataW.Whole enc Tryz.prog Tryz.f8.params.toList Rows.handleHoldsSpec.vars false W args.toList ds gs before) (hk : Rows.uptoSmall H (ds ++ gs) = true) :
    Calls Tryz.prog 8 args W fun e W' => ∃ v, e = .returned v ∧ Rows.handleHoldsSpec.post enc Tryz.prog Tryz.f8 false true false false W args v W' := by
  have hW' := hW
  obtain ⟨p, q, hA0, hV, rfl, hfz, hnd⟩ := hW
  have hA : DataW.TrodAll enc Tryz.prog W 0 (fun _ => true) true Tryz.f8.params.toList args.toList ds p := hA0
  rw [Tryz.params8] at hA hval
  have hargs : args = args.toList.toArray := rfl
  obtain ⟨v0, d0, rfl, rfl, h0⟩ := trodAll_one hA
  obtain ⟨rfl, rfl⟩ := trodVars_none hV
  have hb := small hk
  simp only [Rows.uptoBulkAll] at hb
  have hv0 := hval 0 83 v0 rfl rfl
  obtain ⟨n0, ρ0, K0, cs0, e0, hr0, hro0, s0, lr0, dat0⟩ := arg_dat (m := 8) (by kernel_rfl) hv0 h0 (HR.vac H0 W) RO.empty
  obtain ⟨m1, y0, y1, y2, y3, z0, z1, z2, z3, rfl, rfl, f0, f1, f2, f3⟩ := st83 dat0
  obtain ⟨m1, rfl⟩ := dat_pos f0
  obtain ⟨n, _, u0, _⟩ := dat_int f0 Tryz.underlying3
  obtain ⟨most, u1⟩ := dat_nat f1 Tryz.underlying22 rfl
  obtain ⟨xv, calls, u2, hT, b1, b2⟩ := thr_dat f2
  obtain ⟨xw, picks, u3, hp, hq⟩ := ints_dat f3 Tryz.underlying24 Tryz.underlying3 (by kernel_rfl)
  simp only [List.cons.injEq, and_true] at u0 u1 u2 u3
  subst u0 u1 u2 u3
  have b3 := (rows_bulk hq).1
  have b4 : Rows.uptoBulk y2 ≤ Rows.uptoBulk (.agg [y0, y1, y2, y3]) := bulk_agg (by simp)
  have b5 : Rows.uptoBulk y3 ≤ Rows.uptoBulk (.agg [y0, y1, y2, y3]) := bulk_agg (by simp)
  have hS : Sat [Thr14 z2 calls, IntsR z3 picks] K0 := sat_ro hro0 hT (sat_ro hro0 hp trivial)
  refine (ro_ev (con := conKnown (knownOf 22 true)) mixed (conKnown_ok live_known) hr0 hro0 (args := [.agg ⟨[i64 n, u64 most, z2, z3]⟩]) (LR.toA (.cons (arg_agg Tryz.underlying83 hv0 lr0) .nil))
    (hHolds_ok (con_known rfl) (fun H => rfl) (fun cs hcs c hc => (b2 cs hcs).2 c hc) (by omega) (fun cs hcs => by have := (b2 cs hcs).1; omega) (by omega) hS)).mono fun e W' ⟨he, hl⟩ => ?_
  exact ⟨_, he, law_post laid (by kernel_rfl) rfl Tryz.underlying4 rfl ⟨rfl, rfl, rfl⟩ hW' hl⟩

set_option maxRecDepth 100000 in
theorem lifted (os : Os) (started : os.Started) (H : Type) (enc : TypeId × Value → H) (F : Stop.Interp) :
    ReturnsInHanded {} Tryz.checked os 8 .any ((Rows.OpenSpec.upto Rows.handleHoldsSpec).pre6 enc Tryz.prog Tryz.f8 Rows.handleHoldsUptoRow.domain false) (((Rows.OpenSpec.upto Rows.handleHoldsSpec).at F).post enc Tryz.prog Tryz.f8 false true false false) := by
  refine returnsInHanded_of_cond (C := Tryz.checked) (s := Rows.OpenSpec.upto Rows.handleHoldsSpec) (k := Rows.uptoSmall) rfl own started (by kernel_rfl) Tryz.func8
    (OpenSpec.witness (enc := enc) (C := Tryz.checked) (s := Rows.OpenSpec.upto Rows.handleHoldsSpec) (k := Rows.uptoSmall) rfl false ⟨#[], #[.agg #[.int .i64 0, .int .u64 0, .slice none 0 0, .slice none 0 0]], []⟩ 8 (by kernel_rfl) (by kernel_rfl) (by kernel_rfl)
      (x := ([.agg [.lit (.int .i64 0), .lit (.int .u64 0), .nil, .nil]], [], [])) (by kernel_rfl) rfl (by kernel_rfl)) ?_
  intro W base args ds gs before hval hW _ hk _
  exact contract H enc W base args ds gs before hval hW hk

theorem andT {a b : Bool} (h : a = true) (k : b = true) : (a && b) = true := by rw [h, k]; rfl
theorem fact0 : (Rows.handleHoldsUptoRow.wf (OpenSpec.ofChange (Rows.OpenSpec.upto Rows.handleHoldsSpec).bare)) = true := by kernel_rfl
theorem fact1 : (laidOutB Tryz.prog) = true := by kernel_rfl
theorem fact2 : (mapsRowed Tryz.prog) = true := by kernel_rfl
theorem fact3 : (Tryz.f8.params.all (Tryz.prog.readableRec ·)) = true := by kernel_rfl
theorem fact4 : (namedTie Tryz.prog Rows.handleHoldsUptoRow.named (Rows.OpenSpec.upto Rows.handleHoldsSpec).bare.vars) = true := by kernel_rfl
theorem fact5 : ((Rows.handleHoldsUptoRow.stops == [])) = true := by kernel_rfl
theorem fact6 : ((Tryz.prog.stops == [])) = true := by kernel_rfl
theorem fact7 : ((Rows.handleHoldsUptoRow.knobs == [])) = true := by kernel_rfl
theorem fact8 : ((Tryz.prog.stopKnobs == [])) = true := by kernel_rfl
theorem fact9 : ((Rows.handleHoldsUptoRow.inPlace == Tryz.prog.inPlace 8)) = true := by kernel_rfl
theorem fact10 : ((Rows.handleHoldsUptoRow.unfollowed == Tryz.prog.unfollowed 8)) = true := by kernel_rfl
theorem fact11 : ((Rows.handleHoldsUptoRow.recurses == Tryz.prog.recurses 8)) = true := by kernel_rfl
theorem fact12 : ((Rows.handleHoldsUptoRow.named == Tryz.prog.varsNamed 8)) = true := by kernel_rfl
theorem fact13 : ((Rows.handleHoldsUptoRow.maps == (Tryz.f8.params.toList ++ (Rows.OpenSpec.upto Rows.handleHoldsSpec).bare.plain.varTypes Tryz.prog).any (Tryz.prog.mapsRec ·))) = true := by kernel_rfl
theorem fact14 : ((Rows.handleHoldsUptoRow.ifaces == (Tryz.f8.params.toList ++ (Rows.OpenSpec.upto Rows.handleHoldsSpec).bare.plain.varTypes Tryz.prog).any (Tryz.prog.ifacesRec ·))) = true := by kernel_rfl
theorem fact15 : ((Rows.handleHoldsUptoRow.mapsOut == Tryz.prog.mapsAmong Tryz.f8.resultTypes.toList)) = true := by kernel_rfl
theorem fact16 : ((Rows.handleHoldsUptoRow.loops == (Tryz.f8.params.toList ++ (Rows.OpenSpec.upto Rows.handleHoldsSpec).bare.plain.varTypes Tryz.prog).any (Tryz.prog.loopsFrom ·))) = true := by kernel_rfl
theorem fact17 : ((Rows.handleHoldsUptoRow.wideKeys == (Tryz.f8.params.toList ++ (Rows.OpenSpec.upto Rows.handleHoldsSpec).bare.plain.varTypes Tryz.prog ++ Tryz.f8.resultTypes.toList).any (Tryz.prog.wideKeysFrom ·))) = true := by kernel_rfl
theorem fact18 : ((Rows.OpenSpec.upto Rows.handleHoldsSpec).bare.vars.all (Tryz.prog.varReadable ·)) = true := by kernel_rfl
theorem fact19 : (Tryz.f8.resultTypes.all (fun t => Tryz.prog.readableRec t && decide (t < Tryz.prog.types.size))) = true := by kernel_rfl
theorem fact20 : ((Rows.handleHoldsUptoRow.ifacesOut == Tryz.f8.resultTypes.toList.any (Tryz.prog.ifacesRec ·))) = true := by kernel_rfl
theorem fact21 : ((Rows.handleHoldsUptoRow.loopsOut == Tryz.f8.resultTypes.toList.any (Tryz.prog.loopsFrom ·))) = true := by kernel_rfl
theorem fact22 : ((Rows.handleHoldsUptoRow.plainKeys == Tryz.prog.plainKeys)) = true := by kernel_rfl
theorem fact23 : (Rows.handleHoldsUptoRow.shortTexts.isNone) = true := by kernel_rfl
theorem fact24 : (Tryz.prog.stopsHeard) = true := by kernel_rfl
theorem fact25 : (Tryz.prog.mayEnter) = true := by kernel_rfl
theorem fact26 : ((Rows.handleHoldsUptoRow.lifted == Tryz.prog.liftsFinal)) = true := by kernel_rfl
theorem fact27 : ((Tryz.prog.make == some Rows.handleHoldsUptoRow.make)) = true := by kernel_rfl
theorem fact28 : ((Rows.handleHoldsUptoRow.kinds == (if Rows.handleHoldsUptoRow.domain.isEmpty then [] else Tryz.f8.params.toList.map fun t => match Tryz.prog.underlying t with | some (.int k) => some k | _ => none))) = true := by kernel_rfl
theorem fact29 : ((Rows.handleHoldsUptoRow.pinned == Rows.handleHoldsUptoRow.pinnedBy)) = true := by kernel_rfl
theorem fact30 : ((Rows.handleHoldsUptoRow.veiled == (Tryz.f8.params.toList ++ (Rows.OpenSpec.upto Rows.handleHoldsSpec).bare.plain.varTypes Tryz.prog ++ Tryz.f8.resultTypes.toList).any (Tryz.prog.veiledRec ·))) = true := by kernel_rfl
theorem fact31 : (Rows.handleHoldsUptoRow.veiledFits Tryz.prog Tryz.f8.params.toList (Tryz.f8.params.toList ++ (Rows.OpenSpec.upto Rows.handleHoldsSpec).bare.plain.varTypes Tryz.prog ++ Tryz.f8.resultTypes.toList)) = true := by kernel_rfl
theorem closed : joinedFacts Tryz.prog 8 Tryz.f8 (Rows.OpenSpec.upto Rows.handleHoldsSpec).bare Rows.handleHoldsUptoRow = true := by
  unfold joinedFacts
  exact andT (andT (andT (andT (andT (andT (andT (andT (andT (andT (andT (andT (andT (andT (andT (andT (andT (andT (andT (andT (andT (andT (andT (andT (andT (andT (andT (andT (andT (andT (andT fact0 fact1) fact2) fact3) fact4) fact5) fact6) fact7) fact8) fact9) fact10) fact11) fact12) fact13) fact14) fact15) fact16) fact17) fact18) fact19) fact20) fact21) fact22) fact23) fact24) fact25) fact26) fact27) fact28) fact29) fact30) fact31
theorem proved : Rows.HandleHoldsUptoSaid :=
  OpenClaim.holds_of_cond 8 Tryz.f8 rfl rfl rfl rfl rfl rfl rfl ⟨rfl, rfl, rfl, rfl, rfl⟩ rfl rfl rfl rfl rfl (by kernel_rfl) Tryz.func8 closed
    (of_decide_eq_true (by kernel_rfl)) (by unfold Func.isWrapper; first | (rw [if_pos (by decide +kernel)]; kernel_rfl) | (rw [if_neg (by decide +kernel)]; exact ⟨rfl, rfl⟩))
    (fun os started H enc _ F => lifted os started H enc F)
#print axioms proved
end Go.Proofs.YtocphcgcpjcfjaaGreat.handleHolds
