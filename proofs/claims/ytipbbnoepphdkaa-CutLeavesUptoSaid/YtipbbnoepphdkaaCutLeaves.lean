/- CutLeaves returns true for every input whose bulk is at most 1048576, in every world: the statement CutLeavesUptoSaid. No other conditions. -/
import Derived.Test.YtipbbnoepphdkaaRows
import Derived.Test.YtipbbnoepphdkaaSp
import Derived.JoinedCond
namespace Go.Proofs.Ytipbbnoepphdkaa.cutLeaves
open Go Go.CM Go.ChangeShapes Go.WideShapes Go.ChangeAt Go.RowKit
set_option maxRecDepth 100000

theorem own : ownKnob Try.prog.godebug = none := by kernel_rfl
theorem laid : laidOutB Try.prog = true := by kernel_rfl
theorem mixed : Try.prog.follows .mixedOrders = true := by kernel_rfl

theorem live_runs : runF Try.prog known0 [] 1000 50 11 #[] H0 = true := by kernel_rfl
theorem live_known : KnownOK Try.prog (knownOf 11 true) := by
  obtain ⟨H, h⟩ := of_runF live_runs
  exact knownOf_ok Try.func11 (by kernel_rfl) (by kernel_rfl) fun w => pure_call mixed known0_ok AR.nil h w
theorem st25 {H : Type} {n : Nat} {d : DataW H} {cs : List Value} {h : PH} (a : Dat Try.prog n 25 d cs h) : ∃ (m : Nat) (x0 x1 : DataW H) (c0 c1 : Value), d = .agg [x0, x1] ∧ cs = [c0, c1] ∧ Dat Try.prog m 22 x0 [c0] h ∧ Dat Try.prog m 23 x1 [c1] h := by
  obtain ⟨m, rfl⟩ := dat_pos a
  obtain ⟨ds, rfl, hl, hcl, hf⟩ := dat_struct a Try.underlying25
  rw [show Try.prog.cellsOf 25 = 2 by kernel_rfl] at hcl
  match cs, hcl, ds, hl, hf with
  | [c0, c1], _, [x0, x1], _, hf =>
    refine ⟨m, x0, x1, c0, c1, rfl, rfl, ?_, ?_⟩
    · have this : Dat Try.prog m 22 x0 (List.take (Try.prog.cellsOf 22) (List.drop 0 [c0, c1])) h := hf 0 _ x0 rfl rfl
      rw [show Try.prog.cellsOf 22 = 1 by kernel_rfl] at this
      exact this
    · have this : Dat Try.prog m 23 x1 (List.take (Try.prog.cellsOf 23) (List.drop 1 [c0, c1])) h := hf 1 _ x1 rfl rfl
      rw [show Try.prog.cellsOf 23 = 1 by kernel_rfl] at this
      exact this

theorem st79 {H : Type} {n : Nat} {d : DataW H} {cs : List Value} {h : PH} (a : Dat Try.prog n 79 d cs h) : ∃ (m : Nat) (x0 x1 x2 x3 x4 : DataW H) (c0 c1 c2 c3 c4 c5 : Value), d = .agg [x0, x1, x2, x3, x4] ∧ cs = [c0, c1, c2, c3, c4, c5] ∧ Dat Try.prog m 3 x0 [c0] h ∧ Dat Try.prog m 22 x1 [c1] h ∧ Dat Try.prog m 22 x2 [c2] h ∧ Dat Try.prog m 22 x3 [c3] h ∧ Dat Try.prog m 25 x4 [c4, c5] h := by
  obtain ⟨m, rfl⟩ := dat_pos a
  obtain ⟨ds, rfl, hl, hcl, hf⟩ := dat_struct a Try.underlying79
  rw [show Try.prog.cellsOf 79 = 6 by kernel_rfl] at hcl
  match cs, hcl, ds, hl, hf with
  | [c0, c1, c2, c3, c4, c5], _, [x0, x1, x2, x3, x4], _, hf =>
    refine ⟨m, x0, x1, x2, x3, x4, c0, c1, c2, c3, c4, c5, rfl, rfl, ?_, ?_, ?_, ?_, ?_⟩
    · have this : Dat Try.prog m 3 x0 (List.take (Try.prog.cellsOf 3) (List.drop 0 [c0, c1, c2, c3, c4, c5])) h := hf 0 _ x0 rfl rfl
      rw [show Try.prog.cellsOf 3 = 1 by kernel_rfl] at this
      exact this
    · have this : Dat Try.prog m 22 x1 (List.take (Try.prog.cellsOf 22) (List.drop 1 [c0, c1, c2, c3, c4, c5])) h := hf 1 _ x1 rfl rfl
      rw [show Try.prog.cellsOf 22 = 1 by kernel_rfl] at this
      exact this
    · have this : Dat Try.prog m 22 x2 (List.take (Try.prog.cellsOf 22) (List.drop 2 [c0, c1, c2, c3, c4, c5])) h := hf 2 _ x2 rfl rfl
      rw [show Try.prog.cellsOf 22 = 1 by kernel_rfl] at this
      exact this
    · have this : Dat Try.prog m 22 x3 (List.take (Try.prog.cellsOf 22) (List.drop 3 [c0, c1, c2, c3, c4, c5])) h := hf 3 _ x3 rfl rfl
      rw [show Try.prog.cellsOf 22 = 1 by kernel_rfl] at this
      exact this
    · have this : Dat Try.prog m 25 x4 (List.take (Try.prog.cellsOf 25) (List.drop 4 [c0, c1, c2, c3, c4, c5])) h := hf 4 _ x4 rfl rfl
      rw [show Try.prog.cellsOf 25 = 2 by kernel_rfl] at this
      exact this

theorem bulk_one {H : Type} (d : DataW H) : 1 ≤ Rows.uptoBulk d := by
  cases d with
  | lit l => cases l <;> simp [Rows.uptoBulk]
  | nil => simp [Rows.uptoBulk]
  | ptr d => simp [Rows.uptoBulk]
  | slice elems spare => simp [Rows.uptoBulk]
  | agg parts => simp [Rows.uptoBulk]
  | iface t d => simp [Rows.uptoBulk]
  | map entries => simp [Rows.uptoBulk]
  | held h => simp [Rows.uptoBulk]
theorem bulk_len {H : Type} (l : List (DataW H)) : l.length ≤ Rows.uptoBulkAll l := by
  induction l with
  | nil => simp [Rows.uptoBulkAll]
  | cons x r ih => have := bulk_one x; simp only [Rows.uptoBulkAll, List.length_cons]; omega
theorem bulk_part {H : Type} {d : DataW H} {l : List (DataW H)} (h : d ∈ l) : Rows.uptoBulk d ≤ Rows.uptoBulkAll l := by
  induction l with
  | nil => cases h
  | cons x r ih =>
    simp only [Rows.uptoBulkAll]
    cases List.mem_cons.1 h with
    | inl e => subst e; omega
    | inr e => have := ih e; omega
theorem bulk_agg {H : Type} {d : DataW H} {l : List (DataW H)} (h : d ∈ l) : Rows.uptoBulk d ≤ Rows.uptoBulk (.agg l) := by
  have := bulk_part h
  simp only [Rows.uptoBulk]; omega
theorem rows_bulk {H α : Type} {Q : DataW H → α → Prop} {d : DataW H} {l : List α} (h : (d = .nil ∧ l = []) ∨ ∃ (el sp : List (DataW H)), d = .slice el sp ∧ el.length = l.length ∧ ∀ (i : Nat) x y, el[i]? = some x → l[i]? = some y → Q x y) :
    l.length ≤ Rows.uptoBulk d ∧ ∀ y ∈ l, ∃ x, Q x y ∧ Rows.uptoBulk x ≤ Rows.uptoBulk d := by
  rcases h with ⟨rfl, rfl⟩ | ⟨el, sp, rfl, hl, hq⟩
  · exact ⟨Nat.zero_le _, fun y hy => nomatch hy⟩
  · refine ⟨?_, fun y hy => ?_⟩
    · have := bulk_len el
      simp only [Rows.uptoBulk]; omega
    · obtain ⟨i, hi⟩ := List.mem_iff_getElem?.1 hy
      have hil : i < l.length := (List.getElem?_eq_some_iff.1 hi).1
      obtain ⟨x, hx⟩ : ∃ x, el[i]? = some x := ⟨_, List.getElem?_eq_getElem (by omega)⟩
      refine ⟨x, hq i x y hx hi, ?_⟩
      have := bulk_part (List.mem_of_getElem? hx)
      simp only [Rows.uptoBulk]; omega
theorem small {H : Type} {l : List (DataW H)} (hk : Rows.uptoSmall H (l ++ []) = true) : Rows.uptoBulkAll l ≤ 1048576 := by
  rw [List.append_nil] at hk
  unfold Rows.uptoSmall at hk
  exact of_decide_eq_true hk

theorem call_dat {H : Type} {n : Nat} {d : DataW H} {cs : List Value} {h : PH} (a : Dat Try.prog n 79 d cs h) : ∃ c : CallS, CallPE c cs h ∧ c.st.length ≤ Rows.uptoBulk d := by
  obtain ⟨m, x0, x1, x2, x3, x4, c0, c1, c2, c3, c4, c5, rfl, rfl, g0, g1, g2, g3, g4⟩ := st79 a
  obtain ⟨m', y0, y1, b0, b1, rfl, e, f0, f1⟩ := st25 g4
  simp only [List.cons.injEq, and_true] at e
  obtain ⟨rfl, rfl⟩ := e
  obtain ⟨m, rfl⟩ := dat_pos g0
  obtain ⟨kind, _, e0, _⟩ := dat_int g0 Try.underlying3
  obtain ⟨obj, e1⟩ := dat_nat g1 Try.underlying22 rfl
  obtain ⟨aa, e2⟩ := dat_nat g2 Try.underlying22 rfl
  obtain ⟨b, e3⟩ := dat_nat g3 Try.underlying22 rfl
  obtain ⟨fl, e4⟩ := dat_nat f0 Try.underlying22 rfl
  obtain ⟨xv, st, e5, hst, hq⟩ := nums_dat f1 Try.underlying23 Try.underlying22 (by kernel_rfl)
  simp only [List.cons.injEq, and_true] at e0 e1 e2 e3 e4 e5
  subst e0 e1 e2 e3 e4 e5
  refine ⟨⟨kind, obj, aa, b, fl, st⟩, ⟨_, rfl, hst⟩, ?_⟩
  have h1 := (rows_bulk hq).1
  have h2 : Rows.uptoBulk y1 ≤ Rows.uptoBulk (.agg [y0, y1]) := bulk_agg (by simp)
  have h3 : Rows.uptoBulk (.agg [y0, y1]) ≤ Rows.uptoBulk (.agg [x0, x1, x2, x3, .agg [y0, y1]]) := bulk_agg (by simp)
  show st.length ≤ _
  omega
theorem thr_dat {H : Type} {n : Nat} {d : DataW H} {cs : List Value} {h : PH} (a : Dat Try.prog n 69 d cs h) : ∃ (v : Value) (l : List (List CallS)), cs = [v] ∧ ThrR v l h ∧ l.length ≤ Rows.uptoBulk d ∧ ∀ y ∈ l, y.length ≤ Rows.uptoBulk d ∧ ∀ c ∈ y, c.st.length ≤ Rows.uptoBulk d := by
  obtain ⟨n, rfl⟩ := dat_pos a
  obtain ⟨v, l, rfl, h1, h2⟩ := dat_rows (PE := ThrPE) (Q := fun x y => y.length ≤ Rows.uptoBulk x ∧ ∀ c ∈ y, c.st.length ≤ Rows.uptoBulk x) a Try.underlying69 (by kernel_rfl) fun x c hx => by
    obtain ⟨m, rfl⟩ := dat_pos hx
    obtain ⟨v, l, rfl, g1, g2⟩ := dat_rows (PE := CallPE) (Q := fun x y => y.st.length ≤ Rows.uptoBulk x) hx Try.underlying74 (by kernel_rfl) fun x c hx => call_dat hx
    obtain ⟨k1, k2⟩ := rows_bulk g2
    exact ⟨l, ⟨v, rfl, g1⟩, k1, fun c hc => by obtain ⟨x, q, q2⟩ := k2 c hc; omega⟩
  obtain ⟨k1, k2⟩ := rows_bulk h2
  exact ⟨v, l, rfl, h1, k1, fun y hy => by
    obtain ⟨x, ⟨q, q2⟩, q3⟩ := k2 y hy
    exact ⟨by omega, fun c hc => by have := q2 c hc; omega⟩⟩

set_option maxRecDepth 100000 in
theorem contract (H : Type) (enc : TypeId × Value → H) (W : World) (base : Nat) (args : Array Value) (ds gs : List (DataW H)) (before : List MemPlace)
    (hval : ∀ (j : Nat) t v, Try.f7.params[j]? = some t → args[j]? = some v → Value.okWide Try.prog W .any base t v)
    (hW : DataW.Whole enc Try.prog Try.f7.params.toList Rows.cutLeavesSpec.vars false W args.toList ds gs before) (hk : Rows.uptoSmall H (ds ++ gs) = true) :
    Calls Try.prog 7 args W fun e W' => ∃ v, e = .returned v ∧ Rows.cutLeavesSpec.post enc Try.prog Try.f7 false true false false W args v W' := by
  have hW' := hW
  obtain ⟨p, q, hA0, hV, rfl, hfz, hnd⟩ := hW
  have hA : DataW.TrodAll enc Try.prog W 0 (fun _ => true) true Try.f7.params.toList args.toList ds p := hA0
  rw [Try.params7] at hA hval
  have hargs : args = args.toList.toArray := rfl
  obtain ⟨v0, v1, d0, d1, p0, p1, rfl, rfl, rfl, h0, h1⟩ := trodAll_two hA
  obtain ⟨rfl, rfl⟩ := trodVars_none hV
  have hb := small hk
  simp only [Rows.uptoBulkAll] at hb
  have hv0 := hval 0 69 v0 rfl rfl
  obtain ⟨n0, ρ0, K0, cs0, e0, hr0, hro0, s0, lr0, dat0⟩ := arg_dat (m := 8) (by kernel_rfl) hv0 h0 (HR.vac H0 W) RO.empty
  have hv1 := hval 1 70 v1 rfl rfl
  obtain ⟨n1, ρ1, K1, cs1, e1, hr1, hro1, s1, lr1, dat1⟩ := arg_dat (m := 8) (by kernel_rfl) hv1 h1 hr0 hro0
  replace dat0 := dat0.mono (s1)
  replace lr0 := LR.mono (e1) lr0
  obtain ⟨xv, threads, rfl, ht, b1, b2⟩ := thr_dat dat0
  obtain ⟨xw, picks, rfl, hp, hq⟩ := ints_dat dat1 Try.underlying70 Try.underlying3 (by kernel_rfl)
  have b3 := (rows_bulk hq).1
  have hS : Sat [ThrR xv threads, IntsR xw picks] K1 := sat_ro hro1 ht (sat_ro hro1 hp trivial)
  refine (ro_ev (con := conKnown (knownOf 11 true)) mixed (conKnown_ok live_known) hr1 hro1 (args := [xv, xw]) (LR.toA (.cons (arg_slc Try.underlying69 hv0 lr0) (.cons (arg_slc Try.underlying70 hv1 lr1) .nil)))
    (cutLeaves_ok (con_known rfl) (fun H => rfl) hS (by omega) (fun cs hcs => ⟨by have := (b2 cs hcs).1; omega, fun c hc => by have := (b2 cs hcs).2 c hc; omega⟩) (by omega))).mono fun e W' ⟨he, hl⟩ => ?_
  exact ⟨_, he, law_post laid (by kernel_rfl) rfl Try.underlying4 rfl ⟨rfl, rfl, rfl⟩ hW' hl⟩

set_option maxRecDepth 100000 in
theorem lifted (os : Os) (started : os.Started) (H : Type) (enc : TypeId × Value → H) (F : Stop.Interp) :
    ReturnsInHanded {} Try.checked os 7 .any ((Rows.OpenSpec.upto Rows.cutLeavesSpec).pre6 enc Try.prog Try.f7 Rows.cutLeavesUptoRow.domain false) (((Rows.OpenSpec.upto Rows.cutLeavesSpec).at F).post enc Try.prog Try.f7 false true false false) := by
  refine returnsInHanded_of_cond (C := Try.checked) (s := Rows.OpenSpec.upto Rows.cutLeavesSpec) (k := Rows.uptoSmall) rfl own started (by kernel_rfl) Try.func7
    (OpenSpec.witness (enc := enc) (C := Try.checked) (s := Rows.OpenSpec.upto Rows.cutLeavesSpec) (k := Rows.uptoSmall) rfl false ⟨#[], #[.slice none 0 0, .slice none 0 0], []⟩ 8 (by kernel_rfl) (by kernel_rfl) (by kernel_rfl)
      (x := ([.nil, .nil], [], [])) (by kernel_rfl) rfl (by kernel_rfl)) ?_
  intro W base args ds gs before hval hW _ hk _
  exact contract H enc W base args ds gs before hval hW hk

theorem proved : Rows.CutLeavesUptoSaid :=
  OpenClaim.holds_of_cond 7 Try.f7 rfl rfl rfl rfl rfl rfl rfl ⟨rfl, rfl, rfl, rfl, rfl⟩ rfl rfl rfl rfl rfl (by kernel_rfl) Try.func7 (by kernel_rfl)
    (of_decide_eq_true (by kernel_rfl)) (by unfold Func.isWrapper; first | (rw [if_pos (by decide +kernel)]; kernel_rfl) | (rw [if_neg (by decide +kernel)]; exact ⟨rfl, rfl⟩))
    (fun os started H enc _ F => lifted os started H enc F)
#print axioms proved
end Go.Proofs.Ytipbbnoepphdkaa.cutLeaves
