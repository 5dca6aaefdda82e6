/- MultiPlays returns true for every input whose bulk is at most 1048576, in every world: the statement MultiPlaysUptoSaid. No other conditions. -/
import Derived.Test.YtnkbmaccgifeoaaGreatRows
import Derived.Test.YtnkbmaccgifeoaaGreatSp
import Derived.JoinedCond
namespace Go.Proofs.YtnkbmaccgifeoaaGreat.multiPlays
open Go Go.CM Go.ChangeShapes Go.WideShapes Go.ChangeAt Go.RowKit
set_option maxRecDepth 100000

theorem own : ownKnob Tryz.prog.godebug = none := by kernel_rfl
theorem laid : laidOutB Tryz.prog = true := by kernel_rfl
theorem mixed : Tryz.prog.follows .mixedOrders = true := by kernel_rfl

theorem live_runs : runE Tryz.prog known0 1000 50 17 = true := by kernel_rfl
theorem live_known : KnownOK Tryz.prog (knownOf 17 true) := by
  obtain ⟨H, h⟩ := of_runE live_runs
  exact knownOf_ok Tryz.func17 (by kernel_rfl) (by kernel_rfl) fun w => pure_call mixed known0_ok AR.nil h w
theorem st68 {H : Type} {n : Nat} {d : DataW H} {cs : List Value} {h : PH} (a : Dat Tryz.prog n 68 d cs h) : ∃ (m : Nat) (x0 x1 x2 x3 x4 : DataW H) (c0 c1 c2 c3 c4 : Value), d = .agg [x0, x1, x2, x3, x4] ∧ cs = [c0, c1, c2, c3, c4] ∧ Dat Tryz.prog m 23 x0 [c0] h ∧ Dat Tryz.prog m 23 x1 [c1] h ∧ Dat Tryz.prog m 23 x2 [c2] h ∧ Dat Tryz.prog m 23 x3 [c3] h ∧ Dat Tryz.prog m 23 x4 [c4] h := by
  obtain ⟨m, rfl⟩ := dat_pos a
  obtain ⟨ds, rfl, hl, hcl, hf⟩ := dat_array a Tryz.underlying68
  rw [show Tryz.prog.cellsOf 68 = 5 by kernel_rfl] at hcl
  match cs, hcl, ds, hl, hf with
  | [c0, c1, c2, c3, c4], _, [x0, x1, x2, x3, x4], _, hf =>
    refine ⟨m, x0, x1, x2, x3, x4, c0, c1, c2, c3, c4, rfl, rfl, ?_, ?_, ?_, ?_, ?_⟩
    · have this : Dat Tryz.prog m 23 x0 (List.take (Tryz.prog.cellsOf 23) (List.drop 0 [c0, c1, c2, c3, c4])) h := hf 0 x0 rfl
      rw [show Tryz.prog.cellsOf 23 = 1 by kernel_rfl] at this
      exact this
    · have this : Dat Tryz.prog m 23 x1 (List.take (Tryz.prog.cellsOf 23) (List.drop 1 [c0, c1, c2, c3, c4])) h := hf 1 x1 rfl
      rw [show Tryz.prog.cellsOf 23 = 1 by kernel_rfl] at this
      exact this
    · have this : Dat Tryz.prog m 23 x2 (List.take (Tryz.prog.cellsOf 23) (List.drop 2 [c0, c1, c2, c3, c4])) h := hf 2 x2 rfl
      rw [show Tryz.prog.cellsOf 23 = 1 by kernel_rfl] at this
      exact this
    · have this : Dat Tryz.prog m 23 x3 (List.take (Tryz.prog.cellsOf 23) (List.drop 3 [c0, c1, c2, c3, c4])) h := hf 3 x3 rfl
      rw [show Tryz.prog.cellsOf 23 = 1 by kernel_rfl] at this
      exact this
    · have this : Dat Tryz.prog m 23 x4 (List.take (Tryz.prog.cellsOf 23) (List.drop 4 [c0, c1, c2, c3, c4])) h := hf 4 x4 rfl
      rw [show Tryz.prog.cellsOf 23 = 1 by kernel_rfl] at this
      exact this

theorem st98 {H : Type} {n : Nat} {d : DataW H} {cs : List Value} {h : PH} (a : Dat Tryz.prog n 98 d cs h) : ∃ (m : Nat) (x0 x1 x2 : DataW H) (c0 c1 c2 : Value), d = .agg [x0, x1, x2] ∧ cs = [c0, c1, c2] ∧ Dat Tryz.prog m 23 x0 [c0] h ∧ Dat Tryz.prog m 23 x1 [c1] h ∧ Dat Tryz.prog m 23 x2 [c2] h := by
  obtain ⟨m, rfl⟩ := dat_pos a
  obtain ⟨ds, rfl, hl, hcl, hf⟩ := dat_struct a Tryz.underlying98
  rw [show Tryz.prog.cellsOf 98 = 3 by kernel_rfl] at hcl
  match cs, hcl, ds, hl, hf with
  | [c0, c1, c2], _, [x0, x1, x2], _, hf =>
    refine ⟨m, x0, x1, x2, c0, c1, c2, rfl, rfl, ?_, ?_, ?_⟩
    · have this : Dat Tryz.prog m 23 x0 (List.take (Tryz.prog.cellsOf 23) (List.drop 0 [c0, c1, c2])) h := hf 0 _ x0 rfl rfl
      rw [show Tryz.prog.cellsOf 23 = 1 by kernel_rfl] at this
      exact this
    · have this : Dat Tryz.prog m 23 x1 (List.take (Tryz.prog.cellsOf 23) (List.drop 1 [c0, c1, c2])) h := hf 1 _ x1 rfl rfl
      rw [show Tryz.prog.cellsOf 23 = 1 by kernel_rfl] at this
      exact this
    · have this : Dat Tryz.prog m 23 x2 (List.take (Tryz.prog.cellsOf 23) (List.drop 2 [c0, c1, c2])) h := hf 2 _ x2 rfl rfl
      rw [show Tryz.prog.cellsOf 23 = 1 by kernel_rfl] at this
      exact this

theorem st26 {H : Type} {n : Nat} {d : DataW H} {cs : List Value} {h : PH} (a : Dat Tryz.prog n 26 d cs h) : ∃ (m : Nat) (x0 x1 x2 : DataW H) (c0 c1 c2 : Value), d = .agg [x0, x1, x2] ∧ cs = [c0, c1, c2] ∧ Dat Tryz.prog m 4 x0 [c0] h ∧ Dat Tryz.prog m 23 x1 [c1] h ∧ Dat Tryz.prog m 24 x2 [c2] h := by
  obtain ⟨m, rfl⟩ := dat_pos a
  obtain ⟨ds, rfl, hl, hcl, hf⟩ := dat_struct a Tryz.underlying26
  rw [show Tryz.prog.cellsOf 26 = 3 by kernel_rfl] at hcl
  match cs, hcl, ds, hl, hf with
  | [c0, c1, c2], _, [x0, x1, x2], _, hf =>
    refine ⟨m, x0, x1, x2, c0, c1, c2, rfl, rfl, ?_, ?_, ?_⟩
    · have this : Dat Tryz.prog m 4 x0 (List.take (Tryz.prog.cellsOf 4) (List.drop 0 [c0, c1, c2])) h := hf 0 _ x0 rfl rfl
      rw [show Tryz.prog.cellsOf 4 = 1 by kernel_rfl] at this
      exact this
    · have this : Dat Tryz.prog m 23 x1 (List.take (Tryz.prog.cellsOf 23) (List.drop 1 [c0, c1, c2])) h := hf 1 _ x1 rfl rfl
      rw [show Tryz.prog.cellsOf 23 = 1 by kernel_rfl] at this
      exact this
    · have this : Dat Tryz.prog m 24 x2 (List.take (Tryz.prog.cellsOf 24) (List.drop 2 [c0, c1, c2])) h := hf 2 _ x2 rfl rfl
      rw [show Tryz.prog.cellsOf 24 = 1 by kernel_rfl] at this
      exact this

theorem st72 {H : Type} {n : Nat} {d : DataW H} {cs : List Value} {h : PH} (a : Dat Tryz.prog n 72 d cs h) : ∃ (m : Nat) (x0 x1 x2 : DataW H) (c0 c1 c2 c3 c4 c5 c6 : Value), d = .agg [x0, x1, x2] ∧ cs = [c0, c1, c2, c3, c4, c5, c6] ∧ Dat Tryz.prog m 68 x0 [c0, c1, c2, c3, c4] h ∧ Dat Tryz.prog m 69 x1 [c5] h ∧ Dat Tryz.prog m 70 x2 [c6] h := by
  obtain ⟨m, rfl⟩ := dat_pos a
  obtain ⟨ds, rfl, hl, hcl, hf⟩ := dat_struct a Tryz.underlying72
  rw [show Tryz.prog.cellsOf 72 = 7 by kernel_rfl] at hcl
  match cs, hcl, ds, hl, hf with
  | [c0, c1, c2, c3, c4, c5, c6], _, [x0, x1, x2], _, hf =>
    refine ⟨m, x0, x1, x2, c0, c1, c2, c3, c4, c5, c6, rfl, rfl, ?_, ?_, ?_⟩
    · have this : Dat Tryz.prog m 68 x0 (List.take (Tryz.prog.cellsOf 68) (List.drop 0 [c0, c1, c2, c3, c4, c5, c6])) h := hf 0 _ x0 rfl rfl
      rw [show Tryz.prog.cellsOf 68 = 5 by kernel_rfl] at this
      exact this
    · have this : Dat Tryz.prog m 69 x1 (List.take (Tryz.prog.cellsOf 69) (List.drop 5 [c0, c1, c2, c3, c4, c5, c6])) h := hf 1 _ x1 rfl rfl
      rw [show Tryz.prog.cellsOf 69 = 1 by kernel_rfl] at this
      exact this
    · have this : Dat Tryz.prog m 70 x2 (List.take (Tryz.prog.cellsOf 70) (List.drop 6 [c0, c1, c2, c3, c4, c5, c6])) h := hf 2 _ x2 rfl rfl
      rw [show Tryz.prog.cellsOf 70 = 1 by kernel_rfl] at this
      exact this

theorem bulk_one {H : Type} (d : DataW H) : 1 ≤ Rows.uptoBulk d := by
  cases d with
  | lit l => cases l <;> simp [Rows.uptoBulk]
  | nil => simp [Rows.uptoBulk]
  | ptr d => simp [Rows.uptoBulk]
  | slice elems spare => simp [Rows.uptoBulk]
  | agg parts => simp [Rows.uptoBulk]
  | iface t d => simp [Rows.uptoBulk]
  | map entries => simp [Rows.uptoBulk]
  | held h => simp [Rows.uptoBulk]
theorem bulk_len {H : Type} (l : List (DataW H)) : l.length ≤ Rows.uptoBulkAll l := by
  induction l with
  | nil => simp [Rows.uptoBulkAll]
  | cons x r ih => have := bulk_one x; simp only [Rows.uptoBulkAll, List.length_cons]; omega
theorem bulk_part {H : Type} {d : DataW H} {l : List (DataW H)} (h : d ∈ l) : Rows.uptoBulk d ≤ Rows.uptoBulkAll l := by
  induction l with
  | nil => cases h
  | cons x r ih =>
    simp only [Rows.uptoBulkAll]
    cases List.mem_cons.1 h with
    | inl e => subst e; omega
    | inr e => have := ih e; omega
theorem bulk_agg {H : Type} {d : DataW H} {l : List (DataW H)} (h : d ∈ l) : Rows.uptoBulk d ≤ Rows.uptoBulk (.agg l) := by
  have := bulk_part h
  simp only [Rows.uptoBulk]; omega
theorem rows_bulk {H α : Type} {Q : DataW H → α → Prop} {d : DataW H} {l : List α} (h : (d = .nil ∧ l = []) ∨ ∃ (el sp : List (DataW H)), d = .slice el sp ∧ el.length = l.length ∧ ∀ (i : Nat) x y, el[i]? = some x → l[i]? = some y → Q x y) :
    l.length ≤ Rows.uptoBulk d ∧ ∀ y ∈ l, ∃ x, Q x y ∧ Rows.uptoBulk x ≤ Rows.uptoBulk d := by
  rcases h with ⟨rfl, rfl⟩ | ⟨el, sp, rfl, hl, hq⟩
  · exact ⟨Nat.zero_le _, fun y hy => nomatch hy⟩
  · refine ⟨?_, fun y hy => ?_⟩
    · have := bulk_len el
      simp only [Rows.uptoBulk]; omega
    · obtain ⟨i, hi⟩ := List.mem_iff_getElem?.1 hy
      have hil : i < l.length := (List.getElem?_eq_some_iff.1 hi).1
      obtain ⟨x, hx⟩ : ∃ x, el[i]? = some x := ⟨_, List.getElem?_eq_getElem (by omega)⟩
      refine ⟨x, hq i x y hx hi, ?_⟩
      have := bulk_part (List.mem_of_getElem? hx)
      simp only [Rows.uptoBulk]; omega
theorem small {H : Type} {l : List (DataW H)} (hk : Rows.uptoSmall H (l ++ []) = true) : Rows.uptoBulkAll l ≤ 1048576 := by
  rw [List.append_nil] at hk
  unfold Rows.uptoSmall at hk
  exact of_decide_eq_true hk

theorem ent_dat {H : Type} {n : Nat} {d : DataW H} {cs : List Value} {h : PH} (a : Dat Tryz.prog n 98 d cs h) : ∃ e : E3, EntPE e cs h := by
  obtain ⟨m, x0, x1, x2, c0, c1, c2, rfl, rfl, g0, g1, g2⟩ := st98 a
  obtain ⟨aa, e0⟩ := dat_nat g0 Tryz.underlying23 rfl
  obtain ⟨oo, e1⟩ := dat_nat g1 Tryz.underlying23 rfl
  obtain ⟨nn, e2⟩ := dat_nat g2 Tryz.underlying23 rfl
  simp only [List.cons.injEq, and_true] at e0 e1 e2
  subst e0 e1 e2
  exact ⟨⟨aa, oo, nn⟩, rfl⟩
theorem call_dat {H : Type} {n : Nat} {d : DataW H} {cs : List Value} {h : PH} (a : Dat Tryz.prog n 26 d cs h) : ∃ c : CallS, CallPE c cs h ∧ c.l.length ≤ Rows.uptoBulk d := by
  obtain ⟨m, x0, x1, x2, c0, c1, c2, rfl, rfl, g0, g1, g2⟩ := st26 a
  obtain ⟨m, rfl⟩ := dat_pos g0
  obtain ⟨rd, _, e0⟩ := dat_bool g0 Tryz.underlying4
  obtain ⟨ad, e1⟩ := dat_nat g1 Tryz.underlying23 rfl
  obtain ⟨xl, l, e2, hl, hq⟩ := dat_rows (PE := EntPE) (Q := fun _ _ => True) g2 Tryz.underlying24 (by kernel_rfl) fun x c hx => by
    obtain ⟨e, he⟩ := ent_dat hx
    exact ⟨e, he, trivial⟩
  simp only [List.cons.injEq, and_true] at e0 e1 e2
  subst e0 e1 e2
  refine ⟨⟨rd, ad, l⟩, ⟨_, rfl, hl⟩, ?_⟩
  have h1 := (rows_bulk hq).1
  have h2 : Rows.uptoBulk x2 ≤ Rows.uptoBulk (.agg [x0, x1, x2]) := bulk_agg (by simp)
  show l.length ≤ _
  omega
theorem thr_dat {H : Type} {n : Nat} {d : DataW H} {cs : List Value} {h : PH} (a : Dat Tryz.prog n 69 d cs h) : ∃ (v : Value) (l : List (List CallS)), cs = [v] ∧ ThrR v l h ∧ l.length ≤ Rows.uptoBulk d ∧ ∀ y ∈ l, y.length ≤ Rows.uptoBulk d ∧ ∀ c ∈ y, c.l.length ≤ Rows.uptoBulk d := by
  obtain ⟨n, rfl⟩ := dat_pos a
  obtain ⟨v, l, rfl, h1, h2⟩ := dat_rows (PE := ThrPE) (Q := fun x y => y.length ≤ Rows.uptoBulk x ∧ ∀ c ∈ y, c.l.length ≤ Rows.uptoBulk x) a Tryz.underlying69 (by kernel_rfl) fun x c hx => by
    obtain ⟨m, rfl⟩ := dat_pos hx
    obtain ⟨v, l, rfl, g1, g2⟩ := dat_rows (PE := CallPE) (Q := fun x y => y.l.length ≤ Rows.uptoBulk x) hx Tryz.underlying94 (by kernel_rfl) fun x c hx => call_dat hx
    obtain ⟨k1, k2⟩ := rows_bulk g2
    exact ⟨l, ⟨v, rfl, g1⟩, k1, fun c hc => by obtain ⟨x, q, q2⟩ := k2 c hc; omega⟩
  obtain ⟨k1, k2⟩ := rows_bulk h2
  exact ⟨v, l, rfl, h1, k1, fun y hy => by
    obtain ⟨x, ⟨q, q2⟩, q3⟩ := k2 y hy
    exact ⟨by omega, fun c hc => by have := q2 c hc; omega⟩⟩

set_option maxRecDepth 100000 in
theorem contract (H : Type) (enc : TypeId × Value → H) (W : World) (base : Nat) (args : Array Value) (ds gs : List (DataW H)) (before : List MemPlace)
    (hval : ∀ (j : Nat) t v, Tryz.f4.params[j]? = some t → args[j]? = some v → Value.okWide Tryz.prog W .any base t v)
    (hW : DataW.Whole enc Tryz.prog Tryz.f4.params.toList Rows.multiPlaysSpec.vars false W args.toList ds gs before) (hk : Rows.uptoSmall H (ds ++ gs) = true) :
    Calls Tryz.prog 4 args W fun e W' => ∃ v, e = .returned v ∧ Rows.multiPlaysSpec.post enc Tryz.prog Tryz.f4 false true false false W args v W' := by
  have hW' := hW
  obtain ⟨p, q, hA0, hV, rfl, hfz, hnd⟩ := hW
  have hA : DataW.TrodAll enc Tryz.prog W 0 (fun _ => true) true Tryz.f4.params.toList args.toList ds p := hA0
  rw [Tryz.params4] at hA hval
  have hargs : args = args.toList.toArray := rfl
  obtain ⟨v0, v1, d0, d1, p0, p1, rfl, rfl, rfl, h0, h1⟩ := trodAll_two hA
  obtain ⟨rfl, rfl⟩ := trodVars_none hV
  have hb := small hk
  simp only [Rows.uptoBulkAll] at hb
  have hv0 := hval 0 3 v0 rfl rfl
  obtain ⟨n0, ρ0, K0, cs0, e0, hr0, hro0, s0, lr0, dat0⟩ := arg_dat (m := 8) (by kernel_rfl) hv0 h0 (HR.vac H0 W) RO.empty
  have hv1 := hval 1 72 v1 rfl rfl
  obtain ⟨n1, ρ1, K1, cs1, e1, hr1, hro1, s1, lr1, dat1⟩ := arg_dat (m := 8) (by kernel_rfl) hv1 h1 hr0 hro0
  replace dat0 := dat0.mono (s1)
  replace lr0 := LR.mono (e1) lr0
  obtain ⟨m0, rfl⟩ := dat_pos dat0
  obtain ⟨c, _, rfl, hwf⟩ := dat_int dat0 Tryz.underlying3
  obtain ⟨m1, y0, y1, y2, z0, z1, z2, z3, z4, z5, z6, rfl, rfl, f0, f1, f2⟩ := st72 dat1
  obtain ⟨m2, w0, w1, w2, w3, w4, b0, b1, b2, b3, b4, rfl, e, a0, a1, a2, a3, a4⟩ := st68 f0
  simp only [List.cons.injEq, and_true] at e
  obtain ⟨rfl, rfl, rfl, rfl, rfl⟩ := e
  obtain ⟨n0, u0⟩ := dat_nat a0 Tryz.underlying23 rfl
  obtain ⟨n1, u1⟩ := dat_nat a1 Tryz.underlying23 rfl
  obtain ⟨n2, u2⟩ := dat_nat a2 Tryz.underlying23 rfl
  obtain ⟨n3, u3⟩ := dat_nat a3 Tryz.underlying23 rfl
  obtain ⟨n4, u4⟩ := dat_nat a4 Tryz.underlying23 rfl
  obtain ⟨xv, threads, u5, hT, c1, c2⟩ := thr_dat f1
  obtain ⟨xw, picks, u6, hp, hq⟩ := ints_dat f2 Tryz.underlying70 Tryz.underlying3 (by kernel_rfl)
  simp only [List.cons.injEq, and_true] at u0 u1 u2 u3 u4 u5 u6
  subst u0 u1 u2 u3 u4 u5 u6
  have c3 := (rows_bulk hq).1
  have c4 : Rows.uptoBulk y1 ≤ Rows.uptoBulk (.agg [.agg [w0, w1, w2, w3, w4], y1, y2]) := bulk_agg (by simp)
  have c5 : Rows.uptoBulk y2 ≤ Rows.uptoBulk (.agg [.agg [w0, w1, w2, w3, w4], y1, y2]) := bulk_agg (by simp)
  have hcv : cvOk .i64 c = true := cv_wf hwf
  have hS : Sat [ThrR z5 threads, IntsR z6 picks] K1 := sat_ro hro1 hT (sat_ro hro1 hp trivial)
  refine (ro_ev (con := conKnown (knownOf 17 true)) mixed (conKnown_ok live_known) hr1 hro1 (args := [i64 c, .agg ⟨[u64 n0, u64 n1, u64 n2, u64 n3, u64 n4, z5, z6]⟩]) (LR.toA (.cons (arg_int Tryz.underlying3 hv0 lr0) (.cons (arg_agg Tryz.underlying72 hv1 lr1) .nil)))
    (multiPlays_ok (con_known rfl) (fun H => rfl) hcv hS (by omega) (fun cs hcs => ⟨by have := (c2 cs hcs).1; omega, fun c hc => by have := (c2 cs hcs).2 c hc; omega⟩) (by omega))).mono fun e W' ⟨he, hl⟩ => ?_
  exact ⟨_, he, law_post laid (by kernel_rfl) rfl Tryz.underlying4 rfl ⟨rfl, rfl, rfl⟩ hW' hl⟩

set_option maxRecDepth 100000 in
theorem lifted (os : Os) (started : os.Started) (H : Type) (enc : TypeId × Value → H) (F : Stop.Interp) :
    ReturnsInHanded {} Tryz.checked os 4 .any ((Rows.OpenSpec.upto Rows.multiPlaysSpec).pre6 enc Tryz.prog Tryz.f4 Rows.multiPlaysUptoRow.domain false) (((Rows.OpenSpec.upto Rows.multiPlaysSpec).at F).post enc Tryz.prog Tryz.f4 false true false false) := by
  refine returnsInHanded_of_cond (C := Tryz.checked) (s := Rows.OpenSpec.upto Rows.multiPlaysSpec) (k := Rows.uptoSmall) rfl own started (by kernel_rfl) Tryz.func4
    (OpenSpec.witness (enc := enc) (C := Tryz.checked) (s := Rows.OpenSpec.upto Rows.multiPlaysSpec) (k := Rows.uptoSmall) rfl false ⟨#[], #[.int .i64 0, .agg #[.int .u64 0, .int .u64 0, .int .u64 0, .int .u64 0, .int .u64 0, .slice none 0 0, .slice none 0 0]], []⟩ 8 (by kernel_rfl) (by kernel_rfl) (by kernel_rfl)
      (x := ([.lit (.int .i64 0), .agg [.agg [.lit (.int .u64 0), .lit (.int .u64 0), .lit (.int .u64 0), .lit (.int .u64 0), .lit (.int .u64 0)], .nil, .nil]], [], [])) (by kernel_rfl) rfl (by kernel_rfl)) ?_
  intro W base args ds gs before hval hW _ hk _
  exact contract H enc W base args ds gs before hval hW hk

theorem andT {a b : Bool} (h : a = true) (k : b = true) : (a && b) = true := by rw [h, k]; rfl
theorem fact0 : (Rows.multiPlaysUptoRow.wf (OpenSpec.ofChange (Rows.OpenSpec.upto Rows.multiPlaysSpec).bare)) = true := by kernel_rfl
theorem fact1 : (laidOutB Tryz.prog) = true := by kernel_rfl
theorem fact2 : (mapsRowed Tryz.prog) = true := by kernel_rfl
theorem fact3 : (Tryz.f4.params.all (Tryz.prog.readableRec ·)) = true := by kernel_rfl
theorem fact4 : (namedTie Tryz.prog Rows.multiPlaysUptoRow.named (Rows.OpenSpec.upto Rows.multiPlaysSpec).bare.vars) = true := by kernel_rfl
theorem fact5 : ((Rows.multiPlaysUptoRow.stops == [])) = true := by kernel_rfl
theorem fact6 : ((Tryz.prog.stops == [])) = true := by kernel_rfl
theorem fact7 : ((Rows.multiPlaysUptoRow.knobs == [])) = true := by kernel_rfl
theorem fact8 : ((Tryz.prog.stopKnobs == [])) = true := by kernel_rfl
theorem fact9 : ((Rows.multiPlaysUptoRow.inPlace == Tryz.prog.inPlace 4)) = true := by kernel_rfl
theorem fact10 : ((Rows.multiPlaysUptoRow.unfollowed == Tryz.prog.unfollowed 4)) = true := by kernel_rfl
theorem fact11 : ((Rows.multiPlaysUptoRow.recurses == Tryz.prog.recurses 4)) = true := by kernel_rfl
theorem fact12 : ((Rows.multiPlaysUptoRow.named == Tryz.prog.varsNamed 4)) = true := by kernel_rfl
theorem fact13 : ((Rows.multiPlaysUptoRow.maps == (Tryz.f4.params.toList ++ (Rows.OpenSpec.upto Rows.multiPlaysSpec).bare.plain.varTypes Tryz.prog).any (Tryz.prog.mapsRec ·))) = true := by kernel_rfl
theorem fact14 : ((Rows.multiPlaysUptoRow.ifaces == (Tryz.f4.params.toList ++ (Rows.OpenSpec.upto Rows.multiPlaysSpec).bare.plain.varTypes Tryz.prog).any (Tryz.prog.ifacesRec ·))) = true := by kernel_rfl
theorem fact15 : ((Rows.multiPlaysUptoRow.mapsOut == Tryz.prog.mapsAmong Tryz.f4.resultTypes.toList)) = true := by kernel_rfl
theorem fact16 : ((Rows.multiPlaysUptoRow.loops == (Tryz.f4.params.toList ++ (Rows.OpenSpec.upto Rows.multiPlaysSpec).bare.plain.varTypes Tryz.prog).any (Tryz.prog.loopsFrom ·))) = true := by kernel_rfl
theorem fact17 : ((Rows.multiPlaysUptoRow.wideKeys == (Tryz.f4.params.toList ++ (Rows.OpenSpec.upto Rows.multiPlaysSpec).bare.plain.varTypes Tryz.prog ++ Tryz.f4.resultTypes.toList).any (Tryz.prog.wideKeysFrom ·))) = true := by kernel_rfl
theorem fact18 : ((Rows.OpenSpec.upto Rows.multiPlaysSpec).bare.vars.all (Tryz.prog.varReadable ·)) = true := by kernel_rfl
theorem fact19 : (Tryz.f4.resultTypes.all (fun t => Tryz.prog.readableRec t && decide (t < Tryz.prog.types.size))) = true := by kernel_rfl
theorem fact20 : ((Rows.multiPlaysUptoRow.ifacesOut == Tryz.f4.resultTypes.toList.any (Tryz.prog.ifacesRec ·))) = true := by kernel_rfl
theorem fact21 : ((Rows.multiPlaysUptoRow.loopsOut == Tryz.f4.resultTypes.toList.any (Tryz.prog.loopsFrom ·))) = true := by kernel_rfl
theorem fact22 : ((Rows.multiPlaysUptoRow.plainKeys == Tryz.prog.plainKeys)) = true := by kernel_rfl
theorem fact23 : (Rows.multiPlaysUptoRow.shortTexts.isNone) = true := by kernel_rfl
theorem fact24 : (Tryz.prog.stopsHeard) = true := by kernel_rfl
theorem fact25 : (Tryz.prog.mayEnter) = true := by kernel_rfl
theorem fact26 : ((Rows.multiPlaysUptoRow.lifted == Tryz.prog.liftsFinal)) = true := by kernel_rfl
theorem fact27 : ((Tryz.prog.make == some Rows.multiPlaysUptoRow.make)) = true := by kernel_rfl
theorem fact28 : ((Rows.multiPlaysUptoRow.kinds == (if Rows.multiPlaysUptoRow.domain.isEmpty then [] else Tryz.f4.params.toList.map fun t => match Tryz.prog.underlying t with | some (.int k) => some k | _ => none))) = true := by kernel_rfl
theorem fact29 : ((Rows.multiPlaysUptoRow.pinned == Rows.multiPlaysUptoRow.pinnedBy)) = true := by kernel_rfl
theorem fact30 : ((Rows.multiPlaysUptoRow.veiled == (Tryz.f4.params.toList ++ (Rows.OpenSpec.upto Rows.multiPlaysSpec).bare.plain.varTypes Tryz.prog ++ Tryz.f4.resultTypes.toList).any (Tryz.prog.veiledRec ·))) = true := by kernel_rfl
theorem fact31 : (Rows.multiPlaysUptoRow.veiledFits Tryz.prog Tryz.f4.params.toList (Tryz.f4.params.toList ++ (Rows.OpenSpec.upto Rows.multiPlaysSpec).bare.plain.varTypes Tryz.prog ++ Tryz.f4.resultTypes.toList)) = true := by kernel_rfl
theorem closed : joinedFacts Tryz.prog 4 Tryz.f4 (Rows.OpenSpec.upto Rows.multiPlaysSpec).bare Rows.multiPlaysUptoRow = true := by
  unfold joinedFacts
  exact andT (andT (andT (andT (andT (andT (andT (andT (andT (andT (andT (andT (andT (andT (andT (andT (andT (andT (andT (andT (andT (andT (andT (andT (andT (andT (andT (andT (andT (andT (andT fact0 fact1) fact2) fact3) fact4) fact5) fact6) fact7) fact8) fact9) fact10) fact11) fact12) fact13) fact14) fact15) fact16) fact17) fact18) fact19) fact20) fact21) fact22) fact23) fact24) fact25) fact26) fact27) fact28) fact29) fact30) fact31
theorem proved : Rows.MultiPlaysUptoSaid :=
  OpenClaim.holds_of_cond 4 Tryz.f4 rfl rfl rfl rfl rfl rfl rfl ⟨rfl, rfl, rfl, rfl, rfl⟩ rfl rfl rfl rfl rfl (by kernel_rfl) Tryz.func4 closed
    (of_decide_eq_true (by kernel_rfl)) (by unfold Func.isWrapper; first | (rw [if_pos (by decide +kernel)]; kernel_rfl) | (rw [if_neg (by decide +kernel)]; exact ⟨rfl, rfl⟩))
    (fun os started H enc _ F => lifted os started H enc F)
#print axioms proved
end Go.Proofs.YtnkbmaccgifeoaaGreat.multiPlays
