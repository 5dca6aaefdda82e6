/- MultiAlone returns true for every input whose bulk is at most 1048576, in every world: the statement MultiAloneUptoSaid. No other conditions. -/
import Derived.Test.YtoogdnemkfbgdaaRows
import Derived.Test.YtoogdnemkfbgdaaSp
import Derived.JoinedCond
namespace Go.Proofs.Ytoogdnemkfbgdaa.multiAlone
open Go Go.CM Go.ChangeShapes Go.WideShapes Go.ChangeAt Go.RowKit
set_option maxRecDepth 100000

theorem own : ownKnob Try.prog.godebug = none := by kernel_rfl
theorem laid : laidOutB Try.prog = true := by kernel_rfl
theorem mixed : Try.prog.follows .mixedOrders = true := by kernel_rfl

theorem live_runs : runE Try.prog known0 1000 50 5 = true := by kernel_rfl
theorem live_known : KnownOK Try.prog (knownOf 5 true) := by
  obtain ⟨H, h⟩ := of_runE live_runs
  exact knownOf_ok Try.func5 (by kernel_rfl) (by kernel_rfl) fun w => pure_call mixed known0_ok AR.nil h w
theorem st23 {H : Type} {n : Nat} {d : DataW H} {cs : List Value} {h : PH} (a : Dat Try.prog n 23 d cs h) : ∃ (m : Nat) (x0 x1 x2 x3 x4 : DataW H) (c0 c1 c2 c3 c4 : Value), d = .agg [x0, x1, x2, x3, x4] ∧ cs = [c0, c1, c2, c3, c4] ∧ Dat Try.prog m 22 x0 [c0] h ∧ Dat Try.prog m 22 x1 [c1] h ∧ Dat Try.prog m 22 x2 [c2] h ∧ Dat Try.prog m 22 x3 [c3] h ∧ Dat Try.prog m 22 x4 [c4] h := by
  obtain ⟨m, rfl⟩ := dat_pos a
  obtain ⟨ds, rfl, hl, hcl, hf⟩ := dat_array a Try.underlying23
  rw [show Try.prog.cellsOf 23 = 5 by kernel_rfl] at hcl
  match cs, hcl, ds, hl, hf with
  | [c0, c1, c2, c3, c4], _, [x0, x1, x2, x3, x4], _, hf =>
    refine ⟨m, x0, x1, x2, x3, x4, c0, c1, c2, c3, c4, rfl, rfl, ?_, ?_, ?_, ?_, ?_⟩
    · have this : Dat Try.prog m 22 x0 (List.take (Try.prog.cellsOf 22) (List.drop 0 [c0, c1, c2, c3, c4])) h := hf 0 x0 rfl
      rw [show Try.prog.cellsOf 22 = 1 by kernel_rfl] at this
      exact this
    · have this : Dat Try.prog m 22 x1 (List.take (Try.prog.cellsOf 22) (List.drop 1 [c0, c1, c2, c3, c4])) h := hf 1 x1 rfl
      rw [show Try.prog.cellsOf 22 = 1 by kernel_rfl] at this
      exact this
    · have this : Dat Try.prog m 22 x2 (List.take (Try.prog.cellsOf 22) (List.drop 2 [c0, c1, c2, c3, c4])) h := hf 2 x2 rfl
      rw [show Try.prog.cellsOf 22 = 1 by kernel_rfl] at this
      exact this
    · have this : Dat Try.prog m 22 x3 (List.take (Try.prog.cellsOf 22) (List.drop 3 [c0, c1, c2, c3, c4])) h := hf 3 x3 rfl
      rw [show Try.prog.cellsOf 22 = 1 by kernel_rfl] at this
      exact this
    · have this : Dat Try.prog m 22 x4 (List.take (Try.prog.cellsOf 22) (List.drop 4 [c0, c1, c2, c3, c4])) h := hf 4 x4 rfl
      rw [show Try.prog.cellsOf 22 = 1 by kernel_rfl] at this
      exact this

theorem st75 {H : Type} {n : Nat} {d : DataW H} {cs : List Value} {h : PH} (a : Dat Try.prog n 75 d cs h) : ∃ (m : Nat) (x0 x1 x2 : DataW H) (c0 c1 c2 : Value), d = .agg [x0, x1, x2] ∧ cs = [c0, c1, c2] ∧ Dat Try.prog m 22 x0 [c0] h ∧ Dat Try.prog m 22 x1 [c1] h ∧ Dat Try.prog m 22 x2 [c2] h := by
  obtain ⟨m, rfl⟩ := dat_pos a
  obtain ⟨ds, rfl, hl, hcl, hf⟩ := dat_struct a Try.underlying75
  rw [show Try.prog.cellsOf 75 = 3 by kernel_rfl] at hcl
  match cs, hcl, ds, hl, hf with
  | [c0, c1, c2], _, [x0, x1, x2], _, hf =>
    refine ⟨m, x0, x1, x2, c0, c1, c2, rfl, rfl, ?_, ?_, ?_⟩
    · have this : Dat Try.prog m 22 x0 (List.take (Try.prog.cellsOf 22) (List.drop 0 [c0, c1, c2])) h := hf 0 _ x0 rfl rfl
      rw [show Try.prog.cellsOf 22 = 1 by kernel_rfl] at this
      exact this
    · have this : Dat Try.prog m 22 x1 (List.take (Try.prog.cellsOf 22) (List.drop 1 [c0, c1, c2])) h := hf 1 _ x1 rfl rfl
      rw [show Try.prog.cellsOf 22 = 1 by kernel_rfl] at this
      exact this
    · have this : Dat Try.prog m 22 x2 (List.take (Try.prog.cellsOf 22) (List.drop 2 [c0, c1, c2])) h := hf 2 _ x2 rfl rfl
      rw [show Try.prog.cellsOf 22 = 1 by kernel_rfl] at this
      exact this

theorem st40 {H : Type} {n : Nat} {d : DataW H} {cs : List Value} {h : PH} (a : Dat Try.prog n 40 d cs h) : ∃ (m : Nat) (x0 x1 x2 : DataW H) (c0 c1 c2 : Value), d = .agg [x0, x1, x2] ∧ cs = [c0, c1, c2] ∧ Dat Try.prog m 4 x0 [c0] h ∧ Dat Try.prog m 22 x1 [c1] h ∧ Dat Try.prog m 38 x2 [c2] h := by
  obtain ⟨m, rfl⟩ := dat_pos a
  obtain ⟨ds, rfl, hl, hcl, hf⟩ := dat_struct a Try.underlying40
  rw [show Try.prog.cellsOf 40 = 3 by kernel_rfl] at hcl
  match cs, hcl, ds, hl, hf with
  | [c0, c1, c2], _, [x0, x1, x2], _, hf =>
    refine ⟨m, x0, x1, x2, c0, c1, c2, rfl, rfl, ?_, ?_, ?_⟩
    · have this : Dat Try.prog m 4 x0 (List.take (Try.prog.cellsOf 4) (List.drop 0 [c0, c1, c2])) h := hf 0 _ x0 rfl rfl
      rw [show Try.prog.cellsOf 4 = 1 by kernel_rfl] at this
      exact this
    · have this : Dat Try.prog m 22 x1 (List.take (Try.prog.cellsOf 22) (List.drop 1 [c0, c1, c2])) h := hf 1 _ x1 rfl rfl
      rw [show Try.prog.cellsOf 22 = 1 by kernel_rfl] at this
      exact this
    · have this : Dat Try.prog m 38 x2 (List.take (Try.prog.cellsOf 38) (List.drop 2 [c0, c1, c2])) h := hf 2 _ x2 rfl rfl
      rw [show Try.prog.cellsOf 38 = 1 by kernel_rfl] at this
      exact this

theorem st27 {H : Type} {n : Nat} {d : DataW H} {cs : List Value} {h : PH} (a : Dat Try.prog n 27 d cs h) : ∃ (m : Nat) (x0 x1 x2 : DataW H) (c0 c1 c2 c3 c4 c5 c6 : Value), d = .agg [x0, x1, x2] ∧ cs = [c0, c1, c2, c3, c4, c5, c6] ∧ Dat Try.prog m 23 x0 [c0, c1, c2, c3, c4] h ∧ Dat Try.prog m 24 x1 [c5] h ∧ Dat Try.prog m 25 x2 [c6] h := by
  obtain ⟨m, rfl⟩ := dat_pos a
  obtain ⟨ds, rfl, hl, hcl, hf⟩ := dat_struct a Try.underlying27
  rw [show Try.prog.cellsOf 27 = 7 by kernel_rfl] at hcl
  match cs, hcl, ds, hl, hf with
  | [c0, c1, c2, c3, c4, c5, c6], _, [x0, x1, x2], _, hf =>
    refine ⟨m, x0, x1, x2, c0, c1, c2, c3, c4, c5, c6, rfl, rfl, ?_, ?_, ?_⟩
    · have this : Dat Try.prog m 23 x0 (List.take (Try.prog.cellsOf 23) (List.drop 0 [c0, c1, c2, c3, c4, c5, c6])) h := hf 0 _ x0 rfl rfl
      rw [show Try.prog.cellsOf 23 = 5 by kernel_rfl] at this
      exact this
    · have this : Dat Try.prog m 24 x1 (List.take (Try.prog.cellsOf 24) (List.drop 5 [c0, c1, c2, c3, c4, c5, c6])) h := hf 1 _ x1 rfl rfl
      rw [show Try.prog.cellsOf 24 = 1 by kernel_rfl] at this
      exact this
    · have this : Dat Try.prog m 25 x2 (List.take (Try.prog.cellsOf 25) (List.drop 6 [c0, c1, c2, c3, c4, c5, c6])) h := hf 2 _ x2 rfl rfl
      rw [show Try.prog.cellsOf 25 = 1 by kernel_rfl] at this
      exact this

theorem bulk_one {H : Type} (d : DataW H) : 1 ≤ Rows.uptoBulk d := by
  cases d with
  | lit l => cases l <;> simp [Rows.uptoBulk]
  | nil => simp [Rows.uptoBulk]
  | ptr d => simp [Rows.uptoBulk]
  | slice elems spare => simp [Rows.uptoBulk]
  | agg parts => simp [Rows.uptoBulk]
  | iface t d => simp [Rows.uptoBulk]
  | map entries => simp [Rows.uptoBulk]
  | held h => simp [Rows.uptoBulk]
theorem bulk_len {H : Type} (l : List (DataW H)) : l.length ≤ Rows.uptoBulkAll l := by
  induction l with
  | nil => simp [Rows.uptoBulkAll]
  | cons x r ih => have := bulk_one x; simp only [Rows.uptoBulkAll, List.length_cons]; omega
theorem bulk_part {H : Type} {d : DataW H} {l : List (DataW H)} (h : d ∈ l) : Rows.uptoBulk d ≤ Rows.uptoBulkAll l := by
  induction l with
  | nil => cases h
  | cons x r ih =>
    simp only [Rows.uptoBulkAll]
    cases List.mem_cons.1 h with
    | inl e => subst e; omega
    | inr e => have := ih e; omega
theorem bulk_agg {H : Type} {d : DataW H} {l : List (DataW H)} (h : d ∈ l) : Rows.uptoBulk d ≤ Rows.uptoBulk (.agg l) := by
  have := bulk_part h
  simp only [Rows.uptoBulk]; omega
theorem rows_bulk {H α : Type} {Q : DataW H → α → Prop} {d : DataW H} {l : List α} (h : (d = .nil ∧ l = []) ∨ ∃ (el sp : List (DataW H)), d = .slice el sp ∧ el.length = l.length ∧ ∀ (i : Nat) x y, el[i]? = some x → l[i]? = some y → Q x y) :
    l.length ≤ Rows.uptoBulk d ∧ ∀ y ∈ l, ∃ x, Q x y ∧ Rows.uptoBulk x ≤ Rows.uptoBulk d := by
  rcases h with ⟨rfl, rfl⟩ | ⟨el, sp, rfl, hl, hq⟩
  · exact ⟨Nat.zero_le _, fun y hy => nomatch hy⟩
  · refine ⟨?_, fun y hy => ?_⟩
    · have := bulk_len el
      simp only [Rows.uptoBulk]; omega
    · obtain ⟨i, hi⟩ := List.mem_iff_getElem?.1 hy
      have hil : i < l.length := (List.getElem?_eq_some_iff.1 hi).1
      obtain ⟨x, hx⟩ : ∃ x, el[i]? = some x := ⟨_, List.getElem?_eq_getElem (by omega)⟩
      refine ⟨x, hq i x y hx hi, ?_⟩
      have := bulk_part (List.mem_of_getElem? hx)
      simp only [Rows.uptoBulk]; omega
theorem small {H : Type} {l : List (DataW H)} (hk : Rows.uptoSmall H (l ++ []) = true) : Rows.uptoBulkAll l ≤ 1048576 := by
  rw [List.append_nil] at hk
  unfold Rows.uptoSmall at hk
  exact of_decide_eq_true hk

theorem ent_dat {H : Type} {n : Nat} {d : DataW H} {cs : List Value} {h : PH} (a : Dat Try.prog n 75 d cs h) : ∃ e : E3, EntPE e cs h := by
  obtain ⟨m, x0, x1, x2, c0, c1, c2, rfl, rfl, g0, g1, g2⟩ := st75 a
  obtain ⟨aa, e0⟩ := dat_nat g0 Try.underlying22 rfl
  obtain ⟨oo, e1⟩ := dat_nat g1 Try.underlying22 rfl
  obtain ⟨nn, e2⟩ := dat_nat g2 Try.underlying22 rfl
  simp only [List.cons.injEq, and_true] at e0 e1 e2
  subst e0 e1 e2
  exact ⟨⟨aa, oo, nn⟩, rfl⟩
theorem call_dat {H : Type} {n : Nat} {d : DataW H} {cs : List Value} {h : PH} (a : Dat Try.prog n 40 d cs h) : ∃ c : CallS, CallPE c cs h ∧ c.l.length ≤ Rows.uptoBulk d := by
  obtain ⟨m, x0, x1, x2, c0, c1, c2, rfl, rfl, g0, g1, g2⟩ := st40 a
  obtain ⟨m, rfl⟩ := dat_pos g0
  obtain ⟨rd, _, e0⟩ := dat_bool g0 Try.underlying4
  obtain ⟨ad, e1⟩ := dat_nat g1 Try.underlying22 rfl
  obtain ⟨xl, l, e2, hl, hq⟩ := dat_rows (PE := EntPE) (Q := fun _ _ => True) g2 Try.underlying38 (by kernel_rfl) fun x c hx => by
    obtain ⟨e, he⟩ := ent_dat hx
    exact ⟨e, he, trivial⟩
  simp only [List.cons.injEq, and_true] at e0 e1 e2
  subst e0 e1 e2
  refine ⟨⟨rd, ad, l⟩, ⟨_, rfl, hl⟩, ?_⟩
  have h1 := (rows_bulk hq).1
  have h2 : Rows.uptoBulk x2 ≤ Rows.uptoBulk (.agg [x0, x1, x2]) := bulk_agg (by simp)
  show l.length ≤ _
  omega
theorem sum_all {H : Type} {α : Type} : ∀ {el : List (DataW H)} {l : List (List α)}, el.length = l.length → (∀ (i : Nat) (x : DataW H) (y : List α), el[i]? = some x → l[i]? = some y → y.length ≤ Rows.uptoBulk x) → (l.map List.length).sum ≤ Rows.uptoBulkAll el
  | [], [], _, _ => Nat.zero_le _
  | [], y :: l, h, _ => nomatch h
  | x :: el, [], h, _ => nomatch h
  | x :: el, y :: l, h, hq => by
    have h1 := hq 0 x y rfl rfl
    have h2 := sum_all (el := el) (l := l) (by simpa using h) fun i a b ha hb => hq (i + 1) a b (by simpa using ha) (by simpa using hb)
    simp only [Rows.uptoBulkAll, List.map_cons, List.sum_cons]
    omega
theorem thr_sum {H : Type} {n : Nat} {d : DataW H} {cs : List Value} {h : PH} (a : Dat Try.prog n 24 d cs h) : ∃ (v : Value) (l : List (List CallS)), cs = [v] ∧ ThrR v l h ∧ l.length ≤ Rows.uptoBulk d ∧ (l.map List.length).sum ≤ Rows.uptoBulk d ∧ ∀ y ∈ l, y.length ≤ Rows.uptoBulk d ∧ ∀ c ∈ y, c.l.length ≤ Rows.uptoBulk d := by
  obtain ⟨n, rfl⟩ := dat_pos a
  obtain ⟨v, l, rfl, h1, h2⟩ := dat_rows (PE := ThrPE) (Q := fun x y => y.length ≤ Rows.uptoBulk x ∧ ∀ c ∈ y, c.l.length ≤ Rows.uptoBulk x) a Try.underlying24 (by kernel_rfl) fun x c hx => by
    obtain ⟨m, rfl⟩ := dat_pos hx
    obtain ⟨v, l, rfl, g1, g2⟩ := dat_rows (PE := CallPE) (Q := fun x y => y.l.length ≤ Rows.uptoBulk x) hx Try.underlying37 (by kernel_rfl) fun x c hx => call_dat hx
    obtain ⟨k1, k2⟩ := rows_bulk g2
    exact ⟨l, ⟨v, rfl, g1⟩, k1, fun c hc => by obtain ⟨x, q, q2⟩ := k2 c hc; omega⟩
  obtain ⟨k1, k2⟩ := rows_bulk h2
  refine ⟨v, l, rfl, h1, k1, ?_, fun y hy => by
    obtain ⟨x, ⟨q, q2⟩, q3⟩ := k2 y hy
    exact ⟨by omega, fun c hc => by have := q2 c hc; omega⟩⟩
  rcases h2 with ⟨rfl, rfl⟩ | ⟨el, sp, rfl, hl, hq⟩
  · exact Nat.zero_le _
  · have := sum_all (el := el) (l := l) hl fun i x y hx hy => (hq i x y hx hy).1
    simp only [Rows.uptoBulk]
    omega

set_option maxRecDepth 100000 in
theorem contract (H : Type) (enc : TypeId × Value → H) (W : World) (base : Nat) (args : Array Value) (ds gs : List (DataW H)) (before : List MemPlace)
    (hval : ∀ (j : Nat) t v, Try.f3.params[j]? = some t → args[j]? = some v → Value.okWide Try.prog W .any base t v)
    (hW : DataW.Whole enc Try.prog Try.f3.params.toList Rows.multiAloneSpec.vars false W args.toList ds gs before) (hk : Rows.uptoSmall H (ds ++ gs) = true) :
    Calls Try.prog 3 args W fun e W' => ∃ v, e = .returned v ∧ Rows.multiAloneSpec.post enc Try.prog Try.f3 false true false false W args v W' := by
  have hW' := hW
  obtain ⟨p, q, hA0, hV, rfl, hfz, hnd⟩ := hW
  have hA : DataW.TrodAll enc Try.prog W 0 (fun _ => true) true Try.f3.params.toList args.toList ds p := hA0
  rw [Try.params3] at hA hval
  have hargs : args = args.toList.toArray := rfl
  obtain ⟨v0, v1, d0, d1, p0, p1, rfl, rfl, rfl, h0, h1⟩ := trodAll_two hA
  obtain ⟨rfl, rfl⟩ := trodVars_none hV
  have hb := small hk
  simp only [Rows.uptoBulkAll] at hb
  have hv0 := hval 0 3 v0 rfl rfl
  obtain ⟨n0, ρ0, K0, cs0, e0, hr0, hro0, s0, lr0, dat0⟩ := arg_dat (m := 8) (by kernel_rfl) hv0 h0 (HR.vac H0 W) RO.empty
  have hv1 := hval 1 27 v1 rfl rfl
  obtain ⟨n1, ρ1, K1, cs1, e1, hr1, hro1, s1, lr1, dat1⟩ := arg_dat (m := 8) (by kernel_rfl) hv1 h1 hr0 hro0
  replace dat0 := dat0.mono (s1)
  replace lr0 := LR.mono (e1) lr0
  obtain ⟨m0, rfl⟩ := dat_pos dat0
  obtain ⟨c, _, rfl, hwf⟩ := dat_int dat0 Try.underlying3
  obtain ⟨m1, y0, y1, y2, z0, z1, z2, z3, z4, z5, z6, rfl, rfl, f0, f1, f2⟩ := st27 dat1
  obtain ⟨m2, w0, w1, w2, w3, w4, b0, b1, b2, b3, b4, rfl, e, a0, a1, a2, a3, a4⟩ := st23 f0
  simp only [List.cons.injEq, and_true] at e
  obtain ⟨rfl, rfl, rfl, rfl, rfl⟩ := e
  obtain ⟨n0, u0⟩ := dat_nat a0 Try.underlying22 rfl
  obtain ⟨n1, u1⟩ := dat_nat a1 Try.underlying22 rfl
  obtain ⟨n2, u2⟩ := dat_nat a2 Try.underlying22 rfl
  obtain ⟨n3, u3⟩ := dat_nat a3 Try.underlying22 rfl
  obtain ⟨n4, u4⟩ := dat_nat a4 Try.underlying22 rfl
  obtain ⟨xv, threads, u5, hT, c1, c0, c2⟩ := thr_sum f1
  obtain ⟨xw, picks, u6, hp, hq⟩ := ints_dat f2 Try.underlying25 Try.underlying3 (by kernel_rfl)
  simp only [List.cons.injEq, and_true] at u0 u1 u2 u3 u4 u5 u6
  subst u0 u1 u2 u3 u4 u5 u6
  have c3 := (rows_bulk hq).1
  have c4 : Rows.uptoBulk y1 ≤ Rows.uptoBulk (.agg [.agg [w0, w1, w2, w3, w4], y1, y2]) := bulk_agg (by simp)
  have c5 : Rows.uptoBulk y2 ≤ Rows.uptoBulk (.agg [.agg [w0, w1, w2, w3, w4], y1, y2]) := bulk_agg (by simp)
  have hcv : cvOk .i64 c = true := cv_wf hwf
  have hS : Sat [ThrR z5 threads] K1 := sat_ro hro1 hT trivial
  have hcx : isCell z6 = true := by obtain ⟨pz, cz, ez⟩ := RowsR.len hp; rw [ez]; rfl
  refine (ro_ev (con := conKnown (knownOf 5 true)) mixed (conKnown_ok live_known) hr1 hro1 (args := [i64 c, .agg ⟨[u64 n0, u64 n1, u64 n2, u64 n3, u64 n4, z5, z6]⟩]) (LR.toA (.cons (arg_int Try.underlying3 hv0 lr0) (.cons (arg_agg Try.underlying27 hv1 lr1) .nil)))
    (multiAlone_ok (con_known rfl) (fun H => rfl) hcv hcx hS (by omega) (fun cs hcs => ⟨by have := (c2 cs hcs).1; omega, fun c hc => by have := (c2 cs hcs).2 c hc; omega⟩) (by omega))).mono fun e W' ⟨he, hl⟩ => ?_
  exact ⟨_, he, law_post laid (by kernel_rfl) rfl Try.underlying4 rfl ⟨rfl, rfl, rfl⟩ hW' hl⟩

set_option maxRecDepth 100000 in
theorem lifted (os : Os) (started : os.Started) (H : Type) (enc : TypeId × Value → H) (F : Stop.Interp) :
    ReturnsInHanded {} Try.checked os 3 .any ((Rows.OpenSpec.upto Rows.multiAloneSpec).pre6 enc Try.prog Try.f3 Rows.multiAloneUptoRow.domain false) (((Rows.OpenSpec.upto Rows.multiAloneSpec).at F).post enc Try.prog Try.f3 false true false false) := by
  refine returnsInHanded_of_cond (C := Try.checked) (s := Rows.OpenSpec.upto Rows.multiAloneSpec) (k := Rows.uptoSmall) rfl own started (by kernel_rfl) Try.func3
    (OpenSpec.witness (enc := enc) (C := Try.checked) (s := Rows.OpenSpec.upto Rows.multiAloneSpec) (k := Rows.uptoSmall) rfl false ⟨#[], #[.int .i64 0, .agg #[.int .u64 0, .int .u64 0, .int .u64 0, .int .u64 0, .int .u64 0, .slice none 0 0, .slice none 0 0]], []⟩ 8 (by kernel_rfl) (by kernel_rfl) (by kernel_rfl)
      (x := ([.lit (.int .i64 0), .agg [.agg [.lit (.int .u64 0), .lit (.int .u64 0), .lit (.int .u64 0), .lit (.int .u64 0), .lit (.int .u64 0)], .nil, .nil]], [], [])) (by kernel_rfl) rfl (by kernel_rfl)) ?_
  intro W base args ds gs before hval hW _ hk _
  exact contract H enc W base args ds gs before hval hW hk

theorem andT {a b : Bool} (h : a = true) (k : b = true) : (a && b) = true := by rw [h, k]; rfl
theorem fact0 : (Rows.multiAloneUptoRow.wf (OpenSpec.ofChange (Rows.OpenSpec.upto Rows.multiAloneSpec).bare)) = true := by kernel_rfl
theorem fact1 : (laidOutB Try.prog) = true := by kernel_rfl
theorem fact2 : (mapsRowed Try.prog) = true := by kernel_rfl
theorem fact3 : (Try.f3.params.all (Try.prog.readableRec ·)) = true := by kernel_rfl
theorem fact4 : (namedTie Try.prog Rows.multiAloneUptoRow.named (Rows.OpenSpec.upto Rows.multiAloneSpec).bare.vars) = true := by kernel_rfl
theorem fact5 : ((Rows.multiAloneUptoRow.stops == [])) = true := by kernel_rfl
theorem fact6 : ((Try.prog.stops == [])) = true := by kernel_rfl
theorem fact7 : ((Rows.multiAloneUptoRow.knobs == [])) = true := by kernel_rfl
theorem fact8 : ((Try.prog.stopKnobs == [])) = true := by kernel_rfl
theorem fact9 : ((Rows.multiAloneUptoRow.inPlace == Try.prog.inPlace 3)) = true := by kernel_rfl
theorem fact10 : ((Rows.multiAloneUptoRow.unfollowed == Try.prog.unfollowed 3)) = true := by kernel_rfl
theorem fact11 : ((Rows.multiAloneUptoRow.recurses == Try.prog.recurses 3)) = true := by kernel_rfl
theorem fact12 : ((Rows.multiAloneUptoRow.named == Try.prog.varsNamed 3)) = true := by kernel_rfl
theorem fact13 : ((Rows.multiAloneUptoRow.maps == (Try.f3.params.toList ++ (Rows.OpenSpec.upto Rows.multiAloneSpec).bare.plain.varTypes Try.prog).any (Try.prog.mapsRec ·))) = true := by kernel_rfl
theorem fact14 : ((Rows.multiAloneUptoRow.ifaces == (Try.f3.params.toList ++ (Rows.OpenSpec.upto Rows.multiAloneSpec).bare.plain.varTypes Try.prog).any (Try.prog.ifacesRec ·))) = true := by kernel_rfl
theorem fact15 : ((Rows.multiAloneUptoRow.mapsOut == Try.prog.mapsAmong Try.f3.resultTypes.toList)) = true := by kernel_rfl
theorem fact16 : ((Rows.multiAloneUptoRow.loops == (Try.f3.params.toList ++ (Rows.OpenSpec.upto Rows.multiAloneSpec).bare.plain.varTypes Try.prog).any (Try.prog.loopsFrom ·))) = true := by kernel_rfl
theorem fact17 : ((Rows.multiAloneUptoRow.wideKeys == (Try.f3.params.toList ++ (Rows.OpenSpec.upto Rows.multiAloneSpec).bare.plain.varTypes Try.prog ++ Try.f3.resultTypes.toList).any (Try.prog.wideKeysFrom ·))) = true := by kernel_rfl
theorem fact18 : ((Rows.OpenSpec.upto Rows.multiAloneSpec).bare.vars.all (Try.prog.varReadable ·)) = true := by kernel_rfl
theorem fact19 : (Try.f3.resultTypes.all (fun t => Try.prog.readableRec t && decide (t < Try.prog.types.size))) = true := by kernel_rfl
theorem fact20 : ((Rows.multiAloneUptoRow.ifacesOut == Try.f3.resultTypes.toList.any (Try.prog.ifacesRec ·))) = true := by kernel_rfl
theorem fact21 : ((Rows.multiAloneUptoRow.loopsOut == Try.f3.resultTypes.toList.any (Try.prog.loopsFrom ·))) = true := by kernel_rfl
theorem fact22 : ((Rows.multiAloneUptoRow.plainKeys == Try.prog.plainKeys)) = true := by kernel_rfl
theorem fact23 : (Rows.multiAloneUptoRow.shortTexts.isNone) = true := by kernel_rfl
theorem fact24 : (Try.prog.stopsHeard) = true := by kernel_rfl
theorem fact25 : (Try.prog.mayEnter) = true := by kernel_rfl
theorem fact26 : ((Rows.multiAloneUptoRow.lifted == Try.prog.liftsFinal)) = true := by kernel_rfl
theorem fact27 : ((Try.prog.make == some Rows.multiAloneUptoRow.make)) = true := by kernel_rfl
theorem fact28 : ((Rows.multiAloneUptoRow.kinds == (if Rows.multiAloneUptoRow.domain.isEmpty then [] else Try.f3.params.toList.map fun t => match Try.prog.underlying t with | some (.int k) => some k | _ => none))) = true := by kernel_rfl
theorem fact29 : ((Rows.multiAloneUptoRow.pinned == Rows.multiAloneUptoRow.pinnedBy)) = true := by kernel_rfl
theorem fact30 : ((Rows.multiAloneUptoRow.veiled == (Try.f3.params.toList ++ (Rows.OpenSpec.upto Rows.multiAloneSpec).bare.plain.varTypes Try.prog ++ Try.f3.resultTypes.toList).any (Try.prog.veiledRec ·))) = true := by kernel_rfl
theorem fact31 : (Rows.multiAloneUptoRow.veiledFits Try.prog Try.f3.params.toList (Try.f3.params.toList ++ (Rows.OpenSpec.upto Rows.multiAloneSpec).bare.plain.varTypes Try.prog ++ Try.f3.resultTypes.toList)) = true := by kernel_rfl
theorem closed : joinedFacts Try.prog 3 Try.f3 (Rows.OpenSpec.upto Rows.multiAloneSpec).bare Rows.multiAloneUptoRow = true := by
  unfold joinedFacts
  exact andT (andT (andT (andT (andT (andT (andT (andT (andT (andT (andT (andT (andT (andT (andT (andT (andT (andT (andT (andT (andT (andT (andT (andT (andT (andT (andT (andT (andT (andT (andT fact0 fact1) fact2) fact3) fact4) fact5) fact6) fact7) fact8) fact9) fact10) fact11) fact12) fact13) fact14) fact15) fact16) fact17) fact18) fact19) fact20) fact21) fact22) fact23) fact24) fact25) fact26) fact27) fact28) fact29) fact30) fact31
theorem proved : Rows.MultiAloneUptoSaid :=
  OpenClaim.holds_of_cond 3 Try.f3 rfl rfl rfl rfl rfl rfl rfl ⟨rfl, rfl, rfl, rfl, rfl⟩ rfl rfl rfl rfl rfl (by kernel_rfl) Try.func3 closed
    (of_decide_eq_true (by kernel_rfl)) (by unfold Func.isWrapper; first | (rw [if_pos (by decide +kernel)]; kernel_rfl) | (rw [if_neg (by decide +kernel)]; exact ⟨rfl, rfl⟩))
    (fun os started H enc _ F => lifted os started H enc F)
#print axioms proved
end Go.Proofs.Ytoogdnemkfbgdaa.multiAlone
