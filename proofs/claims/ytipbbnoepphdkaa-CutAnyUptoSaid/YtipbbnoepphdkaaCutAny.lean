/- CutAny returns true for every input whose bulk is at most 1048576, in every world: the statement CutAnyUptoSaid. No other conditions. -/
import Derived.Test.YtipbbnoepphdkaaRows
import Derived.Test.YtipbbnoepphdkaaSp
import Derived.JoinedCond
namespace Go.Proofs.Ytipbbnoepphdkaa.cutAny
open Go Go.CM Go.ChangeShapes Go.WideShapes Go.ChangeAt Go.RowKit

theorem own : ownKnob Try.prog.godebug = none := by kernel_rfl
theorem laid : laidOutB Try.prog = true := by kernel_rfl
theorem mixed : Try.prog.follows .mixedOrders = true := by kernel_rfl

theorem live_runs : runF Try.prog known0 [] 1000 50 11 #[] H0 = true := by kernel_rfl
theorem live_known : KnownOK Try.prog (knownOf 11 true) := by
  obtain ⟨H, h⟩ := of_runF live_runs
  exact knownOf_ok Try.func11 (by kernel_rfl) (by kernel_rfl) fun w => pure_call mixed known0_ok AR.nil h w

/-- A slice of numbers that came in: none, or a row of a million at most. -/
def In (w : World) (v : Value) : Prop := v = .slice none 0 0 ∨ ∃ (a : Addr) (len cap : Nat) (f : Nat → Nat) (te : TypeId), v = .slice (some a) len cap ∧ RowIn w .u64 a len cap f te ∧ len ≤ 1000000000

theorem walk (obj fl : Nat) (w : World) (v0 v1 : Value) (h0 : In w v0) (h1 : In w v1) :
    Calls Try.prog 5 #[v0, .int .u64 (Int.ofNat obj), .agg #[.int .u64 (Int.ofNat fl), v1]] w fun e w' => e = .returned (.bool true) ∧ Less w w' := by
  obtain ⟨ρ1, H1, x0, l0, A0, _, hr1, hro1, hv0, hs1, hn0, hl0⟩ := sat_arg sat_empty (HR.vac H0 w) RO.empty h0
  obtain ⟨ρ2, H2, x1, l1, A1, hext, hr2, hro2, hv1, hs2, hn1, hl1⟩ := sat_arg hs1 hr1 hro1 h1
  refine ro_ev (con := conKnown (knownOf 11 true)) mixed (conKnown_ok live_known) hr2 hro2 (args := [x0, u64 obj, .agg ⟨[u64 fl, x1]⟩]) ?_
    (cutAny_ok (con_known rfl) (fun H => rfl) hs2 (Has.skip hn0) hn1 hl0 hl1)
  exact LR.toA (.cons (hv0.ext hext) (.cons (.int _ _) (.cons (.aggA (LR.toA (.cons (.int _ _) (.cons hv1 .nil)))) .nil)))

theorem bulk_one {H : Type} (d : DataW H) : 1 ≤ Rows.uptoBulk d := by
  cases d with
  | lit l => cases l <;> simp [Rows.uptoBulk]
  | nil => simp [Rows.uptoBulk]
  | ptr d => simp [Rows.uptoBulk]
  | slice elems spare => simp [Rows.uptoBulk]
  | agg parts => simp [Rows.uptoBulk]
  | iface t d => simp [Rows.uptoBulk]
  | map entries => simp [Rows.uptoBulk]
  | held h => simp [Rows.uptoBulk]
theorem bulk_len {H : Type} (l : List (DataW H)) : l.length ≤ Rows.uptoBulkAll l := by
  induction l with
  | nil => simp [Rows.uptoBulkAll]
  | cons x r ih => have := bulk_one x; simp only [Rows.uptoBulkAll, List.length_cons]; omega
theorem bulk_slice {H : Type} (el sp : List (DataW H)) : el.length ≤ Rows.uptoBulk (.slice el sp) := by
  have := bulk_len el
  simp only [Rows.uptoBulk]; omega

theorem bulk_part {H : Type} {d : DataW H} {l : List (DataW H)} (h : d ∈ l) : Rows.uptoBulk d ≤ Rows.uptoBulkAll l := by
  induction l with
  | nil => cases h
  | cons x r ih =>
    simp only [Rows.uptoBulkAll]
    cases List.mem_cons.1 h with
    | inl e => subst e; omega
    | inr e => have := ih e; omega

theorem small {H : Type} {l : List (DataW H)} (hk : Rows.uptoSmall H l = true) : Rows.uptoBulkAll l ≤ 1048576 := by
  unfold Rows.uptoSmall at hk
  exact of_decide_eq_true hk
theorem small3 {H : Type} {a b c : DataW H} (hk : Rows.uptoSmall H ([a, b, c] ++ []) = true) : Rows.uptoBulk a + (Rows.uptoBulk b + (Rows.uptoBulk c + 0)) ≤ 1048576 := by
  have h := small hk
  simpa only [List.append_nil, Rows.uptoBulkAll] using h
set_option maxRecDepth 100000 in
theorem contract (H : Type) (enc : TypeId × Value → H) (W : World) (base : Nat) (args : Array Value) (ds gs : List (DataW H)) (before : List MemPlace)
    (hval : ∀ (j : Nat) t v, Try.f5.params[j]? = some t → args[j]? = some v → Value.okWide Try.prog W .any base t v)
    (hW : DataW.Whole enc Try.prog Try.f5.params.toList Rows.cutAnySpec.vars false W args.toList ds gs before) (hk : Rows.uptoSmall H (ds ++ gs) = true) :
    Calls Try.prog 5 args W fun e W' => ∃ v, e = .returned v ∧ Rows.cutAnySpec.post enc Try.prog Try.f5 false true false false W args v W' := by
  have hW' := hW
  obtain ⟨p, q, hA0, hV, rfl, hfz, hnd⟩ := hW
  have hA : DataW.TrodAll enc Try.prog W 0 (fun _ => true) true Try.f5.params.toList args.toList ds p := hA0
  rw [Try.params5] at hA hval
  have hargs : args = args.toList.toArray := rfl
  obtain ⟨v0, v1, v2, d0, d1, d2, p0, p1, p2, rfl, rfl, rfl, h0, h1, h2⟩ := trodAll_three hA
  obtain ⟨rfl, rfl⟩ := trodVars_none hV
  have hb : Rows.uptoBulk d0 + (Rows.uptoBulk d1 + (Rows.uptoBulk d2 + 0)) ≤ 1048576 := small3 hk
  have i0 : In W v0 := by
    rcases arg_natsD Try.underlying23 Try.underlying22 (by kernel_rfl) rfl (hval 0 23 v0 rfl rfl) h0 with h | ⟨a, len, cap, f, te, e1, e2, el, sp, e3, e4⟩
    · exact .inl h
    · refine .inr ⟨a, len, cap, f, te, e1, e2, ?_⟩
      have := bulk_slice el sp
      rw [← e3, e4] at this
      omega
  obtain ⟨is, rfl, rfl, rfl, ws⟩ := open_int Try.underlying22 (hval 1 22 v1 rfl rfl) h1
  obtain ⟨obj, rfl, lobj⟩ := nat_of_wf rfl ws
  obtain ⟨l0, rfl, c0⟩ := arg_leaves (ks := [22, 23]) (n := 8) Try.underlying25 (by kernel_rfl) (by kernel_rfl) (hval 2 25 v2 rfl rfl) h2
  obtain ⟨x0, l1, rfl, e0, c1⟩ := Rows2.cons c0
  obtain ⟨x1, l2, rfl, e1, c2⟩ := Rows2.cons c1
  obtain rfl := Rows2.nil c2
  obtain ⟨fl, rfl, lfl⟩ := e0.nat Try.underlying22 rfl
  have i1 : In W x1 := by
    obtain ⟨fuel, hf⟩ := h2
    obtain ⟨xs, n, _, hx, _, hxl, hfs⟩ := DataW.trod_struct Try.underlying25 hf
    have hx1 := hfs 1 _ rfl
    cases hy : xs[1]? with
    | none => rw [List.getElem?_eq_none_iff] at hy; rw [hxl] at hy; exact absurd hy (by decide)
    | some y =>
      rw [hy] at hx1
      rcases open_natsD (x := y) Try.underlying23 Try.underlying22 (by kernel_rfl) rfl e1.2 hx1 with h | ⟨a, len, cap, f, te, e1, e2, el, sp, e3, e4⟩
      · exact .inl h
      · refine .inr ⟨a, len, cap, f, te, e1, e2, ?_⟩
        have hm : y.1 ∈ xs.map (·.1) := List.mem_map.2 ⟨y, List.mem_of_getElem? hy, rfl⟩
        have h3 := bulk_part hm
        have h4 : d2 = .agg (xs.map (·.1)) := congrArg Prod.fst hx
        rw [h4] at hb
        simp only [Rows.uptoBulk] at hb
        have h5 := bulk_slice el sp
        rw [← e3, e4] at h5
        omega
  refine (walk obj fl W v0 x1 i0 i1).mono fun e W' ⟨he, hl⟩ => ?_
  exact ⟨_, he, law_post laid (by kernel_rfl) rfl Try.underlying4 rfl ⟨rfl, rfl, rfl⟩ hW' hl⟩

set_option maxRecDepth 100000 in
theorem lifted (os : Os) (started : os.Started) (H : Type) (enc : TypeId × Value → H) (F : Stop.Interp) :
    ReturnsInHanded {} Try.checked os 5 .any ((Rows.OpenSpec.upto Rows.cutAnySpec).pre6 enc Try.prog Try.f5 Rows.cutAnyUptoRow.domain false) (((Rows.OpenSpec.upto Rows.cutAnySpec).at F).post enc Try.prog Try.f5 false true false false) := by
  refine returnsInHanded_of_cond (C := Try.checked) (s := Rows.OpenSpec.upto Rows.cutAnySpec) (k := Rows.uptoSmall) rfl own started (by kernel_rfl) Try.func5
    (OpenSpec.witness (enc := enc) (C := Try.checked) (s := Rows.OpenSpec.upto Rows.cutAnySpec) (k := Rows.uptoSmall) rfl false ⟨#[], #[.slice none 0 0, .int .u64 0, .agg #[.int .u64 0, .slice none 0 0]], []⟩ 8 (by kernel_rfl) (by kernel_rfl) (by kernel_rfl)
      (x := ([.nil, .lit (.int .u64 0), .agg [.lit (.int .u64 0), .nil]], [], [])) (by kernel_rfl) rfl (by kernel_rfl)) ?_
  intro W base args ds gs before hval hW _ hk _
  exact contract H enc W base args ds gs before hval hW hk

theorem proved : Rows.CutAnyUptoSaid :=
  OpenClaim.holds_of_cond 5 Try.f5 rfl rfl rfl rfl rfl rfl rfl ⟨rfl, rfl, rfl, rfl, rfl⟩ rfl rfl rfl rfl rfl (by kernel_rfl) Try.func5 (by kernel_rfl)
    (of_decide_eq_true (by kernel_rfl)) (by unfold Func.isWrapper; first | (rw [if_pos (by decide +kernel)]; kernel_rfl) | (rw [if_neg (by decide +kernel)]; exact ⟨rfl, rfl⟩))
    (fun os started H enc _ F => lifted os started H enc F)
#print axioms proved
end Go.Proofs.Ytipbbnoepphdkaa.cutAny
