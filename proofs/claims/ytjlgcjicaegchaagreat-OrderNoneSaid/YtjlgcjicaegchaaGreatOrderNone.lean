/- OrderNone returns true for every input, in every world: the statement OrderNoneSaid. No conditions. -/
import Derived.Test.YtjlgcjicaegchaaGreatRows
import Derived.Test.YtjlgcjicaegchaaGreatOrderNoneA
namespace Go.Proofs.YtjlgcjicaegchaaGreat.orderNone
open Go Go.CM Go.ChangeShapes Go.WideShapes Go.ChangeAt Go.RowKit

theorem own : ownKnob Tryz.prog.godebug = none := by kernel_rfl
theorem laid : laidOutB Tryz.prog = true := by kernel_rfl
theorem mixed : Tryz.prog.follows .mixedOrders = true := by kernel_rfl

theorem live_runs : runF Tryz.prog known0 [] 1000 50 15 #[] H0 = true := by kernel_rfl
theorem live_known : KnownOK Tryz.prog (knownOf 15 true) := by
  obtain ⟨H, h⟩ := of_runF live_runs
  exact knownOf_ok Tryz.func15 (by kernel_rfl) (by kernel_rfl) fun w => pure_call mixed known0_ok AR.nil h w

theorem hbody : Tryz.f4.body = some body := by
  unfold body
  cases h : Tryz.f4.body with
  | none => have e : Tryz.f4.body.isSome = true := by kernel_rfl
            rw [h] at e; cases e
  | some c => rfl
theorem hok : codeOk 205 body = true := by kernel_rfl
theorem hnt : Tryz.f4.ntmps = 205 := by kernel_rfl
theorem hres : Tryz.f4.results.toList = [.tmp 2] := by kernel_rfl

theorem dok0 (t : Nat) : dok 205 t undV = true := by
  have e : dok 205 t undV = cond (Nat.blt t 205) (Nat.ble 0 16) (Nat.beq 0 0) := rfl
  rw [e]
  cases Nat.blt t 205 <;> rfl

/-- From the state behind the first piece to the end. -/
theorem rest (cam root kk : Nat) (way : Int) (hw : (Lit.int .i64 way).wf = true) (w0 : World) (d : Nat → Value) (jb : Nat → Option Blk) (b : Act) (w : World) (hd : DOK 205 d (zipT [3, 5, 6, 9] (vsA way kk)))
    (h : St w0 205 (stA d [3, 5, 6, 9] (vsA way kk)) (stH 205 jb (bsA cam root)) b w) : (dropC 17 body).wp Tryz.prog (CM.Ends Tryz.prog w0 205 2) b w := by
  obtain ⟨r, k2, en, idle, h1, h2⟩ := runB_some d jb cam root kk way hw
  have hok2 := dropC_ok 17 body hok
  refine St.through (con := conKnown (knownOf 15 true)) (ck := ck) (Fits.of _) (conKnown_ok live_known) mixed (cut := []) (lf := 1000) (N := 50) (n := 205) (by decide) (k := 8) hok2 h hd (bs2 := bsB cam root r kk k2 en idle) h1 (by kernel_rfl) (fun ms => ⟨rfl, rfl, rfl, rfl, rfl, rfl, rfl, trivial⟩) (fun d2 jb2 b' w' _ h3 => ?_)
  exact St.last (con := conKnown (knownOf 15 true)) (ck := ck) (Fits.of _) (conKnown_ok live_known) mixed (cut := []) (lf := 1000) (N := 50) (n := 205) (by decide) (dropC_ok 8 _ hok2) h3 (h2 d2 jb2)

theorem walk (cam root kd key val old hdl lo hi kk : Nat) (rb : Bool) (ri rj way : Int) (hw : (Lit.int .i64 way).wf = true) (w : World) (v : Value) (hv : v = .slice none 0 0 ∨ ∃ (a : Addr) (len cap : Nat) (f : Nat → Nat) (te : TypeId), v = .slice (some a) len cap ∧ RowIn w .u64 a len cap f te) :
    Calls Tryz.prog 4 #[agg cam root kd key val old hdl rb ri rj v lo hi way kk] w fun e w' => e = .returned (.bool true) ∧ Less w w' := by
  obtain ⟨ab, len, cap0, cap, f, te, ρ, hr, hro, hvr, hab, hle, hmx, hf⟩ := slice_arg hv
  have ha : AR ρ #[agg cam root kd key val old hdl rb ri rj (.slice ab len cap) lo hi way kk] #[agg cam root kd key val old hdl rb ri rj v lo hi way kk] :=
    LR.toA (.cons (.aggA (LR.toA (.cons (.int _ _) (.cons (.int _ _) (.cons (.int _ _) (.cons (.int _ _) (.cons (.int _ _) (.cons (.int _ _) (.cons (.int _ _) (.cons (.bool _) (.cons (.int _ _) (.cons (.int _ _) (.cons hvr (.cons (.int _ _) (.cons (.int _ _) (.cons (.int _ _) (.cons (.int _ _) .nil))))))))))))))))) .nil)
  refine calls_bySt (t0 := 2) Tryz.func4 hbody (by rw [hnt]; decide) (by rw [hnt]; show 1 ≤ 205; decide) hres hr hro ha fun b hst => ?_
  rw [hnt] at hst ⊢
  have hd0 : DOK 205 (fun _ => undV) (tm1 [agg cam root kd key val old hdl rb ri rj (.slice ab len cap) lo hi way kk]).own := fun t => .inl (dok0 t)
  have hrun : runA kd cam root key val old hdl rb ri rj (.slice ab len cap) lo hi way kk te cap0 f = some (.tuple ⟨vsA way kk⟩, encH { base := fun _ => some undV, own := .leaf } (bsA cam root)) := by
    rcases hab with ⟨rfl, rfl, rfl⟩ | ⟨rfl, rfl⟩
    · exact runA_none cam root key val old hdl rb ri rj cap0 lo hi way kk te f kd
    · exact runA_some cam root key val old hdl rb ri rj len cap lo hi way kk te f kd
  exact St.through (con := conKnown (knownOf 15 true)) (ck := ck) (Fits.of _) (conKnown_ok live_known) mixed (cut := []) (lf := 1000) (N := 50) (n := 205) (by decide) (k := 17) hok (d := fun _ => undV) hst hd0 (bs2 := bsA cam root) hrun (by kernel_rfl)
    (fun ms => ⟨rfl, rfl, rfl, rfl, rfl, trivial⟩) (fun d2 jb b' w' hd h => rest cam root kk way hw w d2 jb b' w' hd h)

set_option maxRecDepth 100000 in
theorem lifted (os : Os) (started : os.Started) (H : Type) (enc : TypeId × Value → H) :
    ReturnsInHanded {} Tryz.checked os 4 .any (Rows.orderNoneSpec.pre6 enc Tryz.prog Tryz.f4 Rows.orderNoneRow.domain false) (Rows.orderNoneSpec.post enc Tryz.prog Tryz.f4 false true false false) := by
  refine returnsInHanded_of_change (C := Tryz.checked) own started (by kernel_rfl) Tryz.func4
    (ChangeSpec.witness6 (enc := enc) (C := Tryz.checked) false ⟨#[], #[.agg #[.int .u64 0, .int .u64 0, .int .u8 0, .int .u64 0, .int .u64 0, .int .u64 0, .int .u64 0, .bool false, .int .i64 0, .int .i64 0, .slice none 0 0, .int .u64 0, .int .u64 0, .int .i64 0, .int .u64 0]], []⟩ 8 (by kernel_rfl) (by kernel_rfl) (by kernel_rfl) (by kernel_rfl)) ?_
  intro W base args ds gs before hval0 hW hcnd _
  have hval : ∀ (j : Nat) t v, Tryz.f4.params[j]? = some t → args[j]? = some v → Value.okWide Tryz.prog W .any base t v := hval0
  have hW' := hW
  obtain ⟨p, q, hA0, hV, rfl, hfz, hnd⟩ := hW
  have hA : DataW.TrodAll enc Tryz.prog W 0 (fun _ => true) true Tryz.f4.params.toList args.toList ds p := hA0
  rw [Tryz.params4] at hA hval
  obtain ⟨v0, d0, rfl, rfl, h0⟩ := trodAll_one hA
  obtain ⟨rfl, rfl⟩ := trodVars_none hV
  obtain ⟨l0, rfl, c0⟩ := arg_leaves (ks := [22, 22, 44, 22, 22, 22, 22, 4, 3, 3, 42, 22, 22, 3, 22]) (n := 8) Tryz.underlying50 (by kernel_rfl) (by kernel_rfl) (hval 0 50 v0 rfl rfl) h0
  obtain ⟨x0, l1, rfl, e0, c1⟩ := Rows2.cons c0
  obtain ⟨x1, l2, rfl, e1, c2⟩ := Rows2.cons c1
  obtain ⟨x2, l3, rfl, e2, c3⟩ := Rows2.cons c2
  obtain ⟨x3, l4, rfl, e3, c4⟩ := Rows2.cons c3
  obtain ⟨x4, l5, rfl, e4, c5⟩ := Rows2.cons c4
  obtain ⟨x5, l6, rfl, e5, c6⟩ := Rows2.cons c5
  obtain ⟨x6, l7, rfl, e6, c7⟩ := Rows2.cons c6
  obtain ⟨x7, l8, rfl, e7, c8⟩ := Rows2.cons c7
  obtain ⟨x8, l9, rfl, e8, c9⟩ := Rows2.cons c8
  obtain ⟨x9, l10, rfl, e9, c10⟩ := Rows2.cons c9
  obtain ⟨x10, l11, rfl, e10, c11⟩ := Rows2.cons c10
  obtain ⟨x11, l12, rfl, e11, c12⟩ := Rows2.cons c11
  obtain ⟨x12, l13, rfl, e12, c13⟩ := Rows2.cons c12
  obtain ⟨x13, l14, rfl, e13, c14⟩ := Rows2.cons c13
  obtain ⟨x14, l15, rfl, e14, c15⟩ := Rows2.cons c14
  obtain rfl := Rows2.nil c15
  obtain ⟨cam, rfl, _⟩ := e0.nat Tryz.underlying22 rfl
  obtain ⟨root, rfl, _⟩ := e1.nat Tryz.underlying22 rfl
  obtain ⟨kd, rfl, _⟩ := e2.nat Tryz.underlying44 rfl
  obtain ⟨key, rfl, _⟩ := e3.nat Tryz.underlying22 rfl
  obtain ⟨val, rfl, _⟩ := e4.nat Tryz.underlying22 rfl
  obtain ⟨old, rfl, _⟩ := e5.nat Tryz.underlying22 rfl
  obtain ⟨hdl, rfl, _⟩ := e6.nat Tryz.underlying22 rfl
  obtain ⟨rb, rfl⟩ := e7.bool Tryz.underlying4
  obtain ⟨ri, rfl, _⟩ := e8.int Tryz.underlying3
  obtain ⟨rj, rfl, _⟩ := e9.int Tryz.underlying3
  have hs := e10.nats Tryz.underlying42 Tryz.underlying22 (by kernel_rfl) rfl
  obtain ⟨lo, rfl, _⟩ := e11.nat Tryz.underlying22 rfl
  obtain ⟨hi, rfl, _⟩ := e12.nat Tryz.underlying22 rfl
  obtain ⟨way, rfl, hw⟩ := e13.int Tryz.underlying3
  obtain ⟨kk, rfl, _⟩ := e14.nat Tryz.underlying22 rfl
  refine (walk cam root kd key val old hdl lo hi kk rb ri rj way hw W x10 hs).mono fun e W' ⟨he, hl⟩ => ?_
  exact ⟨_, he, law_post laid (by kernel_rfl) rfl Tryz.underlying4 rfl ⟨rfl, rfl, rfl⟩ hW' hl⟩

theorem proved : Rows.OrderNoneSaid :=
  OpenClaim.holds_of_wide 4 Tryz.f4 rfl rfl rfl rfl rfl rfl rfl ⟨rfl, rfl, rfl, rfl, rfl⟩ rfl rfl rfl rfl rfl (by kernel_rfl) Tryz.func4 (by kernel_rfl)
    (of_decide_eq_true (by kernel_rfl)) (by unfold Func.isWrapper; first | (rw [if_pos (by decide +kernel)]; kernel_rfl) | (rw [if_neg (by decide +kernel)]; exact ⟨rfl, rfl⟩))
    (fun os started H enc _ => lifted os started H enc)
#print axioms proved

end Go.Proofs.YtjlgcjicaegchaaGreat.orderNone
