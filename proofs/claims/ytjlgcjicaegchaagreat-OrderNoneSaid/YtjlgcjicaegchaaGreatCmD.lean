/- Code run piece by piece: behind each piece the state is brought into a form of its own, the blocks that are still of use renumbered. No conditions beyond the ones each theorem states. -/
import Derived.Test.YtjlgcjicaegchaaGreatCmC

/-! A loop's head in a form of its own: the blocks that are still of use, renumbered; what the other temporaries point to is set aside. -/
namespace Go.CM
open Go

def ptrsL (p : Value → Option (List Nat)) : List Value → Option (List Nat)
  | [] => some []
  | v :: r =>
    match p v, ptrsL p r with
    | some a, some b => some (a ++ b)
    | _, _ => none

/-- The blocks to which a value points, in order. -/
def ptrs : Nat → Value → Option (List Nat)
  | 0, _ => none
  | n + 1, v =>
    match v with
    | .bool _ => some []
    | .int _ _ => some []
    | .float _ _ => some []
    | .string _ => some []
    | .pointer none => some []
    | .slice none _ _ => some []
    | .map none => some []
    | .chan none => some []
    | .nilFunc => some []
    | .nilIface => some []
    | .pointer (some a) => some [a.block]
    | .slice (some a) _ _ => some [a.block]
    | .iface _ x => ptrs n x
    | .func _ f c =>
      match ptrsL (ptrs n) f.toList, ptrsL (ptrs n) c.toList with
      | some a, some b => some (a ++ b)
      | _, _ => none
    | .agg c => ptrsL (ptrs n) c.toList
    | .tuple c => ptrsL (ptrs n) c.toList
    | _ => none

/-- The same value, its blocks renumbered. -/
def renV (ν : Nat → Nat) : Nat → Value → Value
  | 0, v => v
  | n + 1, v =>
    match v with
    | .pointer (some a) => .pointer (some { a with block := ν a.block })
    | .slice (some a) l c => .slice (some { a with block := ν a.block }) l c
    | .iface t x => .iface t (renV ν n x)
    | .func fn f c => .func fn (f.map (renV ν n)) (c.map (renV ν n))
    | .agg c => .agg (c.map (renV ν n))
    | .tuple c => .tuple (c.map (renV ν n))
    | v => v

theorem ptrsL_mem {p : Value → Option (List Nat)} : ∀ {L : List Value} {l : List Nat}, ptrsL p L = some l → ∀ (i : Nat) (v : Value), L[i]? = some v → ∃ l', p v = some l' ∧ ∀ b ∈ l', b ∈ l
  | [], l, _, i, v, h => by simp at h
  | x :: r, l, h, i, v, hi => by
    unfold ptrsL at h
    cases hx : p x with
    | none => simp [hx] at h
    | some a =>
      cases hr : ptrsL p r with
      | none => simp [hx, hr] at h
      | some b =>
        simp only [hx, hr, Option.some.injEq] at h
        subst h
        cases i with
        | zero =>
          simp at hi; subst hi
          exact ⟨a, hx, fun c hc => by simp [hc]⟩
        | succ i =>
          obtain ⟨l', h1, h2⟩ := ptrsL_mem hr i v (by simpa using hi)
          exact ⟨l', h1, fun c hc => by simp [h2 c hc]⟩

theorem ren_ok {ρ ρ2 : Ren} {ν : Nat → Nat} : ∀ (n : Nat) (v y : Value) (l : List Nat), ptrs n v = some l → VR ρ v y → (∀ b ∈ l, ∀ i, ρ b = some i → ρ2 (ν b) = some i) → VR ρ2 (renV ν n v) y
  | 0, v, y, l, h, _, _ => by simp [ptrs] at h
  | n + 1, v, y, l, h, hv, hl => by
    have arr : ∀ (c c' : Array Value) (l' : List Nat), ptrsL (ptrs n) c.toList = some l' → (∀ b ∈ l', b ∈ l) → (∀ (i : Nat) (x y : Value), c[i]? = some x → c'[i]? = some y → VR ρ x y) →
        ∀ (i : Nat) (x y : Value), (c.map (renV ν n))[i]? = some x → c'[i]? = some y → VR ρ2 x y := by
      intro c c' l' hp hsub hc i x y hx hy
      rw [Array.getElem?_map] at hx
      obtain ⟨x0, hx0, rfl⟩ := Option.map_eq_some_iff.1 hx
      obtain ⟨l2, h1, h2⟩ := ptrsL_mem hp i x0 (by simpa using hx0)
      exact ren_ok n x0 y l2 h1 (hc i x0 y hx0 hy) fun b hb => hl b (hsub b (h2 b hb))
    cases hv with
    | bool b => exact .bool b
    | int k m => exact .int k m
    | float k m => exact .float k m
    | string s => exact .string s
    | ptr0 => exact .ptr0
    | ptr hb =>
      simp only [ptrs, Option.some.injEq] at h; subst h
      exact .ptr (hl _ (by simp) _ hb)
    | sl0 a c => exact .sl0 a c
    | sl a c hb =>
      simp only [ptrs, Option.some.injEq] at h; subst h
      exact .sl a c (hl _ (by simp) _ hb)
    | slU a c c' hb h1 h2 h3 h4 =>
      simp only [ptrs, Option.some.injEq] at h; subst h
      exact .slU a c c' (hl _ (by simp) _ hb) h1 h2 h3 h4
    | slE c' hb h1 h2 h3 =>
      simp only [ptrs, Option.some.injEq] at h; subst h
      exact .slE c' (hl _ (by simp) _ hb) h1 h2 h3
    | map0 => exact .map0
    | chan0 => exact .chan0
    | nilFunc => exact .nilFunc
    | nilIface => exact .nilIface
    | func fn h1 h2 h3 h4 =>
      rename_i f f' c c'
      simp only [ptrs] at h
      cases ha : ptrsL (ptrs n) f.toList with
      | none => simp [ha] at h
      | some a =>
        cases hb : ptrsL (ptrs n) c.toList with
        | none => simp [ha, hb] at h
        | some b =>
          simp only [ha, hb, Option.some.injEq] at h; subst h
          exact .func fn (by simpa using h1) (arr _ _ a ha (fun x hx => by simp [hx]) h2) (by simpa using h3) (arr _ _ b hb (fun x hx => by simp [hx]) h4)
    | iface t hx =>
      simp only [ptrs] at h
      exact .iface t (ren_ok n _ _ l h hx hl)
    | agg h1 h2 =>
      simp only [ptrs] at h
      exact .agg (by simpa using h1) (arr _ _ l h (fun x hx => hx) h2)
    | tuple h1 h2 =>
      simp only [ptrs] at h
      exact .tuple (by simpa using h1) (arr _ _ l h (fun x hx => hx) h2)

theorem ptrsL_ren {ν : Nat → Nat} {n : Nat} (ih : ∀ v, ptrs n (renV ν n v) = (ptrs n v).map (List.map ν)) : ∀ L : List Value, ptrsL (ptrs n) (L.map (renV ν n)) = (ptrsL (ptrs n) L).map (List.map ν)
  | [] => rfl
  | v :: r => by
    simp only [List.map_cons, ptrsL, ih v, ptrsL_ren ih r]
    cases ptrs n v <;> cases ptrsL (ptrs n) r <;> simp

theorem ptrs_ren (ν : Nat → Nat) : ∀ (n : Nat) (v : Value), ptrs n (renV ν n v) = (ptrs n v).map (List.map ν)
  | 0, v => rfl
  | n + 1, v => by
    have ih := ptrs_ren ν n
    cases v with
    | pointer a => cases a <;> simp [renV, ptrs]
    | slice a l c => cases a <;> simp [renV, ptrs]
    | map a => cases a <;> simp [renV, ptrs]
    | chan a => cases a <;> simp [renV, ptrs]
    | iface t x => simp only [renV, ptrs, ih]
    | func fn f c =>
      simp only [renV, ptrs, Array.toList_map, ptrsL_ren ih]
      cases ptrsL (ptrs n) f.toList <;> cases ptrsL (ptrs n) c.toList <;> simp
    | agg c => simp only [renV, ptrs, Array.toList_map, ptrsL_ren ih]
    | tuple c => simp only [renV, ptrs, Array.toList_map, ptrsL_ren ih]
    | _ => simp [renV, ptrs]

/-- Few enough addresses. -/
def dok (n t : Nat) (v : Value) : Bool :=
  match ptrs 100 v with
  | some l => cond (Nat.blt t n) (Nat.ble l.length 16) (Nat.beq l.length 0)
  | none => false

theorem dok_some {n t : Nat} {v : Value} (h : dok n t v = true) : ∃ l, ptrs 100 v = some l ∧ (t < n → l.length ≤ 16) ∧ (n ≤ t → l = []) := by
  unfold dok at h
  cases hp : ptrs 100 v with
  | none => simp [hp] at h
  | some l =>
    simp only [hp] at h
    cases hb : Nat.blt t n with
    | true =>
      rw [hb] at h
      have := blt_iff.1 hb
      exact ⟨l, rfl, fun _ => Nat.le_of_ble_eq_true h, fun hh => absurd hh (by omega)⟩
    | false =>
      rw [hb] at h
      have : ¬ t < n := fun hh => by rw [blt_iff.2 hh] at hb; cases hb
      exact ⟨l, rfl, fun hh => absurd hh this, fun _ => List.length_eq_zero_iff.1 (Nat.eq_of_beq_eq_true h)⟩

theorem dok_ren {n t : Nat} {v : Value} (ν : Nat → Nat) (h : dok n t v = true) : dok n t (renV ν 100 v) = true := by
  unfold dok at h ⊢
  rw [ptrs_ren]
  cases hp : ptrs 100 v with
  | none => simp [hp] at h
  | some l => simpa [hp] using h

/-- A block of the old heap, and what stands for it in the new one. -/
def BlkTo (ν μ : Nat → Nat) (K : Nat) (H' : CH) (b : Nat) (k2 : Blk) : Prop :=
  ∃ k', H'.blks.get b = some k' ∧ k2.size = k'.size ∧ k2.es = k'.es ∧ k2.elem = k'.elem ∧ (k2.wr = true → k'.wr = true) ∧ k2.dead = false ∧ k'.dead = false ∧
    ∀ j, j < k2.size → ∀ x, k'.get j = some x → ∃ l, ptrs 100 x = some l ∧ (∀ b ∈ l, ν b < K ∧ μ (ν b) = b) ∧ k2.get j = some (renV ν 100 x)

/-- What a temporary that is of no use any more points to. -/
def deadPs (ownT : T Value) (a' : TM) (t : Nat) : List Nat :=
  match ownT.get t with
  | some _ => []
  | none => (ptrs 100 (aget a' t)).getD []

def junkAt (K n : Nat) (ownT : T Value) (a' : TM) (x : Nat) : Option Nat :=
  if K ≤ x ∧ x < K + 16 * n then (deadPs ownT a' ((x - K) / 16))[(x - K) % 16]? else none

def canonR (K n : Nat) (μ : Nat → Nat) (ownT : T Value) (a' : TM) (ρ' : Ren) : Ren := fun x => if x < K then ρ' (μ x) else (junkAt K n ownT a' x).bind ρ'
def canonJ (K n : Nat) (ownT : T Value) (a' : TM) (H' : CH) : Nat → Option Blk := fun x => ((junkAt K n ownT a' x).bind H'.blks.get).map fun k => { k with dead := true }
def canonN (K n : Nat) (ownT : T Value) (a' : TM) (t b : Nat) : Nat := if t < n then K + 16 * t + (deadPs ownT a' t).idxOf b else b
def canonD (K n : Nat) (ownT : T Value) (a' : TM) (t : Nat) : Value := renV (canonN K n ownT a' t) 100 (aget a' t)

theorem canon {n K : Nat} {ρ' : Ren} {H' : CH} {w : World} {a' : TM} {tmps : Array Value} (hr : HR ρ' H' w) (ht : TR ρ' n a' tmps) (own : T Blk) (ownT : T Value) (ν μ : Nat → Nat)
    (hT : ∀ t v2, ownT.get t = some v2 → ∃ l, ptrs 100 (aget a' t) = some l ∧ (∀ b ∈ l, ν b < K ∧ μ (ν b) = b) ∧ v2 = renV ν 100 (aget a' t))
    (hD : ∀ t, ownT.get t = none → dok n t (aget a' t) = true)
    (hB : ∀ x, x < K → ∃ k2, own.get x = some k2 ∧ BlkTo ν μ K H' (μ x) k2) (hB' : ∀ x, K ≤ x → own.get x = none) (hν : ∀ x, x < K → ν (μ x) = x) :
    ∃ (d : Nat → Value) (jb : Nat → Option Blk) (ρ2 : Ren), (∀ t, dok n t (d t) = true ∨ (ownT.get t).isSome = true) ∧ HR ρ2 { next := K + 16 * n, blks := { base := jb, own := own } } w ∧
      TR ρ2 n { base := fun t => some (d t), own := ownT } tmps ∧ (∀ m, Im ρ2 { next := K + 16 * n, blks := { base := jb, own := own } } m → Im ρ' H' m) := by
  let H2 : CH := { next := K + 16 * n, blks := { base := canonJ K n ownT a' H', own := own } }
  let ρ2 : Ren := canonR K n μ ownT a' ρ'
  have low : ∀ x, x < K → ρ2 x = ρ' (μ x) := fun x hx => by simp [ρ2, canonR, hx]
  have high : ∀ x, K ≤ x → ρ2 x = (junkAt K n ownT a' x).bind ρ' := fun x hx => by simp [ρ2, canonR, Nat.not_lt.2 hx]
  have hgl : ∀ x k2, own.get x = some k2 → H2.blks.get x = some k2 := fun x k2 h => by simp [H2, M.get, h]
  have hgh : ∀ x, K ≤ x → H2.blks.get x = canonJ K n ownT a' H' x := fun x h => by simp [H2, M.get, hB' x h]
  have hlive : ∀ (l : List Nat), (∀ b ∈ l, ν b < K ∧ μ (ν b) = b) → ∀ b ∈ l, ∀ i, ρ' b = some i → ρ2 (ν b) = some i := fun l hl b hb i hi => by
    obtain ⟨h1, h2⟩ := hl b hb
    rw [low _ h1, h2, hi]
  have hdead : ∀ x k, K ≤ x → H2.blks.get x = some k → k.dead = true := fun x k hx h => by
    rw [hgh x hx] at h
    unfold canonJ at h
    obtain ⟨k0, _, rfl⟩ := Option.map_eq_some_iff.1 h
    rfl
  refine ⟨canonD K n ownT a', canonJ K n ownT a' H', ρ2, ?_, ?_, ?_, ?_⟩
  · intro t
    cases ho : ownT.get t with
    | some v => exact .inr rfl
    | none => exact .inl (dok_ren _ (hD t ho))
  · refine { fresh := ?_, blk := ?_, inj := ?_ }
    · intro x i h
      show x < K + 16 * n
      by_cases hx : x < K
      · omega
      · rw [high x (by omega)] at h
        unfold junkAt at h
        by_cases hc : K ≤ x ∧ x < K + 16 * n
        · exact hc.2
        · rw [if_neg hc] at h; cases h
    · intro x i h
      by_cases hx : x < K
      · rw [low x hx] at h
        obtain ⟨k, g1, g2, g3, g4, g5⟩ := hr.blk _ _ h
        obtain ⟨k2, e1, k', f1, f2, f3, f4, f5, f6, f7, f8⟩ := hB x hx
        rw [g1] at f1
        obtain rfl := Option.some.inj f1
        refine ⟨k2, hgl x k2 e1, f2.trans g2, f3.trans g3, g4, fun _ => ?_⟩
        obtain ⟨c, fz, q1, q2, q3, q4⟩ := (g5 f7).ex
        refine ⟨c, fz, by rw [f4]; exact q1, q2, fun hw => q3 (f5 hw), fun j hj => ?_⟩
        obtain ⟨u, y, s1, s2, s3⟩ := q4 j hj
        obtain ⟨l, t1, t2, t3⟩ := f8 j (by rw [f2, g2]; exact hj) u s1
        exact ⟨_, y, t3, s2, ren_ok 100 u y l t1 s3 (hlive l t2)⟩
      · have hx' : K ≤ x := by omega
        rw [high x hx'] at h
        obtain ⟨b, hb, hbi⟩ := Option.bind_eq_some_iff.1 h
        obtain ⟨k, g1, g2, g3, g4, g5⟩ := hr.blk _ _ hbi
        refine ⟨{ k with dead := true }, ?_, g2, g3, g4, fun hd => by cases hd⟩
        rw [hgh x hx']
        unfold canonJ
        rw [hb]
        simp [g1]
    · intro x1 x2 i1 i2 k1 k2 h1 h2 h3 h4 h5 h6 h7 h8
      have lt1 : x1 < K := by
        by_cases hx : x1 < K
        · exact hx
        · rw [hdead x1 k1 (by omega) h3] at h5; cases h5
      have lt2 : x2 < K := by
        by_cases hx : x2 < K
        · exact hx
        · rw [hdead x2 k2 (by omega) h4] at h6; cases h6
      rw [low _ lt1] at h1
      rw [low _ lt2] at h2
      obtain ⟨k1', e1, kk1, f1, _, _, _, f5, _, f7, _⟩ := hB x1 lt1
      obtain ⟨k2', e2, kk2, g1, _, _, _, g5, _, g7, _⟩ := hB x2 lt2
      have r1 := hgl x1 k1' e1
      have r2 := hgl x2 k2' e2
      rw [r1] at h3
      rw [r2] at h4
      obtain rfl := Option.some.inj h3
      obtain rfl := Option.some.inj h4
      have := hr.inj _ _ _ _ _ _ h1 h2 f1 g1 f7 g7 (h7.imp f5 g5) h8
      rw [← hν x1 lt1, ← hν x2 lt2, this]
  · refine ⟨ht.size, fun t => ?_⟩
    have hg := ht.get t
    cases ho : ownT.get t with
    | some v2 =>
      obtain ⟨l, h1, h2, h3⟩ := hT t v2 ho
      have e : aget { base := fun t => some (canonD K n ownT a' t), own := ownT } t = v2 := by simp [aget, M.get, ho]
      rw [e, h3]
      exact ren_ok 100 _ _ l h1 hg (hlive l h2)
    | none =>
      obtain ⟨l, h1, h2, h3⟩ := dok_some (hD t ho)
      have e : aget { base := fun t => some (canonD K n ownT a' t), own := ownT } t = canonD K n ownT a' t := by simp [aget, M.get, ho]
      rw [e]
      unfold canonD
      have hps : deadPs ownT a' t = l := by simp [deadPs, ho, h1]
      refine ren_ok 100 _ _ l h1 hg fun b hb i hi => ?_
      by_cases hn : t < n
      · have hlen := h2 hn
        have hidx : l.idxOf b < l.length := List.idxOf_lt_length_iff.2 hb
        have hx : canonN K n ownT a' t b = K + (16 * t + l.idxOf b) := by simp only [canonN, if_pos hn, hps]; omega
        rw [hx, high _ (by omega)]
        have hj : junkAt K n ownT a' (K + (16 * t + l.idxOf b)) = some b := by
          unfold junkAt
          rw [if_pos (by omega)]
          have e1 : (K + (16 * t + l.idxOf b) - K) / 16 = t := by omega
          have e2 : (K + (16 * t + l.idxOf b) - K) % 16 = l.idxOf b := by omega
          rw [e1, e2, hps, List.getElem?_eq_getElem hidx, List.getElem_idxOf hidx]
        rw [hj]
        exact hi
      · rw [h3 (by omega)] at hb; cases hb
  · rintro m ⟨x, i, k, h1, h2, h3, h4, h5⟩
    have lt : x < K := by
      by_cases hx : x < K
      · exact hx
      · have := hdead x k (by omega) h2
        rw [this] at h3; cases h3
    have h1' : ρ' (μ x) = some i := by rw [← low x lt]; exact h1
    obtain ⟨k2, e1, k', f1, _, _, _, f5, _, f7, _⟩ := hB x lt
    have r := hgl x k2 e1
    have h2' : H2.blks.get x = some k := h2
    rw [r] at h2'
    obtain rfl := Option.some.inj h2'
    exact ⟨μ x, i, k', h1', f1, f7, f5 h4, h5⟩

end Go.CM

/-! Loops whose head is met again and again in states of one form. -/
namespace Go.CM
open Go
variable {P : Program}

/-- The world is as the state says; nothing that stood there at first has changed. -/
def St (w0 : World) (n : Nat) (a : TM) (H : CH) (b : Act) (w : World) : Prop :=
  ∃ ρ, HR ρ H w ∧ TR ρ n a b.tmps ∧ Less w0 w ∧ (∀ m, Im ρ H m → w0.heap.size ≤ m) ∧ b.defers = []

theorem Less.step {w0 w w' : World} {ρ ρ' : Ren} {H H1 : CH} (hl : Less w0 w) (him : ∀ m, Im ρ H m → w0.heap.size ≤ m) (S : Sim ρ ρ' H H1 w w') : Less w0 w' where
  os := S.os.trans hl.os
  tape := S.tape.trans hl.tape
  output := S.output.trans hl.output
  size := Nat.le_trans hl.size S.size
  same := fun m hm => (S.same m (Nat.lt_of_lt_of_le hm hl.size) fun hi => absurd (him m hi) (by omega)).trans (hl.same m hm)
  new := fun m h1 h2 => by
    rcases Nat.lt_or_ge m w.heap.size with h | h
    · obtain ⟨c, t, hc⟩ := hl.new m h1 h
      obtain ⟨c', hc'⟩ := S.form m c t _ hc
      exact ⟨c', t, hc'⟩
    · exact S.new m h h2

theorem im_step {w0 w w' : World} {ρ ρ' : Ren} {H H1 : CH} (hl : Less w0 w) (him : ∀ m, Im ρ H m → w0.heap.size ≤ m) (S : Sim ρ ρ' H H1 w w') : ∀ m, Im ρ' H1 m → w0.heap.size ≤ m := fun m h => by
  rcases Nat.lt_or_ge m w.heap.size with hlt | hge
  · exact him m (S.im m hlt h)
  · exact Nat.le_trans hl.size hge

/-- Through a piece of code, by the evaluator. -/
theorem St.code {call : CallT} (hcall : CallOK P call) (hm : P.follows .mixedOrders = true) {n : Nat} (hn : n < 1048576) {lf : Nat} {c : Code} (hok : codeOk n c = true) {w0 w : World} {a : TM} {b : Act} {H : CH} {e : CE} {a1 : TM} {H1 : CH} {Q : Exit → Act → World → Prop}
    (h : St w0 n a H b w) (hev : evalCode P call lf c a H = some (e, a1, H1)) (hQ : ∀ b' w', St w0 n a1 H1 b' w' → Q e.toExit b' w') : c.wp P Q b w := by
  obtain ⟨ρ, hr, ht, hl, him, hd⟩ := h
  exact evalCode_sim hcall hm hn lf c hok hr ht hev fun ρ' w' b' S ht' hd' => hQ b' w' ⟨ρ', S.hr, ht', hl.step him S, im_step hl him S, hd'.trans hd⟩

/-- A loop: each round leads from a state of the form to another one, nearer to the end, or out of the loop. -/
theorem St.loop {call : CallT} (hcall : CallOK P call) (hm : P.follows .mixedOrders = true) {n : Nat} (hn : n < 1048576) {lf : Nat} {c : Code} (hok : codeOk n c = true) {S : Type} (A : S → TM) (Hc : S → CH) (μ : S → Nat) (Fin : S → CE → TM → CH → Prop)
    {w0 : World} (round : ∀ s, ∃ e a1 H1, evalCode P call lf c (A s) (Hc s) = some (e, a1, H1) ∧
      ((e = .normal ∧ ∀ b w, St w0 n a1 H1 b w → ∃ s', μ s' < μ s ∧ St w0 n (A s') (Hc s') b w) ∨ (e ≠ .normal ∧ Fin s e a1 H1)))
    {Q : Exit → Act → World → Prop} (hQ : ∀ s e a1 H1 b' w', Fin s e a1 H1 → St w0 n a1 H1 b' w' → Q e.toExit b' w') {s : S} {b : Act} {w : World} (h : St w0 n (A s) (Hc s) b w) : (Code.loop c).wp P Q b w := by
  refine wp_loop_rounds (μ s + 1) ?_
  have key : ∀ (m : Nat) (s : S) (b : Act) (w : World), μ s < m → St w0 n (A s) (Hc s) b w → Code.rounds P c Q m b w := by
    intro m
    induction m with
    | zero => intro s b w hlt _; exact absurd hlt (by omega)
    | succ m ih =>
      intro s b w hlt hs
      rw [rounds_succ]
      obtain ⟨e, a1, H1, hev, hcase⟩ := round s
      refine St.code hcall hm hn hok hs hev fun b' w' hs' => ?_
      rcases hcase with ⟨rfl, hnext⟩ | ⟨hne, hfin⟩
      · obtain ⟨s', hμ, hs2⟩ := hnext b' w' hs'
        exact ih s' b' w' (by omega) hs2
      · cases e with
        | normal => exact absurd rfl hne
        | exit i => exact hQ s _ a1 H1 b' w' hfin hs'
        | ret => exact hQ s _ a1 H1 b' w' hfin hs'
  exact key _ s b w (by omega) h

/-- The state of another form. -/
theorem St.canon {n K : Nat} {w0 w : World} {b : Act} {H' : CH} {a' : TM} (h : St w0 n a' H' b w) (own : T Blk) (ownT : T Value) (ν μ : Nat → Nat)
    (hT : ∀ t v2, ownT.get t = some v2 → ∃ l, ptrs 100 (aget a' t) = some l ∧ (∀ b ∈ l, ν b < K ∧ μ (ν b) = b) ∧ v2 = renV ν 100 (aget a' t))
    (hD : ∀ t, ownT.get t = none → dok n t (aget a' t) = true)
    (hB : ∀ x, x < K → ∃ k2, own.get x = some k2 ∧ BlkTo ν μ K H' (μ x) k2) (hB' : ∀ x, K ≤ x → own.get x = none) (hν : ∀ x, x < K → ν (μ x) = x) :
    ∃ (d : Nat → Value) (jb : Nat → Option Blk), (∀ t, dok n t (d t) = true ∨ (ownT.get t).isSome = true) ∧ St w0 n { base := fun t => some (d t), own := ownT } { next := K + 16 * n, blks := { base := jb, own := own } } b w := by
  obtain ⟨ρ, hr, ht, hl, him, hd⟩ := h
  obtain ⟨d, jb, ρ2, h1, h2, h3, h4⟩ := CM.canon hr ht own ownT ν μ hT hD hB hB' hν
  exact ⟨d, jb, h1, ρ2, h2, h3, hl, fun m hm => him m (h4 m hm), hd⟩

/-! ### what the kernel looks at -/
/-- Of all that stands in a tree. -/
def T.allI {α : Type} (p : Nat → α → Bool) : T α → (Nat → Nat) → Bool
  | .leaf, _ => true
  | .node l v r, g => (match v with | some x => p (g 0) x | none => true) && (T.allI p l (fun j => g (2 * j + 1)) && T.allI p r (fun j => g (2 * j + 2)))

theorem T.allI_get {α : Type} {p : Nat → α → Bool} : ∀ {t : T α} {g : Nat → Nat}, T.allI p t g = true → ∀ (i : Nat) (x : α), t.get i = some x → p (g i) x = true
  | .leaf, g, _, i, x, h => by simp [T.get] at h
  | .node l v r, g, ha, i, x, h => by
    simp only [T.allI, Bool.and_eq_true] at ha
    obtain ⟨h1, h2, h3⟩ := ha
    simp only [T.get] at h
    cases hb : Nat.beq i 0 with
    | true =>
      rw [hb] at h
      simp only [cond_true] at h
      subst h
      have := Nat.eq_of_beq_eq_true hb
      subst this
      exact h1
    | false =>
      rw [hb] at h
      simp only [cond_false] at h
      have hi : i ≠ 0 := fun e => by subst e; cases hb
      cases hc : Nat.beq (i % 2) 1 with
      | true =>
        rw [hc] at h
        have h4 := T.allI_get h2 _ _ h
        have := Nat.eq_of_beq_eq_true hc
        have e : 2 * (i / 2) + 1 = i := by omega
        rw [e] at h4
        exact h4
      | false =>
        rw [hc] at h
        have h4 := T.allI_get h3 _ _ h
        have : i % 2 ≠ 1 := fun e => by rw [e] at hc; cases hc
        have e : 2 * (i / 2 - 1) + 2 = i := by omega
        rw [e] at h4
        exact h4

/-- Temporaries as a list says. -/
def mkT (l : List (Nat × Value)) : T Value := l.foldr (fun p t => T.set 20 t p.1 p.2) .leaf

theorem mkT_get : ∀ (l : List (Nat × Value)), (∀ p ∈ l, p.1 < 1048575) → ∀ (t : Nat) (v : Value), (mkT l).get t = some v → (t, v) ∈ l
  | [], _, t, v, h => by simp [mkT, T.get] at h
  | p :: l, hl, t, v, h => by
    have e : mkT (p :: l) = T.set 20 (mkT l) p.1 p.2 := rfl
    have hp := hl p (by simp)
    rw [e, T.get_set p.2 20 _ _ _ (by omega)] at h
    by_cases ht : p.1 = t
    · rw [if_pos ht] at h
      obtain rfl := Option.some.inj h
      subst ht
      exact List.mem_cons_self
    · rw [if_neg ht] at h
      exact List.mem_cons_of_mem _ (mkT_get l (fun q hq => hl q (by simp [hq])) t v h)

/-- The temporaries that are of use. -/
def lives (ν : Nat → Nat) (a' : TM) (ts : List Nat) : List (Nat × Value) := ts.map fun t => (t, renV ν 100 (aget a' t))

def liveChk (ν μ : Nat → Nat) (K : Nat) (a' : TM) (ts : List Nat) : Bool :=
  ts.all fun t => Nat.blt t 1048575 && (match ptrs 100 (aget a' t) with | some l => l.all (fun b => Nat.blt (ν b) K && Nat.beq (μ (ν b)) b) | none => false)

theorem live_hT {ν μ : Nat → Nat} {K : Nat} {a' : TM} {ts : List Nat} (h : liveChk ν μ K a' ts = true) : ∀ t v2, (mkT (lives ν a' ts)).get t = some v2 →
    ∃ l, ptrs 100 (aget a' t) = some l ∧ (∀ b ∈ l, ν b < K ∧ μ (ν b) = b) ∧ v2 = renV ν 100 (aget a' t) := by
  intro t v2 hg
  unfold liveChk at h
  have hall := List.all_eq_true.1 h
  have hlt : ∀ p ∈ lives ν a' ts, p.1 < 1048575 := fun p hp => by
    obtain ⟨t, ht, rfl⟩ := List.mem_map.1 hp
    have := hall t ht
    simp only [Bool.and_eq_true] at this
    exact blt_iff.1 this.1
  have hm := mkT_get _ hlt t v2 hg
  obtain ⟨t', ht', e⟩ := List.mem_map.1 hm
  simp only [Prod.mk.injEq] at e
  obtain ⟨rfl, rfl⟩ := e
  have := hall t' ht'
  simp only [Bool.and_eq_true] at this
  obtain ⟨_, h2⟩ := this
  cases hp : ptrs 100 (aget a' t') with
  | none => simp [hp] at h2
  | some l =>
    simp only [hp] at h2
    refine ⟨l, rfl, fun b hb => ?_, rfl⟩
    have := List.all_eq_true.1 h2 b hb
    simp only [Bool.and_eq_true] at this
    exact ⟨blt_iff.1 this.1, Nat.eq_of_beq_eq_true this.2⟩

/-- The others point to little. -/
def deadChk (n : Nat) (own' ownT : T Value) : Bool := T.allI (fun t v => (match ownT.get t with | some _ => true | none => false) || dok n t v) own' id

theorem dead_hD {n : Nat} {d : Nat → Value} {own0 own' ownT : T Value} (h : deadChk n own' ownT = true) (hd : ∀ t, dok n t (d t) = true ∨ (own0.get t).isSome = true) (h0 : ∀ t, (own0.get t).isSome = true → (own'.get t).isSome = true) :
    ∀ t, ownT.get t = none → dok n t (aget { base := fun t => some (d t), own := own' } t) = true := by
  intro t ht
  cases ho : own'.get t with
  | some v =>
    have e : aget { base := fun t => some (d t), own := own' } t = v := by simp [aget, M.get, ho]
    rw [e]
    have := T.allI_get h t v ho
    simp only [id, ht, Bool.or_eq_true, Bool.false_eq_true, false_or] at this
    exact this
  | none =>
    have e : aget { base := fun t => some (d t), own := own' } t = d t := by simp [aget, M.get, ho]
    rw [e]
    rcases hd t with h1 | h1
    · exact h1
    · have := h0 t h1
      rw [ho] at this; cases this
end Go.CM

/-! The state of a loop's head, or of a cut, found by the kernel itself. -/
namespace Go.CM
open Go
variable {P : Program}

/-- Where the address of a block stands: in a temporary, or in a cell of a block that was found ahead. -/
inductive Src where
  | tmp (t : Nat)
  | cell (x j : Nat)

def blkOf : Value → Option Nat
  | .pointer (some a) => some a.block
  | .slice (some a) _ _ => some a.block
  | .iface _ (.pointer (some a)) => some a.block
  | _ => none

def findB (a : TM) (H : CH) : List Src → List Nat → Option (List Nat)
  | [], acc => some acc
  | .tmp t :: r, acc =>
    match blkOf (aget a t) with
    | some b => findB a H r (acc ++ [b])
    | none => none
  | .cell x j :: r, acc =>
    match acc[x]? with
    | some b0 =>
      match H.cell b0 j with
      | some v =>
        match blkOf v with
        | some b => findB a H r (acc ++ [b])
        | none => none
      | none => none
    | none => none

def nuL (b : Nat) : List Nat → Nat → Nat
  | [], i => i
  | c :: r, i => cond (Nat.beq c b) i (nuL b r (i + 1))
/-- The new number of a block. -/
def nu (ms : List Nat) (b : Nat) : Nat := nuL b ms 0
def muL : List Nat → Nat → Nat
  | [], _ => 0
  | c :: _, 0 => c
  | _ :: r, i + 1 => muL r i

def okPtr (ms : List Nat) (v : Value) : Bool :=
  match ptrs 100 v with
  | some l => l.all fun b => Nat.blt (nu ms b) ms.length && Nat.beq (muL ms (nu ms b)) b
  | none => false

def okPtrs (ms : List Nat) : List Value → Bool
  | [] => true
  | v :: r => cond (okPtr ms v) (okPtrs ms r) false

def renL (ms : List Nat) : List Value → List Value
  | [] => []
  | v :: r => renV (nu ms) 100 v :: renL ms r

def nthV : List Value → Nat → Option Value
  | [], _ => none
  | v :: _, 0 => some v
  | _ :: r, i + 1 => nthV r i

/-- A block of few cells, renumbered. -/
def blkRen (ms : List Nat) (k : Blk) : Option Blk :=
  match k.list 0 k.size with
  | some vs => cond (okPtrs ms vs) (some { elem := k.elem, size := k.size, es := k.es, wr := k.wr, dead := false, cells := { base := nthV (renL ms vs), own := .leaf } }) none
  | none => none

/-- The blocks: those of few cells renumbered (true), the others as they are (false). -/
def blksRen (H : CH) (ms : List Nat) : List Nat → List Bool → Option (List Blk)
  | [], [] => some []
  | b :: r, f :: fs =>
    match H.live b with
    | some k =>
      match cond f (blkRen ms k) (some k), blksRen H ms r fs with
      | some k2, some l => some (k2 :: l)
      | _, _ => none
    | none => none
  | _, _ => none

def distinct (ms : List Nat) : List Nat → Nat → Bool
  | [], _ => true
  | b :: r, i => cond (Nat.beq (nu ms b) i) (distinct ms r (i + 1)) false

def liveVs (ms : List Nat) (a : TM) : List Nat → Option (List Value)
  | [] => some []
  | t :: r =>
    cond (Nat.blt t 1048575 && okPtr ms (aget a t))
      (match liveVs ms a r with
       | some l => some (renV (nu ms) 100 (aget a t) :: l)
       | none => none) none

def zipT : List Nat → List Value → T Value
  | t :: ts, v :: vs => T.set 20 (zipT ts vs) t v
  | _, _ => .leaf

/-- The state's form: the temporaries that are of use, and the blocks. -/
def canonF (srcs : List Src) (flags : List Bool) (ts : List Nat) (n : Nat) (a : TM) (H : CH) : Option (List Value × List Blk) :=
  match findB a H srcs [] with
  | none => none
  | some ms =>
    cond (distinct ms ms 0)
      (match liveVs ms a ts, blksRen H ms ms flags with
       | some vs, some bs => cond (deadChk n a.own (zipT ts vs)) (some (vs, bs)) none
       | _, _ => none) none

/-! what that is worth -/
theorem nuL_ge (b : Nat) : ∀ (l : List Nat) (i : Nat), i ≤ nuL b l i
  | [], i => Nat.le_refl _
  | c :: r, i => by
    unfold nuL
    cases Nat.beq c b with
    | true => exact Nat.le_refl _
    | false => exact Nat.le_trans (Nat.le_succ _) (nuL_ge b r (i + 1))

theorem distinct_nu {ms : List Nat} : ∀ (l : List Nat) (i : Nat), distinct ms l i = true → ∀ x, x < l.length → nu ms (muL l x) = i + x
  | [], _, _, x, hx => absurd hx (by simp)
  | b :: r, i, h, x, hx => by
    unfold distinct at h
    cases hb : Nat.beq (nu ms b) i with
    | false => rw [hb] at h; cases h
    | true =>
      rw [hb] at h
      cases x with
      | zero => exact Nat.eq_of_beq_eq_true hb
      | succ x =>
        have := distinct_nu r (i + 1) h x (by simpa using hx)
        show nu ms (muL r x) = _
        omega

theorem okPtr_some {ms : List Nat} {v : Value} (h : okPtr ms v = true) : ∃ l, ptrs 100 v = some l ∧ ∀ b ∈ l, nu ms b < ms.length ∧ muL ms (nu ms b) = b := by
  unfold okPtr at h
  cases hp : ptrs 100 v with
  | none => simp [hp] at h
  | some l =>
    simp only [hp] at h
    refine ⟨l, rfl, fun b hb => ?_⟩
    have := List.all_eq_true.1 h b hb
    simp only [Bool.and_eq_true] at this
    exact ⟨blt_iff.1 this.1, Nat.eq_of_beq_eq_true this.2⟩

theorem zipT_get {ms : List Nat} {a : TM} : ∀ (ts : List Nat) (vs : List Value), liveVs ms a ts = some vs → ∀ (t : Nat) (v2 : Value), (zipT ts vs).get t = some v2 →
    ∃ l, ptrs 100 (aget a t) = some l ∧ (∀ b ∈ l, nu ms b < ms.length ∧ muL ms (nu ms b) = b) ∧ v2 = renV (nu ms) 100 (aget a t)
  | [], vs, h, t, v2, hg => by
    simp only [liveVs, Option.some.injEq] at h; subst h
    simp [zipT, T.get] at hg
  | s :: ts, vs, h, t, v2, hg => by
    unfold liveVs at h
    cases hc : (Nat.blt s 1048575 && okPtr ms (aget a s)) with
    | false => rw [hc] at h; cases h
    | true =>
      rw [hc] at h
      simp only [cond_true] at h
      cases hl : liveVs ms a ts with
      | none => rw [hl] at h; cases h
      | some l =>
        rw [hl] at h
        simp only [Option.some.injEq] at h
        subst h
        simp only [Bool.and_eq_true] at hc
        have e : zipT (s :: ts) (renV (nu ms) 100 (aget a s) :: l) = T.set 20 (zipT ts l) s (renV (nu ms) 100 (aget a s)) := rfl
        have hs := blt_iff.1 hc.1
        rw [e, T.get_set _ 20 _ _ _ (by omega)] at hg
        by_cases hst : s = t
        · rw [if_pos hst] at hg
          obtain rfl := Option.some.inj hg
          subst hst
          obtain ⟨l', h1, h2⟩ := okPtr_some hc.2
          exact ⟨l', h1, h2, rfl⟩
        · rw [if_neg hst] at hg
          exact zipT_get ts l hl t v2 hg

theorem list_get {k : Blk} : ∀ (n off : Nat) (vs : List Value), k.list off n = some vs → ∀ j, j < n → k.get (off + j) = nthV vs j
  | 0, _, _, _, j, hj => absurd hj (by omega)
  | n + 1, off, vs, h, j, hj => by
    simp only [Blk.list] at h
    cases hg : k.get off with
    | none => rw [hg] at h; cases h
    | some v =>
      rw [hg] at h
      simp only at h
      cases hl : k.list (off + 1) n with
      | none => rw [hl] at h; cases h
      | some l =>
        rw [hl] at h
        simp only [Option.some.injEq] at h
        subst h
        cases j with
        | zero => exact hg
        | succ j =>
          have := list_get n (off + 1) l hl j (by omega)
          rw [show off + (j + 1) = off + 1 + j by omega, this]; rfl

theorem okPtrs_nth {ms : List Nat} : ∀ (vs : List Value), okPtrs ms vs = true → ∀ (j : Nat) (x : Value), nthV vs j = some x → okPtr ms x = true ∧ nthV (renL ms vs) j = some (renV (nu ms) 100 x)
  | [], _, j, x, h => by simp [nthV] at h
  | v :: r, hok, j, x, h => by
    unfold okPtrs at hok
    cases hv : okPtr ms v with
    | false => rw [hv] at hok; cases hok
    | true =>
      rw [hv] at hok
      cases j with
      | zero =>
        simp only [nthV, Option.some.injEq] at h; subst h
        exact ⟨hv, rfl⟩
      | succ j => exact okPtrs_nth r hok j x h

theorem blkRen_to {H : CH} {ms : List Nat} {b : Nat} {k k2 : Blk} (hl : H.live b = some k) (h : blkRen ms k = some k2) : BlkTo (nu ms) (muL ms) ms.length H b k2 := by
  obtain ⟨hg, hd⟩ := live_some hl
  unfold blkRen at h
  cases hv : k.list 0 k.size with
  | none => rw [hv] at h; cases h
  | some vs =>
    rw [hv] at h
    simp only at h
    cases hok : okPtrs ms vs with
    | false => rw [hok] at h; cases h
    | true =>
      rw [hok] at h
      simp only [cond_true, Option.some.injEq] at h
      subst h
      refine ⟨k, hg, rfl, rfl, rfl, fun hw => hw, rfl, hd, fun j hj x hx => ?_⟩
      have hj' : j < k.size := hj
      have e := list_get k.size 0 vs hv j hj'
      rw [Nat.zero_add, hx] at e
      obtain ⟨h1, h2⟩ := okPtrs_nth vs hok j x e.symm
      obtain ⟨l, g1, g2⟩ := okPtr_some h1
      refine ⟨l, g1, g2, ?_⟩
      show cond (Nat.blt j k.size) (M.get { base := nthV (renL ms vs), own := .leaf } j) none = _
      rw [blt_iff.2 hj']
      exact h2

/-- A row whose cells bear no addresses, in another form. -/
def RowTo (k k2 : Blk) : Prop := k2.size = k.size ∧ k2.es = k.es ∧ k2.elem = k.elem ∧ (k2.wr = true → k.wr = true) ∧ k2.dead = false ∧
  ∀ j, j < k.size → ∀ x, k.get j = some x → ptrs 100 x = some [] ∧ (∀ ν, renV ν 100 x = x) ∧ k2.get j = some x

/-- Each block as it is said to be. -/
def Forms (ms : List Nat) : List Bool → List Blk → List Blk → Prop
  | [], [], [] => True
  | true :: fs, k :: ks, k2 :: k2s => k2 = k ∧ Forms ms fs ks k2s
  | false :: fs, k :: ks, k2 :: k2s => RowTo k k2 ∧ Forms ms fs ks k2s
  | _, _, _ => False

theorem forms_to {H : CH} {ms : List Nat} : ∀ (l : List Nat) (fs : List Bool) (bs bs2 : List Blk), blksRen H ms l fs = some bs → Forms ms fs bs bs2 → ∀ x, x < l.length → ∃ k2, bs2[x]? = some k2 ∧ BlkTo (nu ms) (muL ms) ms.length H (muL l x) k2
  | [], _, _, _, _, _, x, hx => absurd hx (by simp)
  | b :: r, [], bs, bs2, h, _, x, hx => by simp [blksRen] at h
  | b :: r, f :: fs, bs, bs2, h, hf, x, hx => by
    unfold blksRen at h
    cases hl : H.live b with
    | none => rw [hl] at h; cases h
    | some k =>
      rw [hl] at h
      simp only at h
      cases hr : cond f (blkRen ms k) (some k) with
      | none => rw [hr] at h; cases h
      | some k1 =>
        cases hrest : blksRen H ms r fs with
        | none => rw [hr, hrest] at h; cases h
        | some l1 =>
          rw [hr, hrest] at h
          simp only [Option.some.injEq] at h
          subst h
          cases bs2 with
          | nil => cases f <;> exact hf.elim
          | cons k2 k2s =>
            cases f with
            | true =>
              obtain ⟨rfl, hf2⟩ := hf
              cases x with
              | zero => exact ⟨k2, rfl, blkRen_to hl hr⟩
              | succ x => exact forms_to r fs l1 k2s hrest hf2 x (by simpa using hx)
            | false =>
              obtain ⟨hrow, hf2⟩ := hf
              cases x with
              | zero =>
                simp only [cond_false, Option.some.injEq] at hr
                subst hr
                obtain ⟨hg, hd⟩ := live_some hl
                obtain ⟨q1, q2, q3, q4, q5, q6⟩ := hrow
                refine ⟨k2, rfl, k, hg, q1, q2, q3, q4, q5, hd, fun j hj y hy => ?_⟩
                obtain ⟨p1, p2, p3⟩ := q6 j (by rw [← q1]; exact hj) y hy
                exact ⟨[], p1, (fun b hb => absurd hb List.not_mem_nil), (by rw [p2]; exact p3)⟩
              | succ x => exact forms_to r fs l1 k2s hrest hf2 x (by simpa using hx)

/-- The blocks of such a state. -/
def mkB : List Blk → Nat → T Blk
  | [], _ => .leaf
  | k :: r, i => T.set 40 (mkB r (i + 1)) i k

theorem mkB_get : ∀ (l : List Blk) (i : Nat), i + l.length < 1099511627775 → ∀ x, (mkB l i).get x = if i ≤ x then l[x - i]? else none
  | [], i, _, x => by
    show (T.leaf : T Blk).get x = _
    simp [T.get]
  | k :: r, i, h, x => by
    have e : mkB (k :: r) i = T.set 40 (mkB r (i + 1)) i k := rfl
    simp only [List.length_cons] at h
    rw [e, T.get_set _ 40 _ _ _ (by omega), mkB_get r (i + 1) (by omega)]
    by_cases h1 : i = x
    · subst h1; simp
    · rw [if_neg h1]
      by_cases h2 : i + 1 ≤ x
      · rw [if_pos h2, if_pos (by omega)]
        obtain ⟨y, rfl⟩ : ∃ y, x = i + 1 + y := ⟨x - (i + 1), by omega⟩
        have e1 : i + 1 + y - i = y + 1 := by omega
        have e2 : i + 1 + y - (i + 1) = y := by omega
        rw [e1, e2]; rfl
      · rw [if_neg h2, if_neg (by omega)]

theorem findB_len {a : TM} {H : CH} : ∀ (srcs : List Src) (acc ms : List Nat), findB a H srcs acc = some ms → ms.length = acc.length + srcs.length
  | [], acc, ms, h => by simp only [findB, Option.some.injEq] at h; subst h; simp
  | .tmp t :: r, acc, ms, h => by
    unfold findB at h
    split at h
    · have := findB_len r _ ms h; simp at this ⊢; omega
    · cases h
  | .cell x j :: r, acc, ms, h => by
    unfold findB at h
    split at h
    · split at h
      · split at h
        · have := findB_len r _ ms h; simp at this ⊢; omega
        · cases h
      · cases h
    · cases h

theorem blksRen_len {H : CH} {ms : List Nat} : ∀ (l : List Nat) (fs : List Bool) (bs : List Blk), blksRen H ms l fs = some bs → bs.length = l.length
  | [], [], bs, h => by simp only [blksRen, Option.some.injEq] at h; subst h; rfl
  | [], _ :: _, bs, h => by simp [blksRen] at h
  | b :: r, [], bs, h => by simp [blksRen] at h
  | b :: r, f :: fs, bs, h => by
    unfold blksRen at h
    split at h
    · split at h
      · rename_i h2
        simp only [Option.some.injEq] at h; subst h
        simp [blksRen_len r fs _ h2]
      · cases h
    · cases h

theorem forms_len {ms : List Nat} : ∀ (fs : List Bool) (a b : List Blk), Forms ms fs a b → a.length = b.length
  | [], [], [], _ => rfl
  | true :: fs, k :: ks, k2 :: k2s, h => by simp [forms_len fs ks k2s h.2]
  | false :: fs, k :: ks, k2 :: k2s, h => by simp [forms_len fs ks k2s h.2]
  | [], _ :: _, _, h => h.elim
  | [], [], _ :: _, h => h.elim
  | true :: _, [], _, h => h.elim
  | true :: _, _ :: _, [], h => h.elim
  | false :: _, [], _, h => h.elim
  | false :: _, _ :: _, [], h => h.elim

/-- A state's temporaries and heap. -/
def stA (d : Nat → Value) (ts : List Nat) (vs : List Value) : TM := { base := fun t => some (d t), own := zipT ts vs }
def stH (n : Nat) (jb : Nat → Option Blk) (bs : List Blk) : CH := { next := bs.length + 16 * n, blks := { base := jb, own := mkB bs 0 } }

/-- What is known of the temporaries that are of no use. -/
def DOK (n : Nat) (d : Nat → Value) (own : T Value) : Prop := ∀ t, dok n t (d t) = true ∨ (own.get t).isSome = true

theorem St.toForm {n : Nat} {w0 w : World} {b : Act} {H' : CH} {d : Nat → Value} {own0 own' : T Value} (h : St w0 n { base := fun t => some (d t), own := own' } H' b w) (hd : DOK n d own0)
    (h0 : T.allI (fun t _ => (own'.get t).isSome) own0 id = true) {srcs : List Src} {flags : List Bool} {ts : List Nat} {vs : List Value} {bs : List Blk}
    (hc : canonF srcs flags ts n { base := fun t => some (d t), own := own' } H' = some (vs, bs)) (hlen : Nat.blt srcs.length 1099511627775 = true) {bs2 : List Blk} (hf : ∀ ms, Forms ms flags bs bs2) :
    ∃ (d2 : Nat → Value) (jb : Nat → Option Blk), DOK n d2 (zipT ts vs) ∧ St w0 n (stA d2 ts vs) (stH n jb bs2) b w := by
  unfold canonF at hc
  cases hm : findB { base := fun t => some (d t), own := own' } H' srcs [] with
  | none => rw [hm] at hc; cases hc
  | some ms =>
    rw [hm] at hc
    simp only at hc
    cases hdist : distinct ms ms 0 with
    | false => rw [hdist] at hc; cases hc
    | true =>
      rw [hdist] at hc
      simp only [cond_true] at hc
      cases hl : liveVs ms { base := fun t => some (d t), own := own' } ts with
      | none => rw [hl] at hc; cases hc
      | some vs' =>
        cases hb : blksRen H' ms ms flags with
        | none => rw [hl, hb] at hc; cases hc
        | some bs' =>
          rw [hl, hb] at hc
          simp only at hc
          cases hdc : deadChk n own' (zipT ts vs') with
          | false => rw [hdc] at hc; cases hc
          | true =>
            rw [hdc] at hc
            simp only [cond_true, Option.some.injEq, Prod.mk.injEq] at hc
            obtain ⟨rfl, rfl⟩ := hc
            have l1 := findB_len _ _ _ hm
            simp only [List.length_nil, Nat.zero_add] at l1
            have l2 := blksRen_len _ _ _ hb
            have l3 := forms_len _ _ _ (hf ms)
            have hlt := blt_iff.1 hlen
            have hget : ∀ x, (mkB bs2 0).get x = bs2[x]? := fun x => by
              rw [mkB_get bs2 0 (by omega)]; simp
            obtain ⟨d2, jb, g1, g2⟩ := h.canon (K := ms.length) (mkB bs2 0) (zipT ts vs') (nu ms) (muL ms) (zipT_get ts vs' hl)
              (dead_hD hdc hd fun t ht => by
                cases ho : own0.get t with
                | none => rw [ho] at ht; cases ht
                | some v => exact T.allI_get h0 t v ho)
              (fun x hx => by
                obtain ⟨k2, e1, e2⟩ := forms_to ms flags bs' bs2 hb (hf ms) x hx
                exact ⟨k2, by rw [hget]; exact e1, e2⟩)
              (fun x hx => by rw [hget]; exact List.getElem?_eq_none (by omega))
              (fun x hx => by have := distinct_nu ms 0 hdist x hx; omega)
            refine ⟨d2, jb, g1, ?_⟩
            have e : bs2.length = ms.length := by omega
            unfold stA stH
            rw [e]
            exact g2
end Go.CM

/-! From what the kernel ran to states, piece by piece. -/
namespace Go.CM
open Go
variable {P : Program}

/-- The first pieces of a row of code, and the others. -/
def takeC : Nat → Code → Code
  | k + 1, .seq x y => .seq x (takeC k y)
  | _, _ => .skip
def dropC : Nat → Code → Code
  | k + 1, .seq _ y => dropC k y
  | _, c => c

theorem takeC_zero (c : Code) : takeC 0 c = .skip := by cases c <;> rfl
theorem dropC_zero (c : Code) : dropC 0 c = c := by cases c <;> rfl

theorem dropC_ok {n : Nat} : ∀ (k : Nat) (c : Code), codeOk n c = true → codeOk n (dropC k c) = true := by
  intro k
  induction k with
  | zero => intro c h; rw [dropC_zero]; exact h
  | succ k ih =>
    intro c h
    cases c
    case seq x y =>
      simp only [codeOk, Bool.and_eq_true] at h
      exact ih y h.2
    all_goals exact h

/-- By the evaluator through the first pieces. -/
theorem St.cut {call : CallT} (hcall : CallOK P call) (hm : P.follows .mixedOrders = true) {n : Nat} (hn : n < 1048576) {lf : Nat} {w0 : World} {Q : Exit → Act → World → Prop} : ∀ (k : Nat) {c : Code}, codeOk n c = true → ∀ {a : TM} {H : CH} {b : Act} {w : World} {a1 : TM} {H1 : CH},
    St w0 n a H b w → evalCode P call lf (takeC k c) a H = some (.normal, a1, H1) → (∀ b' w', St w0 n a1 H1 b' w' → (dropC k c).wp P Q b' w') → c.wp P Q b w := by
  intro k
  induction k with
  | zero =>
    intro c hok a H b w a1 H1 h hev hQ
    rw [takeC_zero] at hev
    rw [dropC_zero] at hQ
    simp only [evalCode, Option.some.injEq, Prod.mk.injEq, true_and] at hev
    obtain ⟨rfl, rfl⟩ := hev
    exact hQ b w h
  | succ k ih =>
    intro c
    cases c
    case seq x y =>
      intro hok a H b w a1 H1 h hev hQ
      simp only [codeOk, Bool.and_eq_true] at hok
      simp only [takeC, evalCode] at hev
      split at hev
      · rename_i a2 H2 hx
        exact wp_seq (St.code hcall hm hn hok.1 h hx fun b' w' h' => ih hok.2 h' hev hQ)
      · cases hev
      · cases hev
      · cases hev
    all_goals
      intro hok a H b w a1 H1 h hev hQ
      simp only [takeC, evalCode, Option.some.injEq, Prod.mk.injEq, true_and] at hev
      obtain ⟨rfl, rfl⟩ := hev
      exact hQ b w h

/-! ### what the kernel hands on -/
def encT : List Blk → T Blk
  | [] => .leaf
  | k :: r => .node .leaf (some k) (encT r)

theorem encT_inj : ∀ {a b : List Blk}, encT a = encT b → a = b
  | [], [], _ => rfl
  | [], _ :: _, h => by cases h
  | _ :: _, [], h => by cases h
  | x :: a, y :: b, h => by
    simp only [encT, T.node.injEq, true_and, Option.some.injEq] at h
    rw [h.1, encT_inj h.2]

def tmBlk (m : TM) : Blk := { elem := 0, size := 0, es := 0, wr := false, dead := false, cells := m }

/-- A state as an answer. -/
def encH (m : TM) (bs : List Blk) : CH := { next := 0, blks := { base := fun _ => none, own := encT (tmBlk m :: bs) } }

theorem encH_inj {b1 b2 : TM} {l1 l2 : List Blk} (h : encH b1 l1 = encH b2 l2) : b1 = b2 ∧ l1 = l2 := by
  unfold encH at h
  simp only [CH.mk.injEq, M.mk.injEq, true_and, and_true] at h
  have h2 := encT_inj h
  simp only [List.cons.injEq] at h2
  refine ⟨?_, h2.2⟩
  have h3 := h2.1
  unfold tmBlk at h3
  simp only [Blk.mk.injEq, true_and] at h3
  exact h3

/-- Behind a piece of code that ends as it should: the state's form. -/
def kForm (want : CE → Bool) (srcs : List Src) (flags : List Bool) (ts : List Nat) (n : Nat) (own0 : T Value) : CE → TM → CH → RR := fun e a H =>
  cond (want e && T.allI (fun t _ => match a.own.get t with | some _ => true | none => false) own0 id)
    (match canonF srcs flags ts n a H with
     | some (vs, bs) => some (.tuple ⟨vs⟩, encH { a with own := .leaf } bs)
     | none => none) none

def isN : CE → Bool
  | .normal => true
  | _ => false

theorem kForm_some {want : CE → Bool} {srcs : List Src} {flags : List Bool} {ts : List Nat} {n : Nat} {own0 : T Value} {e : CE} {a : TM} {H : CH} {vs : List Value} {base : TM} {bs : List Blk}
    (h : kForm want srcs flags ts n own0 e a H = some (.tuple ⟨vs⟩, encH base bs)) :
    want e = true ∧ T.allI (fun t _ => (a.own.get t).isSome) own0 id = true ∧ canonF srcs flags ts n a H = some (vs, bs) ∧ ({ a with own := .leaf } : TM) = base := by
  unfold kForm at h
  cases hw : want e with
  | false => rw [hw] at h; cases h
  | true =>
    rw [hw] at h
    have e0 : (fun (t : Nat) (_ : Value) => match a.own.get t with | some _ => true | none => false) = fun t _ => (a.own.get t).isSome := by
      funext t v; cases a.own.get t <;> rfl
    rw [e0] at h
    cases hall : T.allI (fun t _ => (a.own.get t).isSome) own0 id with
    | false => rw [hall] at h; cases h
    | true =>
      rw [hall] at h
      simp only [Bool.and_self, cond_true] at h
      cases hc : canonF srcs flags ts n a H with
      | none => rw [hc] at h; cases h
      | some r =>
        obtain ⟨vs', bs'⟩ := r
        rw [hc] at h
        simp only [Option.some.injEq, Prod.mk.injEq, Value.tuple.injEq, Array.mk.injEq] at h
        obtain ⟨h1, h2⟩ := h
        obtain ⟨h3, h4⟩ := encH_inj h2
        subst h1 h4
        exact ⟨rfl, rfl, rfl, h3⟩

theorem of_codeF {con : CallT} {ck : ConC} (hfit : Fits con ck) {cut : List Nat} {lf N : Nat} {c : Code} {a : TM} {H : CH} {k : CE → TM → CH → RR} {r : Value × CH}
    (h : codeF c P (callD N P ck cut lf) lf a H k = some r) : ∃ e a1 H1, evalCode P (evalG P con (funAt P cut) lf N) lf c a H = some (e, a1, H1) ∧ k e a1 H1 = some r := by
  rw [codeF_eq, evalCodeK_eq (callD_eq hfit N)] at h
  cases hev : evalCode P (evalG P con (funAt P cut) lf N) lf c a H with
  | none => rw [hev] at h; cases h
  | some x =>
    obtain ⟨e, a1, H1⟩ := x
    rw [hev] at h
    exact ⟨e, a1, H1, rfl, h⟩

theorem isN_eq {e : CE} (h : isN e = true) : e = .normal := by cases e <;> first | rfl | cases h

/-- Through the first pieces, to a state of the form that the kernel found. -/
theorem St.through {con : CallT} {ck : ConC} (hfit : Fits con ck) (hcon : CallOK P con) (hm : P.follows .mixedOrders = true) {cut : List Nat} {lf N n : Nat} (hn : n < 1048576) {k : Nat} {c : Code} (hok : codeOk n c = true)
    {w0 w : World} {b : Act} {d : Nat → Value} {own0 : T Value} {H : CH} (h : St w0 n { base := fun t => some (d t), own := own0 } H b w) (hd : DOK n d own0) {srcs : List Src} {flags : List Bool} {ts : List Nat} {vs : List Value} {bs bs2 : List Blk}
    (hrun : codeF (takeC k c) P (callD N P ck cut lf) lf { base := fun t => some (d t), own := own0 } H (kForm isN srcs flags ts n own0) = some (.tuple ⟨vs⟩, encH { base := fun t => some (d t), own := .leaf } bs))
    (hlen : Nat.blt srcs.length 1099511627775 = true) (hf : ∀ ms, Forms ms flags bs bs2) {Q : Exit → Act → World → Prop}
    (hQ : ∀ d2 jb b' w', DOK n d2 (zipT ts vs) → St w0 n (stA d2 ts vs) (stH n jb bs2) b' w' → (dropC k c).wp P Q b' w') : c.wp P Q b w := by
  obtain ⟨e, a1, H1, hev, hk⟩ := of_codeF hfit hrun
  obtain ⟨h1, h2, h3, h4⟩ := kForm_some hk
  obtain rfl := isN_eq h1
  refine St.cut (evalG_ok hm funAt_ok hcon lf N) hm hn k hok h hev fun b' w' h' => ?_
  have e1 : a1 = { base := fun t => some (d t), own := a1.own } := by
    obtain ⟨base, own, fm⟩ := a1
    simp only [M.mk.injEq, true_and] at h4
    obtain ⟨rfl, rfl⟩ := h4
    rfl
  rw [e1] at h' h3
  obtain ⟨d2, jb, g1, g2⟩ := h'.toForm hd h2 h3 hlen hf
  exact hQ d2 jb b' w' g1 g2
end Go.CM

/-! A call whose text is run piece by piece. -/
namespace Go.CM
open Go
variable {P : Program}

theorem Less.refl (w : World) : Less w w where
  os := rfl
  tape := rfl
  output := rfl
  size := Nat.le_refl _
  same := fun _ _ => rfl
  new := fun n h1 h2 => absurd h2 (by omega)

theorem tOf_base : ∀ (l : List Value) (i : Nat), (tOf i l).base = fun _ => none
  | [], _ => rfl
  | _ :: r, i => tOf_base r (i + 1)

/-- The temporaries at a call's begin. -/
def tm1 (args : List Value) : TM := { base := fun _ => some undV, own := (tOf 0 args).own }

theorem tm1_get (args : List Value) (t : Nat) : aget (tm1 args) t = aget (tOf 0 args) t := by
  unfold aget M.get tm1
  rw [tOf_base]
  cases (tOf 0 args).own.get t <;> rfl

/-- What a law's body must end in. -/
def Ends (P : Program) (w0 : World) (n t0 : Nat) : Exit → Act → World → Prop := fun e b' w' => (e = .normal ∨ e = .ret) ∧ ∃ a1 H1, aget a1 t0 = .bool true ∧ St w0 n a1 H1 b' w'

theorem calls_bySt {f : FuncId} {fn : Func} {c : Code} {t0 : Nat} (hf : P.funcs[f]? = some fn) (hb : fn.body = some c) (hnt : fn.ntmps < 1048575) {args args' : Array Value} (hargs : args.size ≤ fn.ntmps) (hres : fn.results.toList = [.tmp t0])
    {ρ : Ren} {H : CH} {w : World} (hr : HR ρ H w) (hro : RO H) (ha : AR ρ args args') (hbody : ∀ b, St w fn.ntmps (tm1 args.toList) H b w → c.wp P (Ends P w fn.ntmps t0) b w) :
    Calls P f args' w (fun e w' => e = .returned (.bool true) ∧ Less w w') := by
  refine calls_of_wp hf hb ?_
  have ht := TR.args ha hnt hargs
  have hno : ∀ n, ¬ Im ρ H n := fun n ⟨b, i, k, _, h1, _, h2, _⟩ => by rw [hro b k h1] at h2; cases h2
  have hst : St w fn.ntmps (tm1 args.toList) H { tmps := args' ++ Array.replicate (fn.ntmps - args'.size) Go.undef, defers := [] } w :=
    ⟨ρ, hr, ⟨ht.size, fun t => by rw [tm1_get]; exact ht.get t⟩, Less.refl w, fun m hm => absurd hm (hno m), rfl⟩
  refine wp_mono (hbody _ hst) ?_
  rintro e b' w' ⟨he, a1, H1, hv, ρ1, h1, h2, h3, _, h5⟩
  have hc : cresults P H1 a1 fn.results.toList = some [.bool true] := by rw [hres]; simp only [cresults, hv]
  obtain ⟨l', r1, r2⟩ := run_results (P := P) h1 h2 fn.results.toList _ hc
  have hrun : (results fn b'.tmps).run P w' = .ok (if hs : l'.toArray.size = 1 then l'.toArray[0] else .tuple l'.toArray) w' := by
    rw [results_eq]
    simp only [Sem.run_bind]
    rw [Array.mapM_eq_mapM_toList, Sem.run_map, r1]
    rfl
  have hone : (if hs : l'.toArray.size = 1 then l'.toArray[0] else .tuple l'.toArray) = .bool true := by
    cases r2 with
    | cons hv1 hrest =>
      cases hrest
      cases hv1
      rfl
  have post : b'.defers = [] ∧ ∃ v', (results fn b'.tmps).run P w' = .ok v' w' ∧ (Ending.returned v' = .returned (.bool true) ∧ Less w w') := ⟨h5, _, hrun, by rw [hone], h3⟩
  rcases he with rfl | rfl
  · exact post
  · exact post

/-- At a function's end: what it tells. -/
def kTell (t0 : Nat) : CE → TM → CH → RR := fun e a _ =>
  match e with
  | .normal => some (aget a t0, H0)
  | .ret => some (aget a t0, H0)
  | .exit _ => none

theorem St.last {con : CallT} {ck : ConC} (hfit : Fits con ck) (hcon : CallOK P con) (hm : P.follows .mixedOrders = true) {cut : List Nat} {lf N n t0 : Nat} (hn : n < 1048576) {c : Code} (hok : codeOk n c = true)
    {w0 w : World} {b : Act} {a : TM} {H : CH} (h : St w0 n a H b w) (hrun : codeF c P (callD N P ck cut lf) lf a H (kTell t0) = some (.bool true, H0)) : c.wp P (Ends P w0 n t0) b w := by
  obtain ⟨e, a1, H1, hev, hk⟩ := of_codeF hfit hrun
  refine St.code (evalG_ok hm funAt_ok hcon lf N) hm hn hok h hev fun b' w' h' => ?_
  cases e with
  | normal => simp only [kTell, Option.some.injEq, Prod.mk.injEq, and_true] at hk; exact ⟨.inl rfl, a1, H1, hk, h'⟩
  | ret => simp only [kTell, Option.some.injEq, Prod.mk.injEq, and_true] at hk; exact ⟨.inr rfl, a1, H1, hk, h'⟩
  | exit i => cases hk
end Go.CM
