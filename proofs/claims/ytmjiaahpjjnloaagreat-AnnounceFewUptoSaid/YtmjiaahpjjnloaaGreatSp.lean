/- What the functions do to the memories and procs that they are given: their contracts. The conditions stand in each. -/
import Derived.Test.YtmjiaahpjjnloaaGreatSpA
import Derived.Sort.AssemblyPlain
set_option linter.unusedVariables false
set_option linter.unusedSimpArgs false

set_option linter.unusedVariables false
set_option linter.unusedSimpArgs false
namespace Go.Proofs.YtmjiaahpjjnloaaGreat
open Go Go.CM
theorem Same.agg6 {h st er fl : Nat} {p : Option Addr} {l c : Nat} {b : Bool} {K : Prop} (k : K) : Same (.agg ⟨[u64 h, u64 st, iN er, u64 fl, .slice p l c, .bool b]⟩) (.agg ⟨[u64 h, u64 st, iN er, u64 fl, .slice p l c, .bool b]⟩) K := ⟨Must.mk (by simp [veq, veqL]) k⟩
instance {h st er fl : Nat} {p : Option Addr} {l c : Nat} {b : Bool} {K : Prop} : Stp (Same (.agg ⟨[u64 h, u64 st, iN er, u64 fl, .slice p l c, .bool b]⟩) (.agg ⟨[u64 h, u64 st, iN er, u64 fl, .slice p l c, .bool b]⟩) K) K := ⟨Same.agg6⟩
attribute [local irreducible] AsBool AsWant AsNat AsInt AsCnt AsPtr AsSlc AsLen AsStr AsAgg AsTup AsFn AsIfc Nth Sc NotNil IsNil Must Cd codeW funW Sat SatL wrapN subM mkRow ltZ leZ ltN leN
variable {con : CallT}
theorem p13_hlt {s : P13} (h : s.Tl) : s.told.h < 18446744073709551616 := by
  cases h0 : s.isS with
  | true =>
    rw [p13_toldS h0]
    show s.sn.handle < _
    unfold SnapS.handle
    by_cases ho : s.sn.ok = true
    · rw [if_pos ho]
      obtain ⟨h1, h2⟩ := h.sn h0 ho
      omega
    · rw [if_neg ho]; omega
  | false =>
    cases h2 : s.isN with
    | true => rw [p13_toldN h0 h2]; show 0 < _; omega
    | false => rw [p13_toldL h0 h2]; show 0 < _; omega
structure C13 where
  kind : Int
  h : Nat
abbrev C13R (v : Value) (l : List C13) : HP := RowsR 2 (fun (c : C13) cs _ => cs = [i64 c.kind, u64 c.h]) v l
theorem el_told : elemOk Tryz.prog 204 43 6 64 = true := by kernel_rfl
theorem sl_told : ∃ e, Tryz.prog.underlying 204 = some (.slice e) := ⟨43, by kernel_rfl⟩
/-- The handles that rows tell. -/
def Hds (rows : List (List Value)) (hd : List Nat) : Prop := hd.length = rows.length ∧ (∀ (i : Nat) row x, rows[i]? = some row → hd[i]? = some x → row[0]? = some (u64 x)) ∧ ∀ x ∈ hd, x < 18446744073709551616
theorem Hds.nil : Hds [] [] := ⟨rfl, fun i row x h => by simp at h, fun x h => nomatch h⟩
theorem Hds.snoc {rows : List (List Value)} {hd : List Nat} (h : Hds rows hd) {x : Nat} {r : List Value} (hr : r[0]? = some (u64 x)) (hx : x < 18446744073709551616) : Hds (rows ++ [r]) (hd ++ [x]) := by
  obtain ⟨h1, h2, h3⟩ := h
  refine ⟨by simp [h1], fun i row y hi hy => ?_, fun y hy => ?_⟩
  · by_cases hl : i < rows.length
    · rw [List.getElem?_append_left hl] at hi
      rw [List.getElem?_append_left (by omega)] at hy
      exact h2 i row y hi hy
    · rw [List.getElem?_append_right (by omega)] at hi hy
      rw [h1] at hy
      cases e : i - rows.length with
      | zero => rw [e] at hi hy; cases hi; cases hy; exact hr
      | succ k => rw [e] at hi; simp at hi
  · rcases List.mem_append.1 hy with h | h
    · exact h3 y h
    · rw [List.mem_singleton.1 h]; exact hx
theorem bh_lt {kind : Int} {h : Nat} {hd : List Nat} (h1 : h < 18446744073709551616) (h2 : ∀ x ∈ hd, x < 18446744073709551616) : bh kind h hd < 18446744073709551616 := by
  unfold bh
  split
  · rw [List.getD_eq_getElem?_getD]
    cases e : hd[h]? with
    | none => simp
    | some x => exact h2 x (List.mem_of_getElem? e)
  · exact h1
theorem has_pull {A : HP} {L R : List HP} (p : Pull L A R) (m : ∀ {g h : PH}, A g → Subh g h → A h) : Has L A := fun h a => (Has.here (L := R) m) h (p h a)
theorem call_yes {f : FuncId} {args : List Value} {H : CH} {K : KP} {v : Value} (h : con f ⟨args⟩ H = some (v, H)) (k : K v H) : Call1 Tryz.prog con f args H K := ⟨⟨0, v, H, h, k⟩⟩
theorem fine0 (n : Nat) : Fine (mem0 n) := ⟨fun x hx => by
  have := List.eq_of_mem_replicate hx
  omega, fun a ha => nomatch ha⟩
end Go.Proofs.YtmjiaahpjjnloaaGreat

set_option linter.unusedVariables false
set_option linter.unusedSimpArgs false
namespace Go.Proofs.YtmjiaahpjjnloaaGreat
open Go Go.CM
attribute [local irreducible] AsBool AsWant AsNat AsInt AsCnt AsPtr AsSlc AsLen AsStr AsAgg AsTup AsFn AsIfc Nth Sc NotNil IsNil Must Cd codeW funW Sat SatL wrapN subM mkRow ltZ leZ ltN leN
variable {con : CallT}
/-! ### threads of calls, pick by pick -/
structure Th13 where
  told : List (T13 × Bool)
  now : Option P13
  at_ : Nat
structure Seen13 where
  t : T13 × Bool
  from_ : Nat
  to : Int
  th : Nat
  call : C13
structure R13 where
  M : Mem
  ths : List Th13
  all : List Seen13
def z13T : T13 := ⟨0, 0, 0, 0, []⟩
def Seen13.upd (x : Seen13) (t : T13 × Bool) (i : Nat) : Seen13 := { x with t := t, to := if t.2 then Int.ofNat i else x.to }
def seenUpd (all : List Seen13) (a : Nat) (t : T13 × Bool) (i : Nat) : List Seen13 :=
  match all[a]? with
  | some x => all.set a (x.upd t i)
  | none => all
noncomputable def R13.go (g : R13) (i k : Nat) (s : P13) (told : List (T13 × Bool)) (a : Nat) (all : List Seen13) : R13 :=
  { M := (s.step g.M (Int.ofNat k)).2,
    ths := g.ths.set k ⟨told.set (told.length - 1) ((s.step g.M (Int.ofNat k)).1.told, (s.step g.M (Int.ofNat k)).1.fin), if (s.step g.M (Int.ofNat k)).1.fin then none else some (s.step g.M (Int.ofNat k)).1, a⟩,
    all := seenUpd all a ((s.step g.M (Int.ofNat k)).1.told, (s.step g.M (Int.ofNat k)).1.fin) i }
noncomputable def R13.pick (sl : SlotsS) (calls : List (List C13)) (g : R13) (i : Nat) (t : Int) : R13 :=
  match t with
  | .negSucc _ => g
  | .ofNat k =>
    match calls[k]?, g.ths[k]? with
    | some cs, some th =>
      (match th.now with
      | some s => g.go i k s th.told th.at_ g.all
      | none =>
        match cs[th.told.length]? with
        | none => g
        | some c => g.go i k (P13.fresh sl c.kind (bh c.kind c.h (th.told.map fun x => x.1.h))) (th.told ++ [(z13T, false)]) g.all.length (g.all ++ [⟨(z13T, false), i, Int.negSucc 0, k, c⟩]))
    | _, _ => g
structure WF13 (calls : List (List C13)) (g : R13) : Prop where
  len : g.ths.length = calls.length
  th : ∀ (k : Nat) cs th, calls[k]? = some cs → g.ths[k]? = some th → th.told.length ≤ cs.length ∧ (∀ x ∈ th.told, x.1.h < 18446744073709551616) ∧ ∀ s, th.now = some s → s.Ok ∧ s.Tl ∧ th.told ≠ [] ∧ th.at_ < g.all.length
  fine : Fine g.M
theorem seenUpd_len (all : List Seen13) (a : Nat) (t : T13 × Bool) (i : Nat) : (seenUpd all a t i).length = all.length := by
  unfold seenUpd
  split <;> simp
theorem wf_go {calls : List (List C13)} {g : R13} (W : WF13 calls g) {i k a : Nat} {s : P13} {told : List (T13 × Bool)} {all : List Seen13} {cs : List C13} (hk : calls[k]? = some cs) (hok : s.Ok) (htl : s.Tl) (hne : told ≠ []) (hle : told.length ≤ cs.length)
    (hh : ∀ x ∈ told, x.1.h < 18446744073709551616) (ha : a < all.length) (hall : g.all.length ≤ all.length) : WF13 calls (g.go i k s told a all) := by
  obtain ⟨p1, p2, p3⟩ := p13_step s g.M (Int.ofNat k) hok htl
  have hkl : k < g.ths.length := by rw [W.len]; exact (List.getElem?_eq_some_iff.1 hk).1
  refine ⟨by simp only [R13.go, List.length_set]; exact W.len, fun j cs' th h1 h2 => ?_, (p13_nxt s g.M (Int.ofNat k)).fine W.fine⟩
  simp only [R13.go, seenUpd_len] at h2 ⊢
  by_cases hj : k = j
  · subst hj
    rw [List.getElem?_set_self hkl] at h2
    rw [hk] at h1
    cases h1
    cases h2
    refine ⟨by simpa using hle, fun x hx => ?_, fun s' hs' => ?_⟩
    · rcases List.mem_or_eq_of_mem_set hx with h | rfl
      · exact hh x h
      · exact p13_hlt p2
    · simp only at hs'
      by_cases hf : (s.step g.M (Int.ofNat k)).1.fin = true
      · rw [if_pos hf] at hs'; cases hs'
      · rw [if_neg hf] at hs'
        cases hs'
        refine ⟨p1 (by simpa using hf), p2, fun h => hne ?_, ha⟩
        have := congrArg List.length h
        simp at this
        exact this
  · rw [List.getElem?_set_ne hj] at h2
    obtain ⟨q1, q2, q3⟩ := W.th j cs' th h1 h2
    exact ⟨q1, q2, fun s' hs' => by obtain ⟨u1, u2, u3, u4⟩ := q3 s' hs'; exact ⟨u1, u2, u3, by omega⟩⟩
def Calls64 (calls : List (List C13)) : Prop := ∀ cs ∈ calls, ∀ c ∈ cs, c.h < 18446744073709551616
theorem wf_fresh {calls : List (List C13)} (hc : Calls64 calls) {g : R13} (W : WF13 calls g) {k : Nat} {cs : List C13} {th : Th13} {c : C13} (hk : calls[k]? = some cs) (ht : g.ths[k]? = some th) (ec : cs[th.told.length]? = some c) (sl : SlotsS) :
    (P13.fresh sl c.kind (bh c.kind c.h (th.told.map fun x => x.1.h))).Ok ∧ (P13.fresh sl c.kind (bh c.kind c.h (th.told.map fun x => x.1.h))).Tl ∧ ∀ x ∈ th.told ++ [(z13T, false)], x.1.h < 18446744073709551616 := by
  obtain ⟨q1, q2, q3⟩ := W.th k cs th hk ht
  obtain ⟨f1, f2, _, _⟩ := p13_fresh sl c.kind (bh_lt (kind := c.kind) (hd := th.told.map fun x => x.1.h) (hc cs (List.mem_of_getElem? hk) c (List.mem_of_getElem? ec)) fun x hx => by
    obtain ⟨y, hy, rfl⟩ := List.mem_map.1 hx
    exact q2 y hy)
  refine ⟨f1, f2, fun x hx => ?_⟩
  rcases List.mem_append.1 hx with h | h
  · exact q2 x h
  · rw [List.mem_singleton.1 h]; show 0 < _; omega
/-- What a pick does, case by case. -/
theorem pick_cases (sl : SlotsS) (calls : List (List C13)) (g : R13) (i : Nat) (t : Int) (Q : R13 → Prop) (h0 : Q g)
    (h1 : ∀ (k : Nat) cs th s, t = Int.ofNat k → calls[k]? = some cs → g.ths[k]? = some th → th.now = some s → Q (g.go i k s th.told th.at_ g.all))
    (h2 : ∀ (k : Nat) cs th c, t = Int.ofNat k → calls[k]? = some cs → g.ths[k]? = some th → th.now = none → cs[th.told.length]? = some c →
      Q (g.go i k (P13.fresh sl c.kind (bh c.kind c.h (th.told.map fun x => x.1.h))) (th.told ++ [(z13T, false)]) g.all.length (g.all ++ [⟨(z13T, false), i, Int.negSucc 0, k, c⟩]))) : Q (g.pick sl calls i t) := by
  cases t with
  | negSucc z => exact h0
  | ofNat k =>
    cases e1 : calls[k]? with
    | none => simp only [R13.pick, e1]; exact h0
    | some cs =>
      cases e2 : g.ths[k]? with
      | none => simp only [R13.pick, e1, e2]; exact h0
      | some th =>
        cases e3 : th.now with
        | some s => simp only [R13.pick, e1, e2, e3]; exact h1 k cs th s rfl e1 e2 e3
        | none =>
          cases e4 : cs[th.told.length]? with
          | none => simp only [R13.pick, e1, e2, e3, e4]; exact h0
          | some c => simp only [R13.pick, e1, e2, e3, e4]; exact h2 k cs th c rfl e1 e2 e3 e4
theorem wf_pick {calls : List (List C13)} (hc : Calls64 calls) (sl : SlotsS) {g : R13} (W : WF13 calls g) (i : Nat) (t : Int) : WF13 calls (g.pick sl calls i t) := by
  refine pick_cases sl calls g i t _ W (fun k cs th s _ hk ht hs => ?_) (fun k cs th c _ hk ht hs ec => ?_)
  · obtain ⟨q1, q2, q3⟩ := W.th k cs th hk ht
    obtain ⟨u1, u2, u3, u4⟩ := q3 s hs
    exact wf_go W hk u1 u2 u3 q1 q2 u4 (Nat.le_refl _)
  · obtain ⟨q1, q2, q3⟩ := W.th k cs th hk ht
    obtain ⟨f1, f2, f3⟩ := wf_fresh hc W hk ht ec sl
    have := (List.getElem?_eq_some_iff.1 ec).1
    exact wf_go W hk f1 f2 (by simp) (by simp; omega) f3 (by simp) (by simp)
theorem go_sz (g : R13) (i k a : Nat) (s : P13) (told : List (T13 × Bool)) (all : List Seen13) : (g.go i k s told a all).all.length = all.length ∧ (g.go i k s told a all).M.tr.length ≤ g.M.tr.length + 1 := by
  refine ⟨by simp only [R13.go, seenUpd_len], (p13_nxt s g.M (Int.ofNat k)).tr⟩
theorem pick_sz (calls : List (List C13)) (sl : SlotsS) (g : R13) (i : Nat) (t : Int) : (g.pick sl calls i t).all.length ≤ g.all.length + 1 ∧ (g.pick sl calls i t).M.tr.length ≤ g.M.tr.length + 1 := by
  refine pick_cases sl calls g i t (fun g' => g'.all.length ≤ g.all.length + 1 ∧ g'.M.tr.length ≤ g.M.tr.length + 1) ⟨Nat.le_succ _, Nat.le_succ _⟩ (fun k cs th s _ hk ht hs => ?_) (fun k cs th c _ hk ht hs ec => ?_)
  · obtain ⟨h1, h2⟩ := go_sz g i k th.at_ s th.told g.all
    exact ⟨by omega, h2⟩
  · obtain ⟨h1, h2⟩ := go_sz g i k g.all.length (P13.fresh sl c.kind (bh c.kind c.h (th.told.map fun x => x.1.h))) (th.told ++ [(z13T, false)]) (g.all ++ [⟨(z13T, false), i, Int.negSucc 0, k, c⟩])
    exact ⟨by rw [h1]; simp, h2⟩
/-- All picks up to one. -/
noncomputable def r13At (sl : SlotsS) (calls : List (List C13)) (picks : List Int) (g : R13) : Nat → R13
  | 0 => g
  | j + 1 => match picks[j]? with | some t => (r13At sl calls picks g j).pick sl calls j t | none => r13At sl calls picks g j
theorem r13At_succ {sl : SlotsS} {calls : List (List C13)} {picks : List Int} {g : R13} {j : Nat} {t : Int} (h : picks[j]? = some t) : r13At sl calls picks g (j + 1) = (r13At sl calls picks g j).pick sl calls j t := by
  show (match picks[j]? with | some t => (r13At sl calls picks g j).pick sl calls j t | none => r13At sl calls picks g j) = _
  rw [h]
theorem r13At_wf {sl : SlotsS} {calls : List (List C13)} (hc : Calls64 calls) {picks : List Int} {g : R13} (W : WF13 calls g) : ∀ j, WF13 calls (r13At sl calls picks g j)
  | 0 => W
  | j + 1 => by
    have ih := r13At_wf hc (sl := sl) (picks := picks) W j
    show WF13 calls (match picks[j]? with | some t => (r13At sl calls picks g j).pick sl calls j t | none => r13At sl calls picks g j)
    split
    · exact wf_pick hc sl ih _ _
    · exact ih
theorem r13At_sz {sl : SlotsS} {calls : List (List C13)} {picks : List Int} {g : R13} : ∀ j, (r13At sl calls picks g j).all.length ≤ g.all.length + j ∧ (r13At sl calls picks g j).M.tr.length ≤ g.M.tr.length + j
  | 0 => ⟨Nat.le_refl _, Nat.le_refl _⟩
  | j + 1 => by
    have ih := r13At_sz (sl := sl) (calls := calls) (picks := picks) (g := g) j
    show (match picks[j]? with | some t => (r13At sl calls picks g j).pick sl calls j t | none => r13At sl calls picks g j).all.length ≤ _ ∧ (match picks[j]? with | some t => (r13At sl calls picks g j).pick sl calls j t | none => r13At sl calls picks g j).M.tr.length ≤ _
    split
    · rename_i t _
      have := pick_sz calls sl (r13At sl calls picks g j) j t
      omega
    · omega
/-! ### where all this lies -/
abbrev Pool := List (Value × List Nat)
def poolL (pool : Pool) : List HP := pool.map fun x => Nums x.1 x.2
def tRow (x : T13 × Bool) (w : Value) : List Value := [u64 x.1.h, u64 x.1.st, iN x.1.er, u64 x.1.fl, w, .bool x.2]
def RowT (pool : Pool) (x : T13 × Bool) (row : List Value) : Prop := ∃ w, isCell w = true ∧ row = tRow x w ∧ (w, x.1.need) ∈ pool
def sRow (x : Seen13) (w : Value) : List Value := [u64 x.t.1.h, u64 x.t.1.st, iN x.t.1.er, u64 x.t.1.fl, w, .bool x.t.2, iN x.from_, i64 x.to, iN x.th, i64 x.call.kind, u64 x.call.h]
def RowS (pool : Pool) (x : Seen13) (row : List Value) : Prop := ∃ w, isCell w = true ∧ row = sRow x w ∧ (w, x.t.1.need) ∈ pool
/-- Rows that fit what they tell, one by one. -/
def Rows2 {α : Type} (Q : α → List Value → Prop) (l : List α) (rows : List (List Value)) : Prop := rows.length = l.length ∧ ∀ (i : Nat) x r, l[i]? = some x → rows[i]? = some r → Q x r
theorem Rows2.nil {α : Type} {Q : α → List Value → Prop} : Rows2 Q [] [] := ⟨rfl, fun i x r h => by simp at h⟩
theorem Rows2.snoc {α : Type} {Q : α → List Value → Prop} {l : List α} {rows : List (List Value)} (h : Rows2 Q l rows) {x : α} {r : List Value} (q : Q x r) : Rows2 Q (l ++ [x]) (rows ++ [r]) := by
  obtain ⟨h1, h2⟩ := h
  refine ⟨by simp [h1], fun i y s hy hr => ?_⟩
  by_cases hl : i < l.length
  · rw [List.getElem?_append_left hl] at hy
    rw [List.getElem?_append_left (by omega)] at hr
    exact h2 i y s hy hr
  · rw [List.getElem?_append_right (by omega)] at hy hr
    rw [h1] at hr
    cases e : i - l.length with
    | zero => rw [e] at hy hr; cases hy; cases hr; exact q
    | succ k => rw [e] at hy; simp at hy
theorem Rows2.set {α : Type} {Q : α → List Value → Prop} {l : List α} {rows : List (List Value)} (h : Rows2 Q l rows) (i : Nat) {x : α} {r : List Value} (q : Q x r) : Rows2 Q (l.set i x) (rows.set i r) := by
  obtain ⟨h1, h2⟩ := h
  refine ⟨by simp [h1], fun j y s hy hr => ?_⟩
  rw [List.getElem?_set] at hy hr
  by_cases e : i = j
  · subst e
    simp only [if_true] at hy hr
    by_cases hl : i < l.length
    · rw [if_pos hl] at hy
      rw [if_pos (by omega)] at hr
      cases hy; cases hr; exact q
    · rw [if_neg hl] at hy; cases hy
  · rw [if_neg e] at hy hr
    exact h2 j y s hy hr
theorem Rows2.mono {α : Type} {Q Q' : α → List Value → Prop} {l : List α} {rows : List (List Value)} (h : Rows2 Q l rows) (f : ∀ x r, Q x r → Q' x r) : Rows2 Q' l rows := ⟨h.1, fun i x r h1 h2 => f x r (h.2 i x r h1 h2)⟩
theorem Rows2.at {α : Type} {Q : α → List Value → Prop} {l : List α} {rows : List (List Value)} (h : Rows2 Q l rows) {i : Nat} {x : α} (hx : l[i]? = some x) : ∃ r, rows[i]? = some r ∧ Q x r := by
  have hi := (List.getElem?_eq_some_iff.1 hx).1
  exact ⟨_, List.getElem?_eq_getElem (by have := h.1; omega), h.2 i x _ hx (List.getElem?_eq_getElem (by have := h.1; omega))⟩
theorem RowT.mono {pool pool' : Pool} (h : ∀ x ∈ pool, x ∈ pool') (x : T13 × Bool) (r : List Value) (a : RowT pool x r) : RowT pool' x r := by
  obtain ⟨w, h1, h2, h3⟩ := a
  exact ⟨w, h1, h2, h _ h3⟩
theorem RowS.mono {pool pool' : Pool} (h : ∀ x ∈ pool, x ∈ pool') (x : Seen13) (r : List Value) (a : RowS pool x r) : RowS pool' x r := by
  obtain ⟨w, h1, h2, h3⟩ := a
  exact ⟨w, h1, h2, h _ h3⟩
structure Ph13 where
  vo : Value
  vn : Value
  q : Nat
  nq : Nat
  k : Nat
abbrev nilP : Value := .pointer none
def NowP (vn : Value) (now : Option P13) : HP := fun h => match now with | none => vn = nilP | some s => ∃ p, vn = ptr p 0 ∧ PrAt13 p s h
def ThP (m : Nat) (pool : Pool) (ph : Ph13) (th : Th13) : HP := fun h => ∃ rows, Rows2 (RowT pool) th.told rows ∧ SatL [Vec ph.vo 43 6 rows, NowP ph.vn th.now, ViewAt ph.q m (Int.ofNat ph.k) ph.nq] h
theorem ThP.mono {m : Nat} {pool pool' : Pool} (hp : ∀ x ∈ pool, x ∈ pool') {ph : Ph13} {th : Th13} (g : PH) (a : ThP m pool ph th g) : ThP m pool' ph th g := by
  obtain ⟨rows, h1, h2⟩ := a
  exact ⟨rows, h1.mono fun x r => RowT.mono hp x r, h2⟩
def ThrP (l : List C13) (cs : List Value) : HP := fun h => ∃ xv, cs = [xv] ∧ C13R xv l h
abbrev Thr13 (v : Value) (l : List (List C13)) : HP := RowsR 1 ThrP v l
theorem has_thr {v : Value} {l : List (List C13)} {L : List HP} : Has (Thr13 v l :: L) (Thr13 v l) := Has.here fun a t => RowsR.mono (fun ⟨x, e, a⟩ t => ⟨x, e, RowsR.mono (fun a _ => a) a t⟩) a t
theorem has_ints {v : Value} {l : List Int} {L : List HP} : Has (IntsR v l :: L) (IntsR v l) := Has.here fun a t => IntsR.mono a t
end Go.Proofs.YtmjiaahpjjnloaaGreat

set_option linter.unusedVariables false
set_option linter.unusedSimpArgs false
namespace Go.Proofs.YtmjiaahpjjnloaaGreat
open Go Go.CM
attribute [local irreducible] AsBool AsWant AsNat AsInt AsCnt AsPtr AsSlc AsLen AsStr AsAgg AsTup AsFn AsIfc Nth Sc NotNil IsNil Must Cd codeW funW Sat SatL wrapN subM mkRow ltZ leZ ltN leN
variable {con : CallT}
theorem el_seen : elemOk Tryz.prog 35 47 11 104 = true := by kernel_rfl
theorem sl_seen : ∃ e, Tryz.prog.underlying 35 = some (.slice e) := ⟨47, by kernel_rfl⟩
theorem ths_put {m k : Nat} {pool pool' : Pool} (hp : ∀ x ∈ pool, x ∈ pool') {phs : List Ph13} {ths : List Th13} {ph : Ph13} {th : Th13} {L : List HP} {H : CH} (h1 : k < phs.length) (h2 : k < ths.length)
    (hs : Sat (ThP m pool' ph th :: SatL ((List.zipWith (ThP m pool) phs ths).set k Emp) :: L) H) : Sat (SatL (List.zipWith (ThP m pool') (phs.set k ph) (ths.set k th)) :: L) H := by
  have h3 := Sat.putAll (i := k) (by simp; omega) hs
  refine h3.impAll (by simp) fun i A B e1 e2 g a => ?_
  rw [List.getElem?_set] at e1
  rw [List.getElem?_zipWith, List.getElem?_set, List.getElem?_set] at e2
  by_cases hi : k = i
  · subst hi
    rw [if_pos rfl, if_pos (by simp; omega)] at e1
    rw [if_pos rfl, if_pos rfl, if_pos h1, if_pos h2] at e2
    cases e1
    cases e2
    exact a
  · rw [if_neg hi, List.getElem?_zipWith] at e1
    rw [if_neg hi, if_neg hi] at e2
    cases e3 : phs[i]? with
    | none => rw [e3] at e1; cases e1
    | some ph' =>
      cases e4 : ths[i]? with
      | none => rw [e3, e4] at e1; cases e1
      | some th' =>
        rw [e3, e4] at e1 e2
        cases e1
        cases e2
        exact ThP.mono hp g a
theorem run13_put {m k bo bn ba eo en ea p1 p3 a n2 : Nat} {M2 : Mem} {vo vn' w vv va xv xw : Value} {nd : List Nat} {sl : SlotsS} {n0 : Int} {most : Nat} {calls : List (List C13)} {picks : List Int} {pool : Pool} {phs : List Ph13} {ths : List Th13} {ph : Ph13} {rowsA rows' : List (List Value)} {told' : List (T13 × Bool)} {now' : Option P13} {R : List HP} {H : CH}
    (h1 : k < phs.length) (h2 : k < ths.length) (hph : phs[k]? = some ph) (hrw : Rows2 (RowT ((w, nd) :: pool)) told' rows')
    (hs : Sat (Vec vo 43 6 rows' :: NowP vn' now' :: ViewAt ph.q m (Int.ofNat k) n2 :: Nums w nd :: SatL ((List.zipWith (ThP m pool) phs ths).set k Emp) :: MemP m M2 :: Row bo eo 0 true ((phs.map Ph13.vo).set k vo) :: Row bn en 0 true ((phs.map Ph13.vn).set k vn') :: Row ba ea 0 true ((ths.map fun t => iN t.at_).set k (iN a)) :: Vec vv 68 1 (phs.map fun p => [ptr p.q 0]) :: Vec va 47 11 rowsA :: SatL (poolL pool) :: Own p1 [u64 sl.cam, u64 sl.first, i64 sl.count, u64 sl.most] :: Own p3 [i64 n0, u64 most, xv, xw] :: Thr13 xv calls :: IntsR xw picks :: R) H) :
    Sat (MemP m M2 :: Row bo eo 0 true ((phs.set k ⟨vo, vn', ph.q, n2, k⟩).map Ph13.vo) :: Row bn en 0 true ((phs.set k ⟨vo, vn', ph.q, n2, k⟩).map Ph13.vn) :: Row ba ea 0 true ((ths.set k ⟨told', now', a⟩).map fun t => iN t.at_) :: Vec vv 68 1 ((phs.set k ⟨vo, vn', ph.q, n2, k⟩).map fun p => [ptr p.q 0]) :: SatL (List.zipWith (ThP m ((w, nd) :: pool)) (phs.set k ⟨vo, vn', ph.q, n2, k⟩) (ths.set k ⟨told', now', a⟩)) :: Vec va 47 11 rowsA :: SatL (poolL ((w, nd) :: pool)) :: Own p1 [u64 sl.cam, u64 sl.first, i64 sl.count, u64 sl.most] :: Own p3 [i64 n0, u64 most, xv, xw] :: Thr13 xv calls :: IntsR xw picks :: R) H := by
  have hvw : (phs.map fun p => [ptr p.q 0])[k]? = some [ptr ph.q 0] := by rw [List.getElem?_map, hph]; rfl
  have e4 : (phs.set k ⟨vo, vn', ph.q, n2, k⟩).map (fun p => [ptr p.q 0]) = phs.map fun p => [ptr p.q 0] := by rw [List.map_set]; exact set_self hvw
  rw [e4, List.map_set, List.map_set, List.map_set]
  have h3 : Sat ([Vec vo 43 6 rows', NowP vn' now', ViewAt ph.q m (Int.ofNat k) n2] ++ (SatL ((List.zipWith (ThP m pool) phs ths).set k Emp) :: Nums w nd :: MemP m M2 :: Row bo eo 0 true ((phs.map Ph13.vo).set k vo) :: Row bn en 0 true ((phs.map Ph13.vn).set k vn') :: Row ba ea 0 true ((ths.map fun t => iN t.at_).set k (iN a)) :: Vec vv 68 1 (phs.map fun p => [ptr p.q 0]) :: Vec va 47 11 rowsA :: SatL (poolL pool) :: Own p1 [u64 sl.cam, u64 sl.first, i64 sl.count, u64 sl.most] :: Own p3 [i64 n0, u64 most, xv, xw] :: Thr13 xv calls :: IntsR xw picks :: R)) H := hs.ent ee
  have h4 := h3.close (A := ThP m ((w, nd) :: pool) ⟨vo, vn', ph.q, n2, k⟩ ⟨told', now', a⟩) fun g b => ⟨rows', hrw, b⟩
  have h5 := ths_put (fun x hx => List.mem_cons_of_mem _ hx) h1 h2 h4
  have h6 : Sat ([Nums w nd, SatL (poolL pool)] ++ (SatL (List.zipWith (ThP m ((w, nd) :: pool)) (phs.set k ⟨vo, vn', ph.q, n2, k⟩) (ths.set k ⟨told', now', a⟩)) :: MemP m M2 :: Row bo eo 0 true ((phs.map Ph13.vo).set k vo) :: Row bn en 0 true ((phs.map Ph13.vn).set k vn') :: Row ba ea 0 true ((ths.map fun t => iN t.at_).set k (iN a)) :: Vec vv 68 1 (phs.map fun p => [ptr p.q 0]) :: Vec va 47 11 rowsA :: Own p1 [u64 sl.cam, u64 sl.first, i64 sl.count, u64 sl.most] :: Own p3 [i64 n0, u64 most, xv, xw] :: Thr13 xv calls :: IntsR xw picks :: R)) H := h5.ent ee
  have h7 := h6.close (A := SatL (poolL ((w, nd) :: pool))) fun g b => satL_cons b
  exact h7.ent ee
set_option maxRecDepth 100000 in
theorem run13_pick (hc : Con con lives) {sl : SlotsS} {calls : List (List C13)} (hc64 : Calls64 calls) {g : R13} (W : WF13 calls g) {R : List HP} {H : CH} {m bo bn ba eo en ea p1 p3 j n : Nat} {vv va xv xw : Value} {n0 : Int} {most : Nat} {t : Int} {picks : List Int} {phs : List Ph13} {pool : Pool} {rowsA : List (List Value)} {σ : TF} {Q : KX}
    (hn : n = calls.length) (hl1 : calls.length ≤ 1048576) (hl2 : ∀ cs ∈ calls, cs.length ≤ 1048576) (hpl : phs.length = n) (hpk : ∀ (i : Nat) ph, phs[i]? = some ph → ph.k = i ∧ ph.nq ≤ j) (hj : j < picks.length) (hpc : picks.length ≤ 1048576) (et : picks[j]? = some t) (htr' : g.M.tr.length ≤ 10 + j) (hal : g.all.length ≤ j)
    (hp0 : (snil, []) ∈ pool) (hra : Rows2 (RowS pool) g.all rowsA)
    (hs : Sat (MemP m g.M :: Row bo eo 0 true (phs.map Ph13.vo) :: Row bn en 0 true (phs.map Ph13.vn) :: Row ba ea 0 true (g.ths.map fun t => iN t.at_) :: Vec vv 68 1 (phs.map fun p => [ptr p.q 0]) :: SatL (List.zipWith (ThP m pool) phs g.ths) :: Vec va 47 11 rowsA :: SatL (poolL pool) :: Own p1 [u64 sl.cam, u64 sl.first, i64 sl.count, u64 sl.most] :: Own p3 [i64 n0, u64 most, xv, xw] :: Thr13 xv calls :: IntsR xw picks :: R) H)
    (a4 : σ 4 = ptr p1 0) (a5 : σ 5 = ptr p3 0) (a8 : σ 8 = slc bo 0 n n) (a9 : σ 9 = slc bn 0 n n) (a10 : σ 10 = slc ba 0 n n) (a11 : σ 11 = vv) (a13 : σ 13 = va) (a14 : σ 14 = iN j)
    (kk : ∀ σ1 H1 phs' pool' va' rowsA', σ1 4 = ptr p1 0 → σ1 5 = ptr p3 0 → σ1 8 = slc bo 0 n n → σ1 9 = slc bn 0 n n → σ1 10 = slc ba 0 n n → σ1 11 = vv → σ1 13 = va' → σ1 14 = iN (j + 1) → phs'.length = n → (∀ (i : Nat) ph, phs'[i]? = some ph → ph.k = i ∧ ph.nq ≤ j + 1) → (snil, []) ∈ pool' → Rows2 (RowS pool') (g.pick sl calls j t).all rowsA' →
      ∀
      (h1 : Sat (MemP m (g.pick sl calls j t).M :: Row bo eo 0 true (phs'.map Ph13.vo) :: Row bn en 0 true (phs'.map Ph13.vn) :: Row ba ea 0 true ((g.pick sl calls j t).ths.map fun t => iN t.at_) :: Vec vv 68 1 (phs'.map fun p => [ptr p.q 0]) :: SatL (List.zipWith (ThP m pool') phs' (g.pick sl calls j t).ths) :: Vec va' 47 11 rowsA' :: SatL (poolL pool') :: Own p1 [u64 sl.cam, u64 sl.first, i64 sl.count, u64 sl.most] :: Own p3 [i64 n0, u64 most, xv, xw] :: Thr13 xv calls :: IntsR xw picks :: R) H1)
      , Q .normal σ1 H1) :
    codeW (lpAt Tryz.prog 17 1) Tryz.prog con σ H Q := by
  rw [l13runB_W]
  rw [a4, a5, a8, a9, a10, a13, a14]
  obtain ⟨bw, cw, csw, rfl, _, ecw, hldw⟩ := rows_at hs (Has.skip (Has.skip (Has.skip (Has.skip (Has.skip (Has.skip (Has.skip (Has.skip (Has.skip (Has.skip (Has.skip has_ints))))))))))) et
  obtain ⟨pxv, cxv, exv⟩ := (hs.has (Has.skip (Has.skip (Has.skip (Has.skip (Has.skip (Has.skip (Has.skip (Has.skip (Has.skip (Has.skip has_thr))))))))))).len
  have htr : g.M.tr.length < 1000000000 := by omega
  have hkk : ∀ (i : Nat) ph, phs[i]? = some ph → ph.k = i ∧ ph.nq ≤ j + 1 := fun i ph h => ⟨(hpk i ph h).1, by have := (hpk i ph h).2; omega⟩
  have idle : ∀ (σ1 : TF), g.pick sl calls j t = g → σ1 4 = ptr p1 0 → σ1 5 = ptr p3 0 → σ1 8 = slc bo 0 n n → σ1 9 = slc bn 0 n n → σ1 10 = slc ba 0 n n → σ1 11 = vv → σ1 13 = va → σ1 14 = iN (j + 1) → Q .normal σ1 H := fun σ1 hp b4 b5 b8 b9 b10 b11 b13 b14 => by
    rw [hp] at kk
    exact kk σ1 H phs pool va rowsA b4 b5 b8 b9 b10 b11 b13 b14 hpl hkk hp0 hra hs
  repeat (refine gO ?_; intros)
  refine Cd.t (ltZ_t hj) ?_
  repeat (refine gO ?_; intros)
  refine Must.mk (ltN_t hj) ?_
  refine hldw _ 0 _ _ (by show 0 + j * 1 = _; omega) (by rw [ecw]; rfl) ?_
  repeat (refine gO ?_; intros)
  cases t with
  | negSucc z =>
    refine Cd.t ltZ_neg ?_
    repeat (refine gO ?_; intros)
    try rw [addInt]
    refine inR_nat (by omega) ?_
    repeat (refine gO ?_; intros)
    exact idle _ rfl a4 a5 a8 a9 a10 a11 a13 rfl
  | ofNat k =>
    refine Cd.f (ltZ_f (Nat.zero_le _)) ?_
    repeat (refine gO ?_; intros)
    refine AsLen.eq exv ?_
    repeat (refine gO ?_; intros)
    by_cases hk : k < calls.length
    · refine Cd.f (leZ_f hk) ?_
      obtain ⟨cs, ecs⟩ : ∃ x, calls[k]? = some x := ⟨_, List.getElem?_eq_getElem hk⟩
      obtain ⟨th, eth⟩ : ∃ x, g.ths[k]? = some x := ⟨_, List.getElem?_eq_getElem (by have := W.len; omega)⟩
      obtain ⟨ph, hph⟩ : ∃ x, phs[k]? = some x := ⟨_, List.getElem?_eq_getElem (by omega)⟩
      obtain ⟨ek, hnq'⟩ := hpk k ph hph
      have hnq : ph.nq < 1000000000 := by omega
      obtain ⟨q1, q2, q3⟩ := W.th k cs th ecs eth
      have hcs := hl2 cs (List.mem_of_getElem? ecs)
      have hthl := W.len
      have hkn : k < n := by omega
      have hgt : (List.zipWith (ThP m pool) phs g.ths)[k]? = some (ThP m pool ph th) := zip_get' _ hph eth
      have hvo0 : (phs.map Ph13.vo)[k]? = some ph.vo := by rw [List.getElem?_map, hph]; rfl
      have hvn0 : (phs.map Ph13.vn)[k]? = some ph.vn := by rw [List.getElem?_map, hph]; rfl
      have hs1 : Sat (SatL (List.zipWith (ThP m pool) phs g.ths) :: _) H := hs.pull pp
      have hs2 := hs1.pull (pull_all Pull.here hgt)
      obtain ⟨u1, u2, v1, v2, dd, ⟨rows, hrw, hin⟩, hRR⟩ := hs2.opens Pull.here
      have hs3 := Sat.merge v1 v2 dd hin hRR
      simp only [List.cons_append, List.nil_append] at hs3
      rw [ek] at hs3
      clear hs1 hs2
      obtain ⟨pvo, evo⟩ := (hs3.has Has.vec).shape
      rw [hrw.1] at evo
      repeat (refine gO ?_; intros)
      refine Must.mk (ltN_t hkn) (ldRow hs3 (off1 k) hvo0 ?_)
      refine AsLen.eq evo ?_
      repeat (refine gO ?_; intros)
      refine Must.mk (ltN_t hkn) (ldRow hs3 (off1 k) hvn0 ?_)
      cases hnow : th.now with
      | some s =>
        rw [hnow] at hs3
        obtain ⟨s1, s2', s3, s4⟩ := q3 s hnow
        have hs4 : Sat (NowP ph.vn (some s) :: _) H := hs3.pull pp
        obtain ⟨u1, u2, v1, v2, dd, ⟨p, evn, hin⟩, hRR⟩ := hs4.opens Pull.here
        have hs5 := Sat.merge (L1 := [PrAt13 p s]) v1 v2 dd (SatL.one hin) hRR
        simp only [List.cons_append, List.nil_append] at hs5
        rw [evn]
        repeat (refine gO ?_; intros)
        have hpos : 0 < th.told.length := List.length_pos_iff.2 s3
        have hsA : Sat (Vec ph.vo 43 6 rows :: PrAt13 p s :: ViewAt ph.q m (Int.ofNat k) ph.nq :: SatL ((List.zipWith (ThP m pool) phs g.ths).set k Emp) :: MemP m g.M :: Row bo eo 0 true ((phs.map Ph13.vo).set k ph.vo) :: Row bn en 0 true ((phs.map Ph13.vn).set k (ptr p 0)) :: Row ba ea 0 true ((g.ths.map fun t => iN t.at_).set k (iN th.at_)) :: Vec vv 68 1 (phs.map fun p => [ptr p.q 0]) :: Vec va 47 11 rowsA :: SatL (poolL pool) :: Own p1 [u64 sl.cam, u64 sl.first, i64 sl.count, u64 sl.most] :: Own p3 [i64 n0, u64 most, xv, slc bw 0 picks.length cw] :: Thr13 xv calls :: IntsR (slc bw 0 picks.length cw) picks :: R) H := by
          rw [set_self hvo0, set_self (show (phs.map Ph13.vn)[k]? = some (ptr p 0) by rw [hvn0, evn]), set_self (show (g.ths.map fun t => iN t.at_)[k]? = some (iN th.at_) by rw [List.getElem?_map, eth]; rfl)]
          exact hs5.ent ee
        clear hs3 hs4 hs5
        have hp : g.pick sl calls j (Int.ofNat k) = g.go j k s th.told th.at_ g.all := by simp only [R13.pick, ecs, eth, hnow]
        rw [hp] at kk
        simp only [R13.go] at kk
        obtain ⟨vo, evo'⟩ : ∃ vo, vo = ph.vo := ⟨_, rfl⟩
        rw [← evo'] at hsA
        have hvo : ((phs.map Ph13.vo).set k vo)[k]? = some vo := List.getElem?_set_self (by simp; omega)
        have hvn : ((phs.map Ph13.vn).set k (ptr p 0))[k]? = some (ptr p 0) := List.getElem?_set_self (by simp; omega)
        have hat : ((g.ths.map fun t => iN t.at_).set k (iN th.at_))[k]? = some (iN th.at_) := List.getElem?_set_self (by simp; omega)
        refine Must.mk (ltN_t hkn) (ldRow hsA (off1 k) hvn ?_)
        have hvw : (phs.map fun p => [ptr p.q 0])[k]? = some [ptr ph.q 0] := by rw [List.getElem?_map, hph]; rfl
        obtain ⟨bv, evv, _⟩ := (Sat.has hsA (Has.skip (Has.skip (Has.skip (Has.skip (Has.skip (Has.skip (Has.skip (Has.skip Has.vec))))))))).slot hvw
        refine AsSlc.eq (a11.trans evv) ?_
        repeat (refine gO ?_; intros)
        refine Must.mk (ltN_t (by simp; omega)) ?_
        refine ldVec hsA (Has.skip (Has.skip (Has.skip (Has.skip (Has.skip (Has.skip (Has.skip (Has.skip Has.vec)))))))) evv hvw (j := 0) (by show 0 + k * 1 = _; omega) (by omega) rfl ?_
        have hx := p13_step s g.M (Int.ofNat k) s1 s2'
        refine p13step_ok hc s hsA pp pp pp hnq htr W.fine.bd s1 fun n2 H2 hn2 h2 => ?_
        generalize (s.step g.M (Int.ofNat k)).1 = s2 at *
        generalize (s.step g.M (Int.ofNat k)).2 = M2 at *
        obtain ⟨x1, x2, x3⟩ := hx
        repeat (refine gO ?_; intros)
        refine Must.mk (ltN_t hkn) (ldRow h2 (off1 k) hvo ?_)
        repeat (refine gO ?_; intros)
        rw [(subInt (a := th.told.length) (b := 1) (by omega))]
        refine inR_nat (by omega) ?_
        repeat (refine gO ?_; intros)
        refine Must.mk (ltN_t hkn) (ldRow h2 (off1 k) hvn ?_)
        refine p13told_ok hc s2 h2 pp x2 fun w H3 h3 => ?_
        obtain ⟨pw, cw', ew⟩ := (h3.has Has.nums).len
        subst ew
        obtain ⟨r0, hr0, w0, _, er0, _⟩ := (hrw).at (i := th.told.length - 1) (List.getElem?_eq_getElem (by omega))
        obtain ⟨b2, evo, _⟩ := (h3.has (Has.skip (Has.skip (Has.skip (Has.skip Has.vec))))).slot hr0
        have hle14 : (rows).length = th.told.length := hrw.1
        rw [hle14] at evo
        subst evo
        repeat (refine gO ?_; intros)
        refine Must.mk (ltN_t (by omega)) ?_
        repeat (refine gO ?_; intros)
        refine stVecN h3 pp hr0 (j := 0) (by show 0 + (th.told.length - 1) * 6 = _; omega) (by show 0 + 6 ≤ 6; omega) rfl fun H4 h4 => ?_
        rw [show ovw [u64 s2.told.h, u64 s2.told.st, iN s2.told.er, u64 s2.told.fl, Value.slice pw s2.told.need.length cw', Value.bool s2.fin] r0 0 = tRow (s2.told, s2.fin) (.slice pw s2.told.need.length cw') from by rw [er0]; rfl] at h4
        have hrw' := ((hrw).mono (RowT.mono (pool' := (.slice pw s2.told.need.length cw', s2.told.need) :: pool) fun x hx => List.mem_cons_of_mem _ hx)).set (th.told.length - 1) (x := (s2.told, s2.fin)) (r := tRow (s2.told, s2.fin) (.slice pw s2.told.need.length cw')) ⟨_, rfl, rfl, List.mem_cons_self ..⟩
        have hr1 : (rows.set (th.told.length - 1) (tRow (s2.told, s2.fin) (.slice pw s2.told.need.length cw')))[th.told.length - 1]? = some (tRow (s2.told, s2.fin) (.slice pw s2.told.need.length cw')) := List.getElem?_set_self (List.getElem?_eq_some_iff.1 hr0).1
        refine ldRow h2 (off1 k) hvo ?_
        repeat (refine gO ?_; intros)
        refine ldRow h3 (off1 k) hvo ?_
        repeat (refine gO ?_; intros)
        refine Must.mk (ltN_t hkn) (ldRow h4 (off1 k) hat ?_)
        repeat (refine gO ?_; intros)
        refine Must.mk (ltN_t hkn) (ldRow h4 (off1 k) hvo ?_)
        repeat (refine gO ?_; intros)
        refine inR_nat (by omega) ?_
        repeat (refine gO ?_; intros)
        refine Must.mk (ltN_t (by omega)) ?_
        refine ldVec h4 Has.vec rfl hr1 (j := 0) (by show 0 + (th.told.length - 1) * 6 + 0 = _; omega) (by omega) rfl ?_
        refine ldVec h4 Has.vec rfl hr1 (j := 1) (by show 0 + (th.told.length - 1) * 6 + 1 = _; omega) (by omega) rfl ?_
        refine ldVec h4 Has.vec rfl hr1 (j := 2) (by show 0 + (th.told.length - 1) * 6 + 2 = _; omega) (by omega) rfl ?_
        refine ldVec h4 Has.vec rfl hr1 (j := 3) (by show 0 + (th.told.length - 1) * 6 + 3 = _; omega) (by omega) rfl ?_
        refine ldVec h4 Has.vec rfl hr1 (j := 4) (by show 0 + (th.told.length - 1) * 6 + 4 = _; omega) (by omega) rfl ?_
        refine ldVec h4 Has.vec rfl hr1 (j := 5) (by show 0 + (th.told.length - 1) * 6 + 5 = _; omega) (by omega) rfl ?_
        obtain ⟨xs, exs⟩ : ∃ x, (g.all)[th.at_]? = some x := ⟨_, List.getElem?_eq_getElem s4⟩
        obtain ⟨rs, hrs, ws, _, ers, _⟩ := (hra).at exs
        have hva4 : Sat (Vec va 47 11 rowsA :: _) H4 := h4.pull pp
        obtain ⟨bva, eva, _⟩ := (hva4.has Has.vec).slot hrs
        have hln := (hra).1
        rw [hln] at eva
        refine AsSlc.eq eva ?_
        subst eva
        repeat (refine gO ?_; intros)
        refine Must.mk (ltN_t s4) ?_
        repeat (refine gO ?_; intros)
        refine stVecN h4 pp hrs (j := 0) (by show 0 + th.at_ * 11 + 0 = _; omega) (by show 0 + 6 ≤ 11; omega) rfl fun H5 h5 => ?_
        rw [show ovw [u64 s2.told.h, u64 s2.told.st, iN s2.told.er, u64 s2.told.fl, Value.slice pw s2.told.need.length cw', Value.bool s2.fin] rs 0 = sRow { xs with t := (s2.told, s2.fin) } (.slice pw s2.told.need.length cw') from by rw [ers]; rfl] at h5
        have hra' := (hra).mono (RowS.mono (pool' := (.slice pw s2.told.need.length cw', s2.told.need) :: pool) fun x hx => List.mem_cons_of_mem _ hx)
        have hra2 : (rowsA.set th.at_ (sRow { xs with t := (s2.told, s2.fin) } (.slice pw s2.told.need.length cw')))[th.at_]? = some (sRow { xs with t := (s2.told, s2.fin) } (.slice pw s2.told.need.length cw')) := List.getElem?_set_self (List.getElem?_eq_some_iff.1 hrs).1
        have esu : seenUpd g.all th.at_ (s2.told, s2.fin) j = (g.all).set th.at_ (xs.upd (s2.told, s2.fin) j) := by unfold seenUpd; rw [exs]
        rw [esu] at kk
        clear esu x1
        generalize s2.fin = bf at *
        have idx : ∀ (vo' vn' : Value) (i : Nat) (ph' : Ph13), (phs.set k ⟨vo', vn', ph.q, n2, k⟩)[i]? = some ph' → ph'.k = i ∧ ph'.nq ≤ j + 1 := fun vo' vn' i ph' h => by
          rw [List.getElem?_set] at h
          by_cases hi : k = i
          · subst hi
            rw [if_pos rfl, if_pos (by omega)] at h
            cases h
            exact ⟨rfl, by show n2 ≤ _; omega⟩
          · rw [if_neg hi] at h
            exact hkk i ph' h
        repeat (refine gO ?_; intros)
        cases bf with
        | true =>
          simp only [if_true] at kk
          refine Cd.t rfl ?_
          repeat (refine gO ?_; intros)
          refine Must.mk (ltN_t hkn) (ldRow h5 (off1 k) hat ?_)
          repeat (refine gO ?_; intros)
          refine Must.mk (ltN_t s4) ?_
          repeat (refine gO ?_; intros)
          refine stVecN h5 pp hra2 (j := 7) (by show 0 + th.at_ * 11 + 7 = _; omega) (by show 7 + 1 ≤ 11; omega) rfl fun H6 h6 => ?_
          rw [List.set_set, show ovw [iN j] (sRow { xs with t := (s2.told, true) } (.slice pw s2.told.need.length cw')) 7 = sRow (xs.upd (s2.told, true) j) (.slice pw s2.told.need.length cw') from rfl] at h6
          repeat (refine gO ?_; intros)
          refine Must.mk (ltN_t hkn) (st h6 (by rw [off1]; simp; omega) rfl fun H7 h7 => ?_)
          rw [off1, List.set_set] at h7
          repeat (refine gO ?_; intros)
          try rw [addInt]
          refine inR_nat (by omega) ?_
          repeat (refine gO ?_; intros)
          refine kk _ H7 (phs.set k ⟨slc b2 0 th.told.length th.told.length, nilP, ph.q, n2, k⟩) ((.slice pw s2.told.need.length cw', s2.told.need) :: pool) (slc bva 0 (g.all).length (g.all).length) _ a4 a5 a8 a9 a10 a11 (by first | exact a13 | rfl) rfl (by simp [hpl]) (idx _ nilP) (List.mem_cons_of_mem _ hp0) (hra'.set th.at_ ⟨_, rfl, rfl, List.mem_cons_self ..⟩) ?_
          have h8 : Sat (NowP nilP none :: _) H7 := h7.triv fun _ => rfl
          exact run13_put (by omega) (by omega) hph hrw' (h8.ent ee)
        | false =>
          simp only [Bool.false_eq_true, if_false] at kk
          refine Cd.f rfl ?_
          repeat (refine gO ?_; intros)
          try rw [addInt]
          refine inR_nat (by omega) ?_
          repeat (refine gO ?_; intros)
          refine kk _ H5 (phs.set k ⟨slc b2 0 th.told.length th.told.length, ptr p 0, ph.q, n2, k⟩) ((.slice pw s2.told.need.length cw', s2.told.need) :: pool) (slc bva 0 (g.all).length (g.all).length) _ a4 a5 a8 a9 a10 a11 (by first | exact a13 | rfl) rfl (by simp [hpl]) (idx _ (ptr p 0)) (List.mem_cons_of_mem _ hp0) (hra'.set th.at_ ⟨_, rfl, rfl, List.mem_cons_self ..⟩) ?_
          have h7 : Sat (PrAt13 p s2 :: _) H5 := h5.pull pp
          have h8 : Sat (NowP (ptr p 0) (some s2) :: _) H5 := h7.imp fun g a => ⟨p, rfl, a⟩
          exact run13_put (by omega) (by omega) hph hrw' (h8.ent ee)
      | none =>
        rw [hnow] at hs3
        have hs4 : Sat (NowP ph.vn none :: _) H := hs3.pull pp
        obtain ⟨u1, u2, v1, v2, dd, evn, hRR⟩ := hs4.opens Pull.here
        have hs5 := hs4.drop
        have evn : ph.vn = nilP := evn
        rw [evn]
        repeat (refine gO ?_; intros)
        obtain ⟨bx, cx, csx, exv', _, ⟨xvi, ecx, hcl⟩, hldx⟩ := rows_at hs5 (Has.skip (Has.skip (Has.skip (Has.skip (Has.skip (Has.skip (Has.skip (Has.skip (Has.skip (Has.skip (Has.skip (Has.skip has_thr)))))))))))) ecs
        refine AsSlc.eq exv' ?_
        repeat (refine gO ?_; intros)
        refine Must.mk (ltN_t hk) (hldx _ 0 _ _ (by show 0 + k * 1 = _; omega) (by rw [ecx]; rfl) ?_)
        obtain ⟨pi, ci, exi⟩ := RowsR.len hcl
        refine AsLen.eq exi ?_
        by_cases hlt : th.told.length < cs.length
        · refine Cd.f (leZ_f hlt) ?_
          obtain ⟨c, ec⟩ : ∃ x, cs[th.told.length]? = some x := ⟨_, List.getElem?_eq_getElem hlt⟩
          obtain ⟨f1, f2, f3⟩ := wf_fresh hc64 W ecs eth ec sl
          obtain ⟨bi, ci', cc, exi', _, ecc, hldc⟩ := rows_at' hcl ec
          have hp : g.pick sl calls j (Int.ofNat k) = g.go j k (P13.fresh sl c.kind (bh c.kind c.h (th.told.map fun x => x.1.h))) (th.told ++ [(z13T, false)]) g.all.length (g.all ++ [⟨(z13T, false), j, Int.negSucc 0, k, c⟩]) := by simp only [R13.pick, ecs, eth, hnow, ec]
          rw [hp] at kk
          simp only [R13.go] at kk
          rw [show (th.told ++ [(z13T, false)]).length - 1 = th.told.length + 1 - 1 by simp] at kk
          repeat (refine gO ?_; intros)
          refine AsSlc.eq exv' ?_
          repeat (refine gO ?_; intros)
          refine Must.mk (ltN_t hk) (hldx _ 0 _ _ (by show 0 + k * 1 = _; omega) (by rw [ecx]; rfl) ?_)
          refine AsSlc.eq exi' ?_
          refine Must.mk (ltN_t hlt) ?_
          refine hldc _ 0 _ _ (by show 0 + th.told.length * 2 + 0 = _; omega) (by rw [ecc]; rfl) ?_
          refine hldc _ 1 _ _ (by show 0 + th.told.length * 2 + 1 = _; omega) (by rw [ecc]; rfl) ?_
          repeat (refine gO ?_; intros)
          refine Must.mk (ltN_t hkn) (ldRow hs5 (off1 k) hvo0 ?_)
          have hhd : ∀ (i : Nat) row x, rows[i]? = some row → (th.told.map fun x => x.1.h)[i]? = some x → row[0]? = some (u64 x) := fun i row x h1 h2 => by
            rw [List.getElem?_map] at h2
            cases e : th.told[i]? with
            | none => rw [e] at h2; cases h2
            | some y =>
              rw [e] at h2
              cases h2
              obtain ⟨w, _, rfl, _⟩ := hrw.2 i y row e h1
              rfl
          refine begin13_ok hc sl hs5 Has.vec (by have := hrw.1; omega) (by simp [hrw.1]) hhd fun p H76 h76 => ?_
          generalize hsf : P13.fresh sl c.kind (bh c.kind c.h (th.told.map fun x => x.1.h)) = s at *
          repeat (refine gO ?_; intros)
          refine Must.mk (ltN_t hkn) ?_
          repeat (refine gO ?_; intros)
          refine st h76 (by rw [off1]; simp; omega) rfl fun H82 h82 => ?_
          rw [off1] at h82
          repeat (refine gO ?_; intros)
          refine Must.mk (ltN_t hkn) (ldRow h82 (off1 k) hvo0 ?_)
          repeat (refine gO ?_; intros)
          rename_i p89 H90 h90
          refine app_vec (new := [tRow (z13T, false) snil]) h90 pp el_told (by omega) sl_told (Src.cell (n := 6) (by rfl)) rfl (by simp [tRow]) (by have := hrw.1; simp; omega) rfl fun v91 H92 h92 => ?_
          have hrw2 := hrw.snoc (x := (z13T, false)) (r := tRow (z13T, false) snil) ⟨snil, rfl, rfl, hp0⟩
          obtain ⟨pv9, ev9⟩ := (h92.has Has.vec).shape
          subst ev9
          repeat (refine gO ?_; intros)
          refine Must.mk (ltN_t hkn) ?_
          repeat (refine gO ?_; intros)
          refine st h92 (by rw [off1]; simp; omega) rfl fun H98 h98 => ?_
          rw [off1] at h98
          have hva : Sat (Vec va 47 11 rowsA :: _) H98 := h98.pull pp
          obtain ⟨pva, eva0⟩ := (hva.has Has.vec).shape
          rw [hra.1] at eva0
          repeat (refine gO ?_; intros)
          refine AsLen.eq eva0 ?_
          repeat (refine gO ?_; intros)
          refine Must.mk (ltN_t hkn) ?_
          refine st h98 (by rw [off1]; simp; omega) rfl fun H105 h105 => ?_
          rw [off1] at h105
          repeat (refine gO ?_; intros)
          refine AsSlc.eq exv' ?_
          repeat (refine gO ?_; intros)
          have h105t : Sat (Thr13 xv calls :: _) H105 := h105.pull pp
          obtain ⟨bx2, cx2, csx2, exv2, _, ⟨xvi2, ecx2, hcl2⟩, hldx2⟩ := rows_at h105t has_thr ecs
          have ebx : bx2 = bx := by
            rw [exv'] at exv2
            injection exv2 with q1 _ _
            injection q1 with q1
            injection q1 with q1 _ _
            exact q1.symm
          subst ebx
          refine Must.mk (ltN_t hk) (hldx2 _ 0 _ _ (by show 0 + k * 1 = _; omega) (by rw [ecx2]; rfl) ?_)
          obtain ⟨bi2, ci2, cc2, exi2, _, ecc2, hldc2⟩ := rows_at' hcl2 ec
          refine AsSlc.eq exi2 ?_
          refine Must.mk (ltN_t hlt) ?_
          refine hldc2 _ 0 _ _ (by show 0 + th.told.length * 2 + 0 = _; omega) (by rw [ecc2]; rfl) ?_
          refine hldc2 _ 1 _ _ (by show 0 + th.told.length * 2 + 1 = _; omega) (by rw [ecc2]; rfl) ?_
          repeat (refine gO ?_; intros)
          rename_i p121 H122 h122
          refine app_vec (new := [sRow ⟨(z13T, false), j, Int.negSucc 0, k, c⟩ snil]) h122 pp el_seen (by omega) sl_seen (Src.cell (n := 11) (by rfl)) rfl (by simp [sRow]) (by have := hra.1; simp; omega) rfl fun v123 H124 h124 => ?_
          have hra2' := hra.snoc (x := ⟨(z13T, false), j, Int.negSucc 0, k, c⟩) (r := sRow ⟨(z13T, false), j, Int.negSucc 0, k, c⟩ snil) ⟨snil, rfl, rfl, hp0⟩
          repeat (refine gO ?_; intros)
          try rw [addInt]
          refine inR_nat (by omega) ?_
          repeat (refine gO ?_; intros)
          generalize hv91 : Value.slice pv9 _ _ = v91 at *
          have hsA : Sat (Vec v91 43 6 (rows ++ [tRow (z13T, false) snil]) :: PrAt13 p s :: ViewAt ph.q m (Int.ofNat k) ph.nq :: SatL ((List.zipWith (ThP m pool) phs g.ths).set k Emp) :: MemP m g.M :: Row bo eo 0 true ((phs.map Ph13.vo).set k v91) :: Row bn en 0 true ((phs.map Ph13.vn).set k (ptr p 0)) :: Row ba ea 0 true ((g.ths.map fun t => iN t.at_).set k (iN g.all.length)) :: Vec vv 68 1 (phs.map fun p => [ptr p.q 0]) :: Vec v123 47 11 (rowsA ++ [sRow ⟨(z13T, false), j, Int.negSucc 0, k, c⟩ snil]) :: SatL (poolL pool) :: Own p1 [u64 sl.cam, u64 sl.first, i64 sl.count, u64 sl.most] :: Own p3 [i64 n0, u64 most, xv, slc bw 0 picks.length cw] :: Thr13 xv calls :: IntsR (slc bw 0 picks.length cw) picks :: R) H124 := h124.ent ee
          clear hs3 hs4 hs5 h76 h82 h90 h92 h98 hva h105 h105t h122 h124
          obtain ⟨vo, evo'⟩ : ∃ vo, vo = v91 := ⟨_, rfl⟩
          rw [← evo'] at hsA
          have hvo : ((phs.map Ph13.vo).set k vo)[k]? = some vo := List.getElem?_set_self (by simp; omega)
          have hvn : ((phs.map Ph13.vn).set k (ptr p 0))[k]? = some (ptr p 0) := List.getElem?_set_self (by simp; omega)
          have hat : ((g.ths.map fun t => iN t.at_).set k (iN g.all.length))[k]? = some (iN g.all.length) := List.getElem?_set_self (by simp; omega)
          refine Must.mk (ltN_t hkn) (ldRow hsA (off1 k) hvn ?_)
          have hvw : (phs.map fun p => [ptr p.q 0])[k]? = some [ptr ph.q 0] := by rw [List.getElem?_map, hph]; rfl
          obtain ⟨bv, evv, _⟩ := (Sat.has hsA (Has.skip (Has.skip (Has.skip (Has.skip (Has.skip (Has.skip (Has.skip (Has.skip Has.vec))))))))).slot hvw
          refine AsSlc.eq (a11.trans evv) ?_
          repeat (refine gO ?_; intros)
          refine Must.mk (ltN_t (by simp; omega)) ?_
          refine ldVec hsA (Has.skip (Has.skip (Has.skip (Has.skip (Has.skip (Has.skip (Has.skip (Has.skip Has.vec)))))))) evv hvw (j := 0) (by show 0 + k * 1 = _; omega) (by omega) rfl ?_
          have hx := p13_step s g.M (Int.ofNat k) f1 f2
          refine p13step_ok hc s hsA pp pp pp hnq htr W.fine.bd f1 fun n2 H2 hn2 h2 => ?_
          generalize (s.step g.M (Int.ofNat k)).1 = s2 at *
          generalize (s.step g.M (Int.ofNat k)).2 = M2 at *
          obtain ⟨x1, x2, x3⟩ := hx
          repeat (refine gO ?_; intros)
          refine Must.mk (ltN_t hkn) (ldRow h2 (off1 k) hvo ?_)
          repeat (refine gO ?_; intros)
          rw [(subInt (a := th.told.length + 1) (b := 1) (by omega))]
          refine inR_nat (by omega) ?_
          repeat (refine gO ?_; intros)
          refine Must.mk (ltN_t hkn) (ldRow h2 (off1 k) hvn ?_)
          refine p13told_ok hc s2 h2 pp x2 fun w H3 h3 => ?_
          obtain ⟨pw, cw', ew⟩ := (h3.has Has.nums).len
          subst ew
          obtain ⟨r0, hr0, w0, _, er0, _⟩ := (hrw2).at (i := (th.told.length + 1) - 1) (List.getElem?_eq_getElem (by simp))
          obtain ⟨b2, evo, _⟩ := (h3.has (Has.skip (Has.skip (Has.skip (Has.skip Has.vec))))).slot hr0
          have hle14 : ((rows ++ [tRow (z13T, false) snil])).length = (th.told.length + 1) := (by simp [hrw.1])
          rw [hle14] at evo
          subst evo
          repeat (refine gO ?_; intros)
          refine Must.mk (ltN_t (by omega)) ?_
          repeat (refine gO ?_; intros)
          refine stVecN h3 pp hr0 (j := 0) (by show 0 + ((th.told.length + 1) - 1) * 6 = _; omega) (by show 0 + 6 ≤ 6; omega) rfl fun H4 h4 => ?_
          rw [show ovw [u64 s2.told.h, u64 s2.told.st, iN s2.told.er, u64 s2.told.fl, Value.slice pw s2.told.need.length cw', Value.bool s2.fin] r0 0 = tRow (s2.told, s2.fin) (.slice pw s2.told.need.length cw') from by rw [er0]; rfl] at h4
          have hrw' := ((hrw2).mono (RowT.mono (pool' := (.slice pw s2.told.need.length cw', s2.told.need) :: pool) fun x hx => List.mem_cons_of_mem _ hx)).set ((th.told.length + 1) - 1) (x := (s2.told, s2.fin)) (r := tRow (s2.told, s2.fin) (.slice pw s2.told.need.length cw')) ⟨_, rfl, rfl, List.mem_cons_self ..⟩
          have hr1 : ((rows ++ [tRow (z13T, false) snil]).set ((th.told.length + 1) - 1) (tRow (s2.told, s2.fin) (.slice pw s2.told.need.length cw')))[(th.told.length + 1) - 1]? = some (tRow (s2.told, s2.fin) (.slice pw s2.told.need.length cw')) := List.getElem?_set_self (List.getElem?_eq_some_iff.1 hr0).1
          refine ldRow h2 (off1 k) hvo ?_
          repeat (refine gO ?_; intros)
          refine ldRow h3 (off1 k) hvo ?_
          repeat (refine gO ?_; intros)
          refine Must.mk (ltN_t hkn) (ldRow h4 (off1 k) hat ?_)
          repeat (refine gO ?_; intros)
          refine Must.mk (ltN_t hkn) (ldRow h4 (off1 k) hvo ?_)
          repeat (refine gO ?_; intros)
          refine inR_nat (by omega) ?_
          repeat (refine gO ?_; intros)
          refine Must.mk (ltN_t (by omega)) ?_
          refine ldVec h4 Has.vec rfl hr1 (j := 0) (by show 0 + ((th.told.length + 1) - 1) * 6 + 0 = _; omega) (by omega) rfl ?_
          refine ldVec h4 Has.vec rfl hr1 (j := 1) (by show 0 + ((th.told.length + 1) - 1) * 6 + 1 = _; omega) (by omega) rfl ?_
          refine ldVec h4 Has.vec rfl hr1 (j := 2) (by show 0 + ((th.told.length + 1) - 1) * 6 + 2 = _; omega) (by omega) rfl ?_
          refine ldVec h4 Has.vec rfl hr1 (j := 3) (by show 0 + ((th.told.length + 1) - 1) * 6 + 3 = _; omega) (by omega) rfl ?_
          refine ldVec h4 Has.vec rfl hr1 (j := 4) (by show 0 + ((th.told.length + 1) - 1) * 6 + 4 = _; omega) (by omega) rfl ?_
          refine ldVec h4 Has.vec rfl hr1 (j := 5) (by show 0 + ((th.told.length + 1) - 1) * 6 + 5 = _; omega) (by omega) rfl ?_
          obtain ⟨xs, exs⟩ : ∃ x, ((g.all ++ [(⟨(z13T, false), j, Int.negSucc 0, k, c⟩ : Seen13)]))[g.all.length]? = some x := ⟨_, List.getElem?_eq_getElem (by simp)⟩
          obtain ⟨rs, hrs, ws, _, ers, _⟩ := (hra2').at exs
          have hva4 : Sat (Vec v123 47 11 (rowsA ++ [sRow ⟨(z13T, false), j, Int.negSucc 0, k, c⟩ snil]) :: _) H4 := h4.pull pp
          obtain ⟨bva, eva, _⟩ := (hva4.has Has.vec).slot hrs
          have hln := (hra2').1
          rw [hln] at eva
          refine AsSlc.eq eva ?_
          subst eva
          repeat (refine gO ?_; intros)
          refine Must.mk (ltN_t (by simp)) ?_
          repeat (refine gO ?_; intros)
          refine stVecN h4 pp hrs (j := 0) (by show 0 + g.all.length * 11 + 0 = _; omega) (by show 0 + 6 ≤ 11; omega) rfl fun H5 h5 => ?_
          rw [show ovw [u64 s2.told.h, u64 s2.told.st, iN s2.told.er, u64 s2.told.fl, Value.slice pw s2.told.need.length cw', Value.bool s2.fin] rs 0 = sRow { xs with t := (s2.told, s2.fin) } (.slice pw s2.told.need.length cw') from by rw [ers]; rfl] at h5
          have hra' := (hra2').mono (RowS.mono (pool' := (.slice pw s2.told.need.length cw', s2.told.need) :: pool) fun x hx => List.mem_cons_of_mem _ hx)
          have hra2 : ((rowsA ++ [sRow ⟨(z13T, false), j, Int.negSucc 0, k, c⟩ snil]).set g.all.length (sRow { xs with t := (s2.told, s2.fin) } (.slice pw s2.told.need.length cw')))[g.all.length]? = some (sRow { xs with t := (s2.told, s2.fin) } (.slice pw s2.told.need.length cw')) := List.getElem?_set_self (List.getElem?_eq_some_iff.1 hrs).1
          have esu : seenUpd (g.all ++ [(⟨(z13T, false), j, Int.negSucc 0, k, c⟩ : Seen13)]) g.all.length (s2.told, s2.fin) j = ((g.all ++ [(⟨(z13T, false), j, Int.negSucc 0, k, c⟩ : Seen13)])).set g.all.length (xs.upd (s2.told, s2.fin) j) := by unfold seenUpd; rw [exs]
          rw [esu] at kk
          clear esu x1
          generalize s2.fin = bf at *
          have idx : ∀ (vo' vn' : Value) (i : Nat) (ph' : Ph13), (phs.set k ⟨vo', vn', ph.q, n2, k⟩)[i]? = some ph' → ph'.k = i ∧ ph'.nq ≤ j + 1 := fun vo' vn' i ph' h => by
            rw [List.getElem?_set] at h
            by_cases hi : k = i
            · subst hi
              rw [if_pos rfl, if_pos (by omega)] at h
              cases h
              exact ⟨rfl, by show n2 ≤ _; omega⟩
            · rw [if_neg hi] at h
              exact hkk i ph' h
          repeat (refine gO ?_; intros)
          cases bf with
          | true =>
            simp only [if_true] at kk
            refine Cd.t rfl ?_
            repeat (refine gO ?_; intros)
            refine Must.mk (ltN_t hkn) (ldRow h5 (off1 k) hat ?_)
            repeat (refine gO ?_; intros)
            refine Must.mk (ltN_t (by simp)) ?_
            repeat (refine gO ?_; intros)
            refine stVecN h5 pp hra2 (j := 7) (by show 0 + g.all.length * 11 + 7 = _; omega) (by show 7 + 1 ≤ 11; omega) rfl fun H6 h6 => ?_
            rw [List.set_set, show ovw [iN j] (sRow { xs with t := (s2.told, true) } (.slice pw s2.told.need.length cw')) 7 = sRow (xs.upd (s2.told, true) j) (.slice pw s2.told.need.length cw') from rfl] at h6
            repeat (refine gO ?_; intros)
            refine Must.mk (ltN_t hkn) (st h6 (by rw [off1]; simp; omega) rfl fun H7 h7 => ?_)
            rw [off1, List.set_set] at h7
            repeat (refine gO ?_; intros)
            try rw [addInt]
            refine inR_nat (by omega) ?_
            repeat (refine gO ?_; intros)
            refine kk _ H7 (phs.set k ⟨slc b2 0 (th.told.length + 1) (th.told.length + 1), nilP, ph.q, n2, k⟩) ((.slice pw s2.told.need.length cw', s2.told.need) :: pool) (slc bva 0 ((g.all ++ [(⟨(z13T, false), j, Int.negSucc 0, k, c⟩ : Seen13)])).length ((g.all ++ [(⟨(z13T, false), j, Int.negSucc 0, k, c⟩ : Seen13)])).length) _ a4 a5 a8 a9 a10 a11 (by first | exact a13 | rfl) rfl (by simp [hpl]) (idx _ nilP) (List.mem_cons_of_mem _ hp0) (hra'.set g.all.length ⟨_, rfl, rfl, List.mem_cons_self ..⟩) ?_
            have h8 : Sat (NowP nilP none :: _) H7 := h7.triv fun _ => rfl
            exact run13_put (by omega) (by omega) hph hrw' (h8.ent ee)
          | false =>
            simp only [Bool.false_eq_true, if_false] at kk
            refine Cd.f rfl ?_
            repeat (refine gO ?_; intros)
            try rw [addInt]
            refine inR_nat (by omega) ?_
            repeat (refine gO ?_; intros)
            refine kk _ H5 (phs.set k ⟨slc b2 0 (th.told.length + 1) (th.told.length + 1), ptr p 0, ph.q, n2, k⟩) ((.slice pw s2.told.need.length cw', s2.told.need) :: pool) (slc bva 0 ((g.all ++ [(⟨(z13T, false), j, Int.negSucc 0, k, c⟩ : Seen13)])).length ((g.all ++ [(⟨(z13T, false), j, Int.negSucc 0, k, c⟩ : Seen13)])).length) _ a4 a5 a8 a9 a10 a11 (by first | exact a13 | rfl) rfl (by simp [hpl]) (idx _ (ptr p 0)) (List.mem_cons_of_mem _ hp0) (hra'.set g.all.length ⟨_, rfl, rfl, List.mem_cons_self ..⟩) ?_
            have h7 : Sat (PrAt13 p s2 :: _) H5 := h5.pull pp
            have h8 : Sat (NowP (ptr p 0) (some s2) :: _) H5 := h7.imp fun g a => ⟨p, rfl, a⟩
            exact run13_put (by omega) (by omega) hph hrw' (h8.ent ee)
        · refine Cd.t (leZ_t (by omega)) ?_
          repeat (refine gO ?_; intros)
          try rw [addInt]
          refine inR_nat (by omega) ?_
          repeat (refine gO ?_; intros)
          refine idle _ ?_ a4 a5 a8 a9 a10 a11 a13 rfl
          simp only [R13.pick, ecs, eth, hnow, List.getElem?_eq_none (show cs.length ≤ th.told.length by omega)]
    · refine Cd.t (leZ_t (by omega)) ?_
      repeat (refine gO ?_; intros)
      try rw [addInt]
      refine inR_nat (by omega) ?_
      repeat (refine gO ?_; intros)
      refine idle _ ?_ a4 a5 a8 a9 a10 a11 a13 rfl
      simp only [R13.pick, List.getElem?_eq_none (show calls.length ≤ k by omega)]
end Go.Proofs.YtmjiaahpjjnloaaGreat

set_option linter.unusedVariables false
set_option linter.unusedSimpArgs false
namespace Go.Proofs.YtmjiaahpjjnloaaGreat
open Go Go.CM
attribute [local irreducible] AsBool AsWant AsNat AsInt AsCnt AsPtr AsSlc AsLen AsStr AsAgg AsTup AsFn AsIfc Nth Sc NotNil IsNil Must Cd codeW funW Sat SatL wrapN subM mkRow ltZ leZ ltN leN
variable {con : CallT}
noncomputable def elemT (t : Nat) : Nat := match Tryz.prog.underlying t with | some (.slice e) => e | _ => 0
theorem el_out : elemOk Tryz.prog 34 (elemT 34) 1 24 = true := by kernel_rfl
theorem el_now : elemOk Tryz.prog 202 (elemT 202) 1 8 = true := by kernel_rfl
theorem el_at : elemOk Tryz.prog 24 (elemT 24) 1 8 = true := by kernel_rfl
theorem el_view : elemOk Tryz.prog 203 68 1 8 = true := by kernel_rfl
theorem sl_view : ∃ e, Tryz.prog.underlying 203 = some (.slice e) := ⟨68, by kernel_rfl⟩
theorem zero_out : (zeroOf Tryz.prog (elemT 34)).map cellsF = some [snil] := by kernel_rfl
theorem zero_now : (zeroOf Tryz.prog (elemT 202)).map cellsF = some [nilP] := by kernel_rfl
theorem zero_at : (zeroOf Tryz.prog (elemT 24)).map cellsF = some [iN 0] := by kernel_rfl
theorem rep1 (n : Nat) (v : Value) : (List.replicate n [v]).flatten = List.replicate n v := by
  induction n with
  | zero => rfl
  | succ n ih => rw [List.replicate_succ, List.replicate_succ, List.flatten_cons, ih]; rfl
def th0 : Th13 := ⟨[], none, 0⟩
def g13 (M : Mem) (calls : List (List C13)) : R13 := ⟨M, List.replicate calls.length th0, []⟩
theorem wf0 {M : Mem} (h : Fine M) (calls : List (List C13)) : WF13 calls (g13 M calls) := by
  refine ⟨by simp [g13], fun k cs th h1 h2 => ?_, h⟩
  simp only [g13, List.getElem?_replicate] at h2
  split at h2
  · cases h2
    exact ⟨Nat.zero_le _, (fun x (hx : x ∈ ([] : List (T13 × Bool))) => nomatch hx), fun s (hs : (none : Option P13) = some s) => nomatch hs⟩
  · cases h2
abbrev pool0 : Pool := [(snil, [])]
set_option maxRecDepth 100000 in
theorem run13_ok (hc : Con con lives) (sl : SlotsS) {calls : List (List C13)} (hc64 : Calls64 calls) {M : Mem} (hf : Fine M) {R : List HP} {H : CH} {m : Nat} {xv xw : Value} {n0 : Int} {most : Nat} {picks : List Int} {K : KP}
    (hl1 : calls.length ≤ 1048576) (hl2 : ∀ cs ∈ calls, cs.length ≤ 1048576) (hpc : picks.length ≤ 1048576) (htr : M.tr.length ≤ 10)
    (hs : Sat (MemP m M :: Thr13 xv calls :: IntsR xw picks :: R) H)
    (k : ∀ bo eo va phs pool rowsA g H1, g = r13At sl calls picks (g13 M calls) picks.length → phs.length = calls.length → Rows2 (RowS pool) g.all rowsA →
      Sat (MemP m g.M :: Row bo eo 0 true (phs.map Ph13.vo) :: SatL (List.zipWith (ThP m pool) phs g.ths) :: Vec va 47 11 rowsA :: SatL (poolL pool) :: Thr13 xv calls :: IntsR xw picks :: R) H1 → K (.tuple ⟨[slc bo 0 calls.length calls.length, va]⟩) H1) :
    Call1 Tryz.prog con 17 [ptr m 0, .agg ⟨[u64 sl.cam, u64 sl.first, i64 sl.count, u64 sl.most]⟩, .agg ⟨[i64 n0, u64 most, xv, xw]⟩] H K := by
  refine call_of (hc _ _ _ rfl) ?_
  rw [l13run_W]
  obtain ⟨pxv, cxv, exv⟩ := (hs.has (Has.skip has_thr)).len
  refine na fun p1 H1 h1 => ?_
  obtain ⟨pxw, cxw, exw⟩ := (hs.has (Has.skip (Has.skip has_ints))).len
  have hcx : isCell xv = true := by rw [exv]; rfl
  have hcw : isCell xw = true := by rw [exw]; rfl
  refine na fun p3 H2 h2 => ?_
  repeat (refine gO ?_; intros)
  refine AsLen.eq exv ?_
  refine mkS h2 el_out zero_out (Nat.le_refl _) (by omega) (by omega) fun bo H3 h3 => ?_
  repeat (refine gO ?_; intros)
  refine AsLen.eq exv ?_
  refine mkS h3 el_now zero_now (Nat.le_refl _) (by omega) (by omega) fun bn H4 h4 => ?_
  repeat (refine gO ?_; intros)
  refine AsLen.eq exv ?_
  refine mkS h4 el_at zero_at (Nat.le_refl _) (by omega) (by omega) fun ba H5 h5 => ?_
  rw [rep1, rep1, rep1] at h5
  refine LoopC.indP (n := 300) (id := 0) (fun σ H => σ 4 = ptr p1 0 ∧ σ 5 = ptr p3 0 ∧ σ 8 = slc bo 0 calls.length calls.length ∧ σ 9 = slc bn 0 calls.length calls.length ∧ σ 10 = slc ba 0 calls.length calls.length ∧ ∃ vv phs, σ 11 = vv ∧ phs.length = calls.length ∧ (∀ (i : Nat) (ph : Ph13), phs[i]? = some ph → ph.k = i ∧ ph.nq = 0 ∧ ph.vo = snil ∧ ph.vn = nilP) ∧
      Sat (Vec vv 68 1 (phs.map fun p => [ptr p.q 0]) :: SatL (List.zipWith (ThP m pool0) phs (List.replicate calls.length th0)) :: Row ba (elemT 24) 0 true (List.replicate calls.length (iN 0)) :: Row bn (elemT 202) 0 true (List.replicate calls.length nilP) :: Row bo (elemT 34) 0 true (List.replicate calls.length snil) :: Own p3 [i64 n0, u64 most, xv, xw] :: Own p1 [u64 sl.cam, u64 sl.first, i64 sl.count, u64 sl.most] :: MemP m M :: Thr13 xv calls :: IntsR xw picks :: R) H) (by kernel_rfl)
    (fun (i : Nat) σ H => i ≤ calls.length ∧ σ 0 = ptr m 0 ∧ σ 4 = ptr p1 0 ∧ σ 5 = ptr p3 0 ∧ σ 8 = slc bo 0 calls.length calls.length ∧ σ 9 = slc bn 0 calls.length calls.length ∧ σ 10 = slc ba 0 calls.length calls.length ∧ σ 12 = iN i ∧ ∃ vv phs, σ 11 = vv ∧ phs.length = i ∧ (∀ (i : Nat) (ph : Ph13), phs[i]? = some ph → ph.k = i ∧ ph.nq = 0 ∧ ph.vo = snil ∧ ph.vn = nilP) ∧
      Sat (Vec vv 68 1 (phs.map fun p => [ptr p.q 0]) :: SatL (List.zipWith (ThP m pool0) phs (List.replicate i th0)) :: Row ba (elemT 24) 0 true (List.replicate calls.length (iN 0)) :: Row bn (elemT 202) 0 true (List.replicate calls.length nilP) :: Row bo (elemT 34) 0 true (List.replicate calls.length snil) :: Own p3 [i64 n0, u64 most, xv, xw] :: Own p1 [u64 sl.cam, u64 sl.first, i64 sl.count, u64 sl.most] :: MemP m M :: Thr13 xv calls :: IntsR xw picks :: R) H)
    (fun i => calls.length - i) (fun i σ H hI => ?_) (fun σ H hP => ?_) 0 _ _ ⟨Nat.zero_le _, rfl, rfl, rfl, rfl, rfl, rfl, rfl, snil, [], rfl, rfl, (fun i ph h => by simp at h), (Sat.none h5).nilV.ent ee⟩
  · obtain ⟨hi, e0, e4, e5, e8, e9, e10, e12, vv, phs, e11, hpl, hpk, hs1⟩ := hI
    rw [l13runA_W]
    rw [e0, e5, e11, e12]
    repeat (refine gO ?_; intros)
    refine AsLen.eq exv ?_
    repeat (refine gO ?_; intros)
    by_cases hlt : i < calls.length
    · refine Cd.t (ltZ_t hlt) ?_
      refine memView_ok hc hs1 fun q H6 h6 => ?_
      repeat (refine gO ?_; intros)
      rename_i p8 H9 h9
      refine app_vec (new := [[ptr q 0]]) h9 pp el_view (by omega) sl_view (Src.cell (n := 1) (by rfl)) rfl (by simp) (by simp; omega) rfl fun vv2 H11 h11 => ?_
      repeat (refine gO ?_; intros)
      try rw [addInt]
      refine inR_nat (by omega) ?_
      repeat (refine gO ?_; intros)
      show ∃ y, _ ∧ _
      refine ⟨i + 1, by omega, hlt, e0, e4, e5, e8, e9, e10, rfl, vv2, phs ++ [⟨snil, nilP, q, 0, i⟩], rfl, by simp [hpl], fun i' ph h => ?_, ?_⟩
      · by_cases hl : i' < phs.length
        · rw [List.getElem?_append_left hl] at h
          exact hpk i' ph h
        · rw [List.getElem?_append_right (by omega)] at h
          cases e : i' - phs.length with
          | zero => rw [e] at h; cases h; exact ⟨by show i = i'; omega, rfl, rfl, rfl⟩
          | succ n => rw [e] at h; simp at h
      · have h12 : Sat (NowP nilP none :: Vec snil 43 6 [] :: _) H11 := (h11.nilV (e := 43) (s := 6)).triv fun _ => rfl
        have h13 : Sat ([Vec snil 43 6 [], NowP nilP none, ViewAt q m (Int.ofNat i) 0] ++ (SatL (List.zipWith (ThP m pool0) phs (List.replicate i th0)) :: Vec vv2 68 1 ((phs.map fun p => [ptr p.q 0]) ++ [[ptr q 0]]) :: Row ba (elemT 24) 0 true (List.replicate calls.length (iN 0)) :: Row bn (elemT 202) 0 true (List.replicate calls.length nilP) :: Row bo (elemT 34) 0 true (List.replicate calls.length snil) :: Own p3 [i64 n0, u64 most, xv, xw] :: Own p1 [u64 sl.cam, u64 sl.first, i64 sl.count, u64 sl.most] :: MemP m M :: Thr13 xv calls :: IntsR xw picks :: R)) H11 := h12.ent ee
        have h14 := (h13.close (A := ThP m pool0 ⟨snil, nilP, q, 0, i⟩ th0) fun g a => ⟨[], Rows2.nil, a⟩).snoc
        have e1 : List.zipWith (ThP m pool0) phs (List.replicate i th0) ++ [ThP m pool0 ⟨snil, nilP, q, 0, i⟩ th0] = List.zipWith (ThP m pool0) (phs ++ [⟨snil, nilP, q, 0, i⟩]) (List.replicate (i + 1) th0) := by
          rw [List.replicate_succ', List.zipWith_append (by simp [hpl])]; rfl
        have e2 : (phs.map fun p => [ptr p.q 0]) ++ [[ptr q 0]] = (phs ++ [(⟨snil, nilP, q, 0, i⟩ : Ph13)]).map fun p => [ptr p.q 0] := by simp
        rw [e1, e2] at h14
        exact h14.ent ee
    · refine Cd.f (ltZ_f (by omega)) ?_
      show _ = _ ∧ _
      obtain rfl : i = calls.length := by omega
      exact ⟨rfl, e4, e5, e8, e9, e10, vv, phs, e11, hpl, hpk, hs1⟩
  · obtain ⟨e4, e5, e8, e9, e10, vv, phs, e11, hpl, hpk, hs1⟩ := hP
    show Cd _ _ _
    refine Cd.t (eqN_self 0) ?_
    have hA : ∀ (v : Value) (f : Ph13 → Value), (∀ (i : Nat) ph, phs[i]? = some ph → f ph = v) → List.replicate calls.length v = phs.map f := fun v f hh => by
      apply List.ext_getElem?
      intro i
      rw [List.getElem?_replicate, List.getElem?_map]
      by_cases hi : i < calls.length
      · obtain ⟨ph, hph⟩ : ∃ ph, phs[i]? = some ph := ⟨_, List.getElem?_eq_getElem (by omega)⟩
        rw [if_pos hi, hph, Option.map_some, hh i ph hph]
      · rw [if_neg hi, List.getElem?_eq_none (by omega)]; rfl
    have hB : List.replicate calls.length (iN 0) = (List.replicate calls.length th0).map fun t => iN t.at_ := by rw [List.map_replicate]; rfl
    rw [hA snil Ph13.vo fun i ph h => (hpk i ph h).2.2.1, hA nilP Ph13.vn fun i ph h => (hpk i ph h).2.2.2, hB] at hs1
    have h6 := (hs1.nil).imp (B := SatL (poolL pool0)) fun g a => SatL.one a
    refine LoopC.indP (n := 300) (id := 2) (fun σ H => ∃ va phs pool rowsA, σ 8 = slc bo 0 calls.length calls.length ∧ σ 13 = va ∧ phs.length = calls.length ∧ Rows2 (RowS pool) (r13At sl calls picks (g13 M calls) picks.length).all rowsA ∧
        Sat (MemP m (r13At sl calls picks (g13 M calls) picks.length).M :: Row bo (elemT 34) 0 true (phs.map Ph13.vo) :: SatL (List.zipWith (ThP m pool) phs (r13At sl calls picks (g13 M calls) picks.length).ths) :: Vec va 47 11 rowsA :: SatL (poolL pool) :: Thr13 xv calls :: IntsR xw picks :: R) H) (by kernel_rfl)
      (fun (j : Nat) σ H => j ≤ picks.length ∧ σ 4 = ptr p1 0 ∧ σ 5 = ptr p3 0 ∧ σ 8 = slc bo 0 calls.length calls.length ∧ σ 9 = slc bn 0 calls.length calls.length ∧ σ 10 = slc ba 0 calls.length calls.length ∧ σ 11 = vv ∧ σ 14 = iN j ∧ ∃ va phs pool rowsA, σ 13 = va ∧ phs.length = calls.length ∧ (∀ (i : Nat) ph, phs[i]? = some ph → ph.k = i ∧ ph.nq ≤ j) ∧ (snil, []) ∈ pool ∧ Rows2 (RowS pool) (r13At sl calls picks (g13 M calls) j).all rowsA ∧
        Sat (MemP m (r13At sl calls picks (g13 M calls) j).M :: Row bo (elemT 34) 0 true (phs.map Ph13.vo) :: Row bn (elemT 202) 0 true (phs.map Ph13.vn) :: Row ba (elemT 24) 0 true ((r13At sl calls picks (g13 M calls) j).ths.map fun t => iN t.at_) :: Vec vv 68 1 (phs.map fun p => [ptr p.q 0]) :: SatL (List.zipWith (ThP m pool) phs (r13At sl calls picks (g13 M calls) j).ths) :: Vec va 47 11 rowsA :: SatL (poolL pool) :: Own p1 [u64 sl.cam, u64 sl.first, i64 sl.count, u64 sl.most] :: Own p3 [i64 n0, u64 most, xv, xw] :: Thr13 xv calls :: IntsR xw picks :: R) H)
      (fun j => picks.length - j) (fun j σ H hI => ?_) (fun σ H hP => ?_) 0 _ _ ⟨Nat.zero_le _, e4, e5, e8, e9, e10, e11, rfl, snil, phs, pool0, [], rfl, hpl, (fun i ph h => ⟨(hpk i ph h).1, by have := (hpk i ph h).2.1; omega⟩), List.mem_cons_self .., Rows2.nil, (h6.nilV (e := 47) (s := 11)).ent ee⟩
    · obtain ⟨hj, a4, a5, a8, a9, a10, a11, a14, va, phs, pool, rowsA, a13, hpl, hpk, hp0, hra, hs2⟩ := hI
      by_cases hlt : j < picks.length
      · obtain ⟨t, et⟩ : ∃ t, picks[j]? = some t := ⟨_, List.getElem?_eq_getElem hlt⟩
        have hz := r13At_sz (sl := sl) (calls := calls) (picks := picks) (g := g13 M calls) j
        have hz1 : (g13 M calls).all.length = 0 := rfl
        have hz2 : (g13 M calls).M.tr.length ≤ 10 := htr
        have hsu := r13At_succ (sl := sl) (calls := calls) (g := g13 M calls) et
        refine run13_pick (n := calls.length) hc hc64 (r13At_wf hc64 (wf0 hf calls) j) rfl hl1 hl2 hpl hpk hlt hpc et (by omega) (by omega) hp0 hra hs2 a4 a5 a8 a9 a10 a11 a13 a14 fun σ1 H1 phs' pool' va' rowsA' b4 b5 b8 b9 b10 b11 b13 b14 hpl' hpk' hp0' hra' h1 => ?_
        rw [← hsu] at hra' h1
        show ∃ y, _ ∧ _
        exact ⟨j + 1, by omega, hlt, b4, b5, b8, b9, b10, b11, b14, va', phs', pool', rowsA', b13, hpl', hpk', hp0', hra', h1⟩
      · obtain rfl : j = picks.length := by omega
        rw [l13runB_W]
        rw [a5, a14]
        repeat (refine gO ?_; intros)
        refine AsLen.eq exw ?_
        repeat (refine gO ?_; intros)
        refine Cd.f (ltZ_f (Nat.le_refl _)) ?_
        show _ = _ ∧ _
        exact ⟨rfl, va, phs, pool, rowsA, a8, a13, hpl, hra, hs2.ent ee⟩
    · obtain ⟨va, phs, pool, rowsA, a8, a13, hpl, hra, hs2⟩ := hP
      show Cd _ _ _
      refine Cd.t (eqN_self 2) ?_
      rw [a8, a13]
      exact k _ _ va phs pool rowsA _ H rfl hpl hra hs2
end Go.Proofs.YtmjiaahpjjnloaaGreat

set_option linter.unusedVariables false
set_option linter.unusedSimpArgs false
namespace Go.Proofs.YtmjiaahpjjnloaaGreat
open Go Go.CM
theorem leZ_on (k z : Nat) : leZ (Int.ofNat k) (Int.negSucc z) = false := decide_eq_false fun h => by
  have h1 := Int.negSucc_lt_zero z
  have h2 : (0 : Int) ≤ Int.ofNat k := Int.natCast_nonneg k
  have h3 : Int.ofNat k ≤ Int.negSucc z := h
  omega
attribute [local irreducible] AsBool AsWant AsNat AsInt AsCnt AsPtr AsSlc AsLen AsStr AsAgg AsTup AsFn AsIfc Nth Sc NotNil IsNil Must Cd codeW funW Sat SatL wrapN subM mkRow ltZ leZ ltN leN
variable {con : CallT}
/-- The memory with a camera, and the slots. -/
def mem13 : Mem := (mem0 4096).alloc (Int.negSucc 0) [1]
def slots13 (n : Int) (most : Nat) : SlotsS × Nat × Mem := mkSlots 1 n most mem13 (Int.negSucc 0)
theorem fine_alloc {M : Mem} (h : Fine M) (th : Int) {vals : List Nat} (hv : ∀ x ∈ vals, x < 18446744073709551616) (hl : vals.length ≤ 1000000000) : Fine (M.alloc th vals) := by
  have hb : ∀ (v cs : List Nat) (o : Nat), (∀ x ∈ v, x < 18446744073709551616) → (∀ x ∈ cs, x < 18446744073709551616) → ∀ x ∈ ovN v cs o, x < 18446744073709551616 := fun v => by
    induction v with
    | nil => exact fun cs o _ h => h
    | cons y r ih =>
      intro cs o h1 h2
      refine ih (cs.set o y) (o + 1) (fun x hx => h1 x (List.mem_cons_of_mem _ hx)) fun x hx => ?_
      rcases List.mem_or_eq_of_mem_set hx with h | rfl
      · exact h2 x h
      · exact h1 x (List.mem_cons_self ..)
  unfold Mem.alloc
  split
  · exact ⟨fun x hx => hb vals M.cells M.free hv h.bd x hx, fine_note (M := { M with cells := _, free := _ }) h.vals hl⟩
  · exact ⟨h.bd, fine_note h.vals hl⟩
theorem alloc_len (M : Mem) (th : Int) (vals : List Nat) : (M.alloc th vals).tr.length = M.tr.length + 1 := by
  simp only [Mem.alloc, Mem.note]
  split <;> simp
theorem fine13 : Fine mem13 := fine_alloc (fine0 4096) _ (by simp) (by simp)
theorem mem13_tr : mem13.tr.length = 1 := alloc_len (mem0 4096) (Int.negSucc 0) [1]
theorem mkSlots_fine {cam : Nat} {n : Int} {most : Nat} {M : Mem} (h : Fine M) (th : Int) : Fine (mkSlots cam n most M th).2.2 ∧ (mkSlots cam n most M th).2.2.tr.length ≤ M.tr.length + 1 := by
  unfold mkSlots
  split
  · exact ⟨h, Nat.le_succ _⟩
  · rename_i c
    have hz : ∀ x ∈ List.replicate c 0, x < 18446744073709551616 := fun x hx => by rw [List.eq_of_mem_replicate hx]; omega
    by_cases h1 : c < 1
    · simp only [if_pos h1]; exact ⟨h, Nat.le_succ _⟩
    simp only [if_neg h1]
    by_cases h2 : 256 < c
    · simp only [if_pos h2]; exact ⟨h, Nat.le_succ _⟩
    simp only [if_neg h2]
    by_cases h3 : most < 1
    · simp only [if_pos h3]; exact ⟨h, Nat.le_succ _⟩
    simp only [if_neg h3]
    by_cases h4 : 1099511627776 < most
    · simp only [if_pos h4]; exact ⟨h, Nat.le_succ _⟩
    simp only [if_neg h4]
    have := fine_alloc h th hz (by simp; omega)
    have h5 := alloc_len M th (List.replicate c 0)
    split
    · exact ⟨this, by show (M.alloc th (List.replicate c 0)).tr.length ≤ _; omega⟩
    · exact ⟨this, by show (M.alloc th (List.replicate c 0)).tr.length ≤ _; omega⟩
theorem slots13_fine (n : Int) (most : Nat) : Fine (slots13 n most).2.2 ∧ (slots13 n most).2.2.tr.length ≤ 10 := by
  have h := mkSlots_fine (cam := 1) (n := n) (most := most) fine13 (Int.negSucc 0)
  have h2 := mem13_tr
  exact ⟨h.1, by have := h.2; show (mkSlots 1 n most mem13 (Int.negSucc 0)).2.2.tr.length ≤ 10; omega⟩
theorem room1 {n : Nat} (h : 2 ≤ n) : (mem0 n).room [1] = 1 := by
  unfold Mem.room mem0
  rw [if_pos]
  simp
  omega
theorem room13 : (mem0 4096).room [1] = 1 := room1 (by omega)
theorem alloc1 {n : Nat} (h : 2 ≤ n) (th : Int) : ((mem0 n).alloc th [1]).cells.length = n ∧ ((mem0 n).alloc th [1]).free = 2 := by
  rw [alloc_t (M := mem0 n) (vals := [1]) (by simp) (by simp [mem0]; omega)]
  refine ⟨?_, rfl⟩
  show (ovN [1] (List.replicate n 0) 1).length = n
  rw [ovN_len]; simp
/-- May there be such slots? -/
def right13 (n : Int) (most : Nat) : Bool := match n with | .negSucc _ => false | .ofNat c => decide (1 ≤ c) && (decide (c ≤ 256) && (decide (1 ≤ most) && decide (most ≤ 1099511627776)))
theorem mem13_len : mem13.cells.length = 4096 := (alloc1 (n := 4096) (by omega) _).1
theorem mem13_free : mem13.free = 2 := (alloc1 (n := 4096) (by omega) _).2
theorem room_n {c : Nat} (h1 : 1 ≤ c) (h2 : c ≤ 256) : mem13.room (List.replicate c 0) = 2 := by
  unfold Mem.room
  rw [mem13_len, mem13_free, List.length_replicate, if_pos (by omega)]
theorem slots13_no {n : Int} {most : Nat} (h : right13 n most = false) : slots13 n most = (sl0, 2, mem13) := by
  unfold slots13 mkSlots
  cases n with
  | negSucc z => rfl
  | ofNat c =>
    unfold right13 at h
    simp only at h ⊢
    by_cases h1 : c < 1
    · rw [if_pos h1]
    rw [if_neg h1]
    by_cases h2 : 256 < c
    · rw [if_pos h2]
    rw [if_neg h2]
    by_cases h3 : most < 1
    · rw [if_pos h3]
    rw [if_neg h3]
    by_cases h4 : 1099511627776 < most
    · rw [if_pos h4]
    · rw [decide_eq_true (show 1 ≤ c by omega), decide_eq_true (show c ≤ 256 by omega), decide_eq_true (show 1 ≤ most by omega), decide_eq_true (show most ≤ 1099511627776 by omega)] at h
      cases h
theorem slots13_yes {n : Int} {most : Nat} (h : right13 n most = true) : ∃ c, n = Int.ofNat c ∧ 1 ≤ c ∧ c ≤ 256 ∧ 1 ≤ most ∧ most ≤ 1099511627776 ∧ slots13 n most = (⟨1, 2, Int.ofNat c, most⟩, 0, mem13.alloc (Int.negSucc 0) (List.replicate c 0)) := by
  cases n with
  | negSucc z => cases h
  | ofNat c =>
    unfold right13 at h
    simp only [Bool.and_eq_true, decide_eq_true_eq] at h
    obtain ⟨h1, h2, h3, h4⟩ := h
    refine ⟨c, rfl, h1, h2, h3, h4, ?_⟩
    unfold slots13 mkSlots
    simp only
    rw [if_neg (by omega), if_neg (by omega), if_neg (by omega), if_neg (by omega), room_n h1 h2, if_neg (by omega)]
theorem l13memory_ok (hc : Con con lives) {n : Int} {most : Nat} {v w : Value} {L : List HP} {H : CH} {K : KP} (hs : Sat L H)
    (k : ∀ m H1, Sat (MemP m (slots13 n most).2.2 :: L) H1 → K (.tuple ⟨[ptr m 0, slA (slots13 n most).1, .bool (eqZ (Int.ofNat (slots13 n most).2.1) (Int.ofNat 0))]⟩) H1) : Call1 Tryz.prog con 14 [.agg ⟨[i64 n, u64 most, v, w]⟩] H K := by
  refine call_of (hc _ _ _ rfl) ?_
  rw [l13memory_W]
  refine na fun p1 H2 h2 => ?_
  refine na fun p3 H4 h4 => ?_
  refine arenaNew_ok hc h4 (by omega) (by omega) fun m H6 h6 => ?_
  repeat (refine gO ?_; intros)
  refine memView_ok hc h6 fun q H18 h18 => ?_
  repeat (refine gO ?_; intros)
  rename_i p19 H20 h20
  refine viewAlloc_ok (vals := [1]) hc h20 pp pp (Has.own3 (l := [1])) (by simp) (by omega) (by show 0 < _; omega) fun H22 h22 => ?_
  rw [room13]
  repeat (refine gO ?_; intros)
  have hM : (mem0 4096).alloc (Int.negSucc 0) [1] = mem13 := rfl
  rw [hM] at h22
  refine annMake_ok (n := n) hc h22 pp pp (by omega) (by have := mem13_tr; omega) fun nn' H26 _ h26 => ?_
  have e : mkSlots 1 n most mem13 (Int.negSucc 0) = slots13 n most := rfl
  rw [e] at h26
  rw [e]
  generalize slots13 n most = s at *
  obtain ⟨⟨cam, first, count, ms⟩, er, M⟩ := s
  repeat (refine gO ?_; intros)
  refine stN (by assumption) (Nat.le_of_ble_eq_true rfl) rfl fun H38 h38 => ?_
  repeat (refine gO ?_; intros)
  refine stN (by assumption) (Nat.le_of_ble_eq_true rfl) rfl fun H44 h44 => ?_
  repeat (refine gO ?_; intros)
  exact k m _ (h44.ent ee)
theorem l13right_ok (hc : Con con lives) {n : Int} {most : Nat} {v w : Value} {L : List HP} {H : CH} {K : KP} (hs : Sat L H)
    (k : ∀ H1, Sat L H1 → K (.bool (right13 n most)) H1) : Call1 Tryz.prog con 16 [.agg ⟨[i64 n, u64 most, v, w]⟩] H K := by
  refine call_of (hc _ _ _ rfl) ?_
  rw [l13right_W]
  refine na fun p1 H2 h2 => ?_
  repeat (refine gO ?_; intros)
  have kk := k _ (h2.ent ee)
  cases n with
  | negSucc z =>
    exact Cd.f (leZ_on 1 z) kk
  | ofNat c =>
    unfold right13 at kk
    simp only at kk
    by_cases h1 : 1 ≤ c
    · refine Cd.t (leZ_t h1) ?_
      rw [decide_eq_true h1, Bool.true_and] at kk
      repeat (refine gO ?_; intros)
      by_cases h3 : c ≤ 256
      · refine Cd.t (leZ_t h3) ?_
        rw [decide_eq_true h3, Bool.true_and] at kk
        repeat (refine gO ?_; intros)
        by_cases h4 : 1 ≤ most
        · refine Cd.t (leN_t h4) ?_
          rw [decide_eq_true h4, Bool.true_and] at kk
          repeat (refine gO ?_; intros)
          by_cases h5 : most ≤ 1099511627776
          · rw [leN_t h5]
            rw [decide_eq_true h5] at kk
            exact kk
          · rw [leN_f (by omega)]
            rw [decide_eq_false h5] at kk
            exact kk
        · refine Cd.f (leN_f (by omega)) ?_
          rw [decide_eq_false h4, Bool.false_and] at kk
          exact kk
      · refine Cd.f (leZ_f (by omega)) ?_
        rw [decide_eq_false h3, Bool.false_and] at kk
        exact kk
    · refine Cd.f (leZ_f (by omega)) ?_
      rw [decide_eq_false h1, Bool.false_and] at kk
      exact kk
end Go.Proofs.YtmjiaahpjjnloaaGreat

set_option linter.unusedVariables false
set_option linter.unusedSimpArgs false
namespace Go.Proofs.YtmjiaahpjjnloaaGreat
open Go Go.CM
/-! ### how many accesses a call may still make -/
def SnapS.arem (s : SnapS) : Nat := match s.at_ with | 0 => 2 * (cnt s.sl.count - s.i) + 5 | 1 => 2 * (cnt s.sl.count - s.i) + 4 | 2 => 5 | 3 => 4 | 4 => 3 | 5 => 2 | 6 => 1 | 7 => 1 | _ => 0
def SnapS.Pos (s : SnapS) : Prop := (s.at_ = 0 → cnt s.sl.count = 0 ∨ s.i < cnt s.sl.count) ∧ (s.at_ = 1 → s.i < cnt s.sl.count)
/-- None, or one access by this thread. -/
def One (th : Int) (M M' : Mem) (a a' : Nat) : Prop := (M'.tr = M.tr ∧ a' ≤ a) ∨ ∃ c, M'.tr = M.tr ++ [c] ∧ c.th = th ∧ a' + 1 ≤ a
theorem One.load {th : Int} {M : Mem} {x a a' : Nat} (h : a' + 1 ≤ a) : One th M (M.load th x) a a' := .inr ⟨_, rfl, rfl, h⟩
theorem One.store {th : Int} {M : Mem} {x y a a' : Nat} (h : a' + 1 ≤ a) : One th M (M.store th x y) a a' := .inr ⟨_, rfl, rfl, h⟩
theorem One.cas {th : Int} {M : Mem} {x y z a a' : Nat} (h : a' + 1 ≤ a) : One th M (M.cas th x y z) a a' := by
  refine .inr ⟨accCas th x y z (M.swaps x y), ?_, rfl, h⟩
  unfold Mem.cas
  split <;> rfl
theorem snap_one (s : SnapS) (M : Mem) (th : Int) (h : s.Ok) (hp : s.Pos) : One th M (s.step M th).2 s.arem (s.step M th).1.arem ∧ (s.step M th).1.Pos := by
  obtain ⟨sl, at_, i, w, gen, t, ok, err⟩ := s
  obtain ⟨h1, h2, h3, h4, h5⟩ := h
  simp only at h1 h2 h3 h4 h5
  subst h2 h3
  obtain ⟨p0, p1⟩ := hp
  simp only at p0 p1
  rcases (by omega : at_ = 0 ∨ at_ = 1 ∨ at_ = 2 ∨ at_ = 3 ∨ at_ = 4 ∨ at_ = 5 ∨ at_ = 6 ∨ at_ = 7) with rfl | rfl | rfl | rfl | rfl | rfl | rfl | rfl
  · have p := p0 rfl
    simp only [SnapS.step, SnapS.on, SnapS.cell]
    by_cases hz : cnt sl.count = 0
    · simp only [if_pos hz]
      exact ⟨.inl ⟨rfl, by simp [SnapS.arem]⟩, by simp [SnapS.Pos]⟩
    · simp only [if_neg hz]
      by_cases hk : kindW (M.peek (addM sl.first i)) = 0
      · by_cases hgg : 1048575 ≤ genW (M.peek (addM sl.first i))
        · simp only [hgg, or_true, if_true]
          by_cases hi : i + 1 < cnt sl.count
          · simp only [if_pos hi]
            exact ⟨.load (by simp [SnapS.arem]; omega), by simp [SnapS.Pos]; omega⟩
          · simp only [if_neg hi]
            exact ⟨.load (by simp [SnapS.arem]), by simp [SnapS.Pos]⟩
        · simp only [hk, hgg, ne_eq, not_true_eq_false, or_false, if_false]
          exact ⟨.load (by simp [SnapS.arem]), by simp [SnapS.Pos]; omega⟩
      · simp only [hk, ne_eq, not_false_eq_true, true_or, if_true]
        by_cases hi : i + 1 < cnt sl.count
        · simp only [if_pos hi]
          exact ⟨.load (by simp [SnapS.arem]; omega), by simp [SnapS.Pos]; omega⟩
        · simp only [if_neg hi]
          exact ⟨.load (by simp [SnapS.arem]), by simp [SnapS.Pos]⟩
  · have p := p1 rfl
    simp only [SnapS.step, SnapS.on, SnapS.cell]
    cases M.swaps (addM sl.first i) w with
    | true => exact ⟨.cas (by simp [SnapS.arem]; omega), by simp [SnapS.Pos]⟩
    | false =>
      simp only [Bool.false_eq_true, if_false]
      by_cases hi : i + 1 < cnt sl.count
      · simp only [if_pos hi]
        exact ⟨.cas (by simp [SnapS.arem]; omega), by simp [SnapS.Pos]; omega⟩
      · simp only [if_neg hi]
        exact ⟨.cas (by simp [SnapS.arem]), by simp [SnapS.Pos]⟩
  · exact ⟨.load (by simp [SnapS.step, SnapS.arem]), by simp [SnapS.step, SnapS.Pos]⟩
  · exact ⟨.store (by simp [SnapS.step, SnapS.arem]), by simp [SnapS.step, SnapS.Pos]⟩
  · simp only [SnapS.step]
    by_cases hm : sl.most ≤ M.peek sl.cam
    · simp only [if_pos hm]
      exact ⟨.load (by simp [SnapS.arem]), by simp [SnapS.Pos]⟩
    · simp only [if_neg hm]
      exact ⟨.load (by simp [SnapS.arem]), by simp [SnapS.Pos]⟩
  · exact ⟨.cas (by simp [SnapS.step, SnapS.arem]), by simp [SnapS.step, SnapS.Pos]⟩
  · exact ⟨.store (by simp [SnapS.step, SnapS.arem]), by simp [SnapS.step, SnapS.Pos]⟩
  · exact ⟨.store (by simp [SnapS.step, SnapS.arem]), by simp [SnapS.step, SnapS.Pos]⟩
theorem let_one (s : LetS) (M : Mem) (th : Int) (h : s.at_ < 2) : One th M (s.step M th).2 s.rem (s.step M th).1.rem := by
  obtain ⟨sl, h', at_, slot, w, gen, err⟩ := s
  simp only at h
  rcases (by omega : at_ = 0 ∨ at_ = 1) with rfl | rfl
  · simp only [LetS.step]
    split
    · refine .load ?_
      split <;> simp [LetS.rem]
    · exact .inl ⟨rfl, by simp [LetS.rem]⟩
  · exact .cas (by simp [LetS.step, LetS.rem])
theorem scan_one (s : ScanS) (M : Mem) (th : Int) (h : s.Ok) : One th M (s.step M th).2 s.rem (s.step M th).1.rem := by
  have := (scan_step s M th h).2.2.2.1
  obtain ⟨sl, at_, i, fl, told, need⟩ := s
  have h1 := h.1
  simp only at h1
  rcases (by omega : at_ = 0 ∨ at_ = 1) with rfl | rfl
  · exact (One.load (x := sl.cam) this : One th M (M.load th sl.cam) _ _)
  · exact (One.load (x := addM sl.first i) this : One th M (M.load th (addM sl.first i)) _ _)
def P13.arem (s : P13) : Nat := bif s.isS then s.sn.arem else bif s.isN then s.sc.rem else s.lt.rem
def P13.Pos (s : P13) : Prop := s.isS = true → s.sn.Pos
theorem p13_one (s : P13) (M : Mem) (th : Int) (h : s.Ok) (hp : s.Pos) : One th M (s.step M th).2 s.arem (s.step M th).1.arem ∧ (s.step M th).1.Pos := by
  cases h0 : s.isS with
  | true =>
    obtain ⟨h1, h2⟩ := snap_one s.sn M th (h.sn h0) (hp h0)
    rw [p13_stepS h0]
    refine ⟨?_, fun _ => h2⟩
    show One th M (s.sn.step M th).2 (bif s.isS then s.sn.arem else _) (bif P13.isS { s with sn := (s.sn.step M th).1 } then (s.sn.step M th).1.arem else _)
    rw [show P13.isS { s with sn := (s.sn.step M th).1 } = true from h0, h0]
    exact h1
  | false =>
    cases h2 : s.isN with
    | true =>
      have h1 := scan_one s.sc M th (h.sc h0 h2)
      rw [p13_stepN h0 h2]
      refine ⟨?_, fun q => by rw [show P13.isS { s with sc := (s.sc.step M th).1 } = false from h0] at q; cases q⟩
      show One th M (s.sc.step M th).2 (bif s.isS then s.sn.arem else bif s.isN then s.sc.rem else _) (bif P13.isS { s with sc := (s.sc.step M th).1 } then s.sn.arem else bif P13.isN { s with sc := (s.sc.step M th).1 } then (s.sc.step M th).1.rem else _)
      rw [show P13.isS { s with sc := (s.sc.step M th).1 } = false from h0, show P13.isN { s with sc := (s.sc.step M th).1 } = true from h2, h0, h2]
      exact h1
    | false =>
      have h1 := let_one s.lt M th (h.lt h0 h2).1
      rw [p13_stepL h0 h2]
      refine ⟨?_, fun q => by rw [show P13.isS { s with lt := (s.lt.step M th).1 } = false from h0] at q; cases q⟩
      show One th M (s.lt.step M th).2 (bif s.isS then s.sn.arem else bif s.isN then s.sc.rem else s.lt.rem) (bif P13.isS { s with lt := (s.lt.step M th).1 } then s.sn.arem else bif P13.isN { s with lt := (s.lt.step M th).1 } then s.sc.rem else (s.lt.step M th).1.rem)
      rw [show P13.isS { s with lt := (s.lt.step M th).1 } = false from h0, show P13.isN { s with lt := (s.lt.step M th).1 } = false from h2, h0, h2]
      exact h1
/-- The most accesses of a call. -/
def cost (c : Nat) (kind : Int) : Nat := bif eqZ kind (Int.ofNat 0) then 2 * c + 5 else bif eqZ kind (Int.ofNat 2) then c + 1 else 2
def costs (c k : Nat) (all : List Seen13) : Nat := all.foldl (fun n x => if x.th = k then n + cost c x.call.kind else n) 0
def accs (th : Int) (l : List Acs) : Nat := l.foldl (fun n x => if x.th = th then n + 1 else n) 0
theorem costs_snoc (c k : Nat) (all : List Seen13) (x : Seen13) : costs c k (all ++ [x]) = if x.th = k then costs c k all + cost c x.call.kind else costs c k all := by
  unfold costs; rw [List.foldl_append]; rfl
theorem accs_snoc (th : Int) (l : List Acs) (x : Acs) : accs th (l ++ [x]) = if x.th = th then accs th l + 1 else accs th l := by
  unfold accs; rw [List.foldl_append]; rfl
theorem costs_set (c k : Nat) : ∀ (all : List Seen13) (n a : Nat) (x y : Seen13), all[a]? = some x → y.th = x.th → y.call = x.call → (all.set a y).foldl (fun n x => if x.th = k then n + cost c x.call.kind else n) n = all.foldl (fun n x => if x.th = k then n + cost c x.call.kind else n) n
  | [], n, a, x, y, h, _, _ => by simp at h
  | z :: l, n, 0, x, y, h, e1, e2 => by
    simp only [List.getElem?_cons_zero, Option.some.injEq] at h
    subst h
    simp only [List.set_cons_zero, List.foldl_cons, e1, e2]
  | z :: l, n, a + 1, x, y, h, e1, e2 => by
    simp only [List.set_cons_succ, List.foldl_cons]
    exact costs_set c k l _ a x y (by simpa using h) e1 e2
theorem costs_upd (c k : Nat) (all : List Seen13) (a : Nat) (t : T13 × Bool) (i : Nat) : costs c k (seenUpd all a t i) = costs c k all := by
  unfold seenUpd
  split
  · rename_i x h
    exact costs_set c k all 0 a x _ h rfl rfl
  · rfl
def nowA (o : Option P13) : Nat := match o with | none => 0 | some s => s.arem
structure Few13 (c b : Nat) (g : R13) : Prop where
  le : b ≤ g.M.tr.length
  th : ∀ (k : Nat) th, g.ths[k]? = some th → accs (Int.ofNat k) (g.M.tr.drop b) + nowA th.now ≤ costs c k g.all ∧ ∀ s, th.now = some s → s.Pos
theorem accs_one {th th' : Int} {M M' : Mem} {a a' b : Nat} (hb : b ≤ M.tr.length) (h : One th M M' a a') : b ≤ M'.tr.length ∧ (th = th' → accs th' (M'.tr.drop b) + a' ≤ accs th' (M.tr.drop b) + a) ∧ (th ≠ th' → accs th' (M'.tr.drop b) = accs th' (M.tr.drop b)) := by
  rcases h with ⟨e, h⟩ | ⟨c, e, ec, h⟩
  · rw [e]
    exact ⟨hb, fun _ => by omega, fun _ => rfl⟩
  · rw [e, List.drop_append_of_le_length hb, accs_snoc, ec]
    refine ⟨by simp; omega, fun ht => ?_, fun ht => ?_⟩
    · rw [if_pos ht]; omega
    · rw [if_neg ht]
theorem few_go {c b : Nat} {g : R13} (F : Few13 c b g) {i k a : Nat} {s : P13} {told : List (T13 × Bool)} {all : List Seen13} (hok : s.Ok) (htl : s.Tl) (hp : s.Pos)
    (h1 : accs (Int.ofNat k) (g.M.tr.drop b) + s.arem ≤ costs c k all) (h2 : ∀ k', k' ≠ k → costs c k' g.all ≤ costs c k' all) : Few13 c b (g.go i k s told a all) := by
  obtain ⟨o1, o2⟩ := p13_one s g.M (Int.ofNat k) hok hp
  obtain ⟨b1, _, _⟩ := accs_one (th' := 0) F.le o1
  refine ⟨b1, fun j th hj => ?_⟩
  simp only [R13.go] at hj ⊢
  rw [costs_upd]
  by_cases e : k = j
  · subst e
    rw [List.getElem?_set] at hj
    rw [if_pos rfl] at hj
    split at hj
    · cases hj
      obtain ⟨_, b2, _⟩ := accs_one (th' := Int.ofNat k) F.le o1
      have := b2 rfl
      by_cases hf : (s.step g.M (Int.ofNat k)).1.fin = true
      · rw [if_pos hf]
        exact ⟨by show _ + 0 ≤ _; omega, fun s' h => nomatch h⟩
      · rw [if_neg hf]
        refine ⟨by show _ + (s.step g.M (Int.ofNat k)).1.arem ≤ _; omega, fun s' h => by cases h; exact o2⟩
    · cases hj
  · rw [List.getElem?_set_ne e] at hj
    obtain ⟨f1, f2⟩ := F.th j th hj
    obtain ⟨_, _, b3⟩ := accs_one (th' := Int.ofNat j) F.le o1
    rw [b3 (fun h => e (Int.ofNat.inj h))]
    have := h2 j (fun h => e h.symm)
    exact ⟨by omega, f2⟩
theorem fresh_arem (sl : SlotsS) (kind : Int) (h c : Nat) (hc : cnt sl.count = c) : (P13.fresh sl kind h).arem ≤ cost c kind ∧ (P13.fresh sl kind h).Pos := by
  refine ⟨?_, fun _ => ⟨fun _ => by show cnt sl.count = 0 ∨ 0 < cnt sl.count; omega, fun q => by cases q⟩⟩
  unfold P13.arem cost
  show (bif eqZ kind (Int.ofNat 0) then 2 * (cnt sl.count - 0) + 5 else bif eqZ kind (Int.ofNat 2) then cnt sl.count - 0 + 1 else 2 - 0) ≤ _
  rw [hc]
  cases eqZ kind (Int.ofNat 0) with
  | true => exact Nat.le_refl _
  | false => cases eqZ kind (Int.ofNat 2) <;> exact Nat.le_refl _
theorem few_pick {calls : List (List C13)} (hc : Calls64 calls) {sl : SlotsS} {c b : Nat} (hcn : cnt sl.count = c) {g : R13} (W : WF13 calls g) (F : Few13 c b g) (i : Nat) (t : Int) : Few13 c b (g.pick sl calls i t) := by
  refine pick_cases sl calls g i t _ F (fun k cs th s _ hk ht hs => ?_) (fun k cs th cl _ hk ht hs ec => ?_)
  · obtain ⟨q1, q2, q3⟩ := W.th k cs th hk ht
    obtain ⟨u1, u2, u3, u4⟩ := q3 s hs
    obtain ⟨f1, f2⟩ := F.th k th ht
    rw [hs] at f1
    exact few_go F u1 u2 (f2 s hs) f1 fun _ _ => Nat.le_refl _
  · obtain ⟨f1, f2, f3⟩ := wf_fresh hc W hk ht ec sl
    obtain ⟨g1, g2⟩ := F.th k th ht
    rw [hs] at g1
    obtain ⟨r1, r2⟩ := fresh_arem sl cl.kind (bh cl.kind cl.h (th.told.map fun x => x.1.h)) c hcn
    refine few_go F f1 f2 r2 ?_ fun k' hne => ?_
    · rw [costs_snoc, if_pos rfl]
      have : accs (Int.ofNat k) (List.drop b g.M.tr) + 0 ≤ costs c k g.all := g1
      show _ ≤ costs c k g.all + cost c cl.kind
      omega
    · rw [costs_snoc]
      split <;> omega
theorem few_at {sl : SlotsS} {calls : List (List C13)} (hc : Calls64 calls) {c b : Nat} (hcn : cnt sl.count = c) {picks : List Int} {g : R13} (W : WF13 calls g) (F : Few13 c b g) : ∀ j, Few13 c b (r13At sl calls picks g j)
  | 0 => F
  | j + 1 => by
    have ih := few_at hc hcn (picks := picks) W F j
    show Few13 c b (match picks[j]? with | some t => (r13At sl calls picks g j).pick sl calls j t | none => r13At sl calls picks g j)
    split
    · exact few_pick hc hcn (r13At_wf hc W j) ih _ _
    · exact ih
theorem few0 (c : Nat) (M : Mem) (calls : List (List C13)) : Few13 c M.tr.length (g13 M calls) := by
  refine ⟨Nat.le_refl _, fun k th h => ?_⟩
  simp only [g13, List.getElem?_replicate] at h
  split at h
  · cases h
    refine ⟨?_, fun s h => by cases h⟩
    show accs (Int.ofNat k) (M.tr.drop M.tr.length) + 0 ≤ _
    rw [List.drop_length]
    exact Nat.zero_le _
  · cases h
end Go.Proofs.YtmjiaahpjjnloaaGreat

set_option linter.unusedVariables false
set_option linter.unusedSimpArgs false
namespace Go.Proofs.YtmjiaahpjjnloaaGreat
open Go Go.CM
attribute [local irreducible] AsBool AsWant AsNat AsInt AsCnt AsPtr AsSlc AsLen AsStr AsAgg AsTup AsFn AsIfc Nth Sc NotNil IsNil Must Cd codeW funW Sat SatL wrapN subM mkRow ltZ leZ ltN leN
variable {con : CallT}
theorem take_next {α : Type} {l : List α} {i : Nat} {x : α} (h : l[i]? = some x) : l.take (i + 1) = l.take i ++ [x] := by rw [List.take_add_one, h]; rfl
theorem accs_le (th : Int) (l : List Acs) : accs th l ≤ l.length := by
  have : ∀ (l : List Acs) (n : Nat), l.foldl (fun n x => if x.th = th then n + 1 else n) n ≤ n + l.length := fun l => by
    induction l with
    | nil => exact fun n => Nat.le_refl _
    | cons x l ih =>
      intro n
      simp only [List.foldl_cons, List.length_cons]
      have := ih (if x.th = th then n + 1 else n)
      split at this <;> split <;> omega
  have h := this l 0
  unfold accs; omega
theorem cost_le {c : Nat} (hc : c ≤ 256) (k : Int) : cost c k ≤ 517 := by
  unfold cost
  cases eqZ k (Int.ofNat 0) with
  | true => show 2 * c + 5 ≤ 517; omega
  | false => cases eqZ k (Int.ofNat 2) with
    | true => show c + 1 ≤ 517; omega
    | false => show 2 ≤ 517; omega
theorem costs_le {c : Nat} (hc : c ≤ 256) (k : Nat) (l : List Seen13) : costs c k l ≤ 517 * l.length := by
  have : ∀ (l : List Seen13) (n : Nat), l.foldl (fun n x => if x.th = k then n + cost c x.call.kind else n) n ≤ n + 517 * l.length := fun l => by
    induction l with
    | nil => exact fun n => Nat.le_refl _
    | cons x l ih =>
      intro n
      simp only [List.foldl_cons, List.length_cons]
      have h1 := ih (if x.th = k then n + cost c x.call.kind else n)
      have h2 := cost_le hc x.call.kind
      split at h1 <;> split <;> omega
  have h := this l 0
  unfold costs; omega
theorem eqZ_int {a b : Int} : eqZ a b = true ↔ a = b := ⟨fun h => of_decide_eq_true h, fun h => decide_eq_true h⟩
set_option maxRecDepth 100000 in
theorem annFew_ok (hc : Con con lives) (hlive : ∀ H, con 15 ⟨[]⟩ H = some (.bool true, H)) {R : List HP} {H : CH} {n : Int} {most : Nat} {xv xw : Value} {calls : List (List C13)} {picks : List Int} (hc64 : Calls64 calls)
    (hl1 : calls.length ≤ 1048576) (hl2 : ∀ cs ∈ calls, cs.length ≤ 1048576) (hpc : picks.length ≤ 1048576) (hs : Sat (Thr13 xv calls :: IntsR xw picks :: R) H) :
    Call1 Tryz.prog con 5 [.agg ⟨[i64 n, u64 most, xv, xw]⟩] H (fun v _ => v = .bool true) := by
  refine call_of (hc _ _ _ rfl) ?_
  rw [annFew_W]
  refine na fun p1 H1 h1 => ?_
  refine la rfl (la rfl (la rfl (la rfl ?_)))
  refine l13memory_ok hc h1 fun m H8 h8 => ?_
  obtain ⟨hfine, htr⟩ := slots13_fine n most
  cases hr : right13 n most with
  | false =>
    rw [slots13_no hr] at h8 hfine htr ⊢
    repeat (refine gO ?_; intros)
    refine stN (by assumption) (Nat.le_of_ble_eq_true rfl) rfl fun H22 h22 => ?_
    refine call_yes (hlive _) ?_
    repeat (refine gO ?_; intros)
    refine l13right_ok hc h22 fun H31 h31 => ?_
    rw [hr]
    repeat (refine gO ?_; intros)
    rfl
  | true =>
    obtain ⟨c, rfl, c1, c2, c3, c4, es⟩ := slots13_yes hr
    rw [es] at h8 hfine htr ⊢
    generalize hM1 : mem13.alloc (Int.negSucc 0) (List.replicate c 0) = M1 at h8 hfine htr
    repeat (refine gO ?_; intros)
    refine stN (by assumption) (Nat.le_of_ble_eq_true rfl) rfl fun H22 h22 => ?_
    refine call_yes (hlive _) ?_
    repeat (refine gO ?_; intros)
    refine l13right_ok hc h22 fun H31 h31 => ?_
    rw [hr]
    repeat (refine gO ?_; intros)
    refine memTraceK_ok hc h31 pp (by omega) hfine.vals fun x H36 h36 => ?_
    obtain ⟨px, ex⟩ := (h36.has (Has.here fun ⟨vs, q1, q2⟩ s => ⟨vs, q1, q2.mono s⟩)).shape
    subst ex
    repeat (refine gO ?_; intros)
    refine run13_ok (sl := ⟨1, 2, Int.ofNat c, most⟩) (R := Own p1 [i64 (Int.ofNat c), u64 most, xv, xw] :: Own _ [u64 1, u64 2, i64 (Int.ofNat c), u64 most] :: R) hc hc64 hfine hl1 hl2 hpc htr (h36.ent ee) fun bo eo va phs pool rowsA g H47 hg hpl hra h47 => ?_
    have W := r13At_wf (sl := ⟨1, 2, Int.ofNat c, most⟩) hc64 (picks := picks) (wf0 hfine calls) picks.length
    have hcn : cnt (SlotsS.count ⟨1, 2, Int.ofNat c, most⟩) = c := by
      show cnt (Int.ofNat c) = c
      unfold cnt
      simp only
      rw [if_neg (by omega)]
    have F := few_at (sl := ⟨1, 2, Int.ofNat c, most⟩) hc64 hcn (picks := picks) (wf0 hfine calls) (few0 c M1 calls) picks.length
    have hz := r13At_sz (sl := ⟨1, 2, Int.ofNat c, most⟩) (calls := calls) (picks := picks) (g := g13 M1 calls) picks.length
    rw [← hg] at W F hz
    have hz1 : (g13 M1 calls).all.length = 0 := rfl
    have hz2 : (g13 M1 calls).M.tr.length ≤ 10 := htr
    clear hg
    have hthl := W.len
    have hfg := W.fine
    have hble := F.le
    repeat (refine gO ?_; intros)
    refine memTraceK_ok hc h47 pp (by omega) hfg.vals fun y H53 h53 => ?_
    obtain ⟨u1, u2, v1, v2, dd, ⟨vs, hvs, hva⟩, hRR⟩ := h53.opens Pull.here
    have h54 := Sat.merge v1 v2 dd hva hRR
    have lv : (List.zipWith encA g.M.tr vs).length = g.M.tr.length := by rw [List.length_zipWith, hvs, Nat.min_self]
    have hb2 : M1.tr.length = 2 := by rw [← hM1, alloc_len, mem13_tr]
    have hbT : 0 < g.M.tr.length := by have : (g13 M1 calls).M.tr.length = M1.tr.length := rfl; have : M1.tr.length ≤ g.M.tr.length := hble; omega
    have hra1 := hra.1
    obtain ⟨a0, ha0⟩ : ∃ a, g.M.tr[0]? = some a := ⟨_, List.getElem?_eq_getElem hbT⟩
    obtain ⟨w0, hw0⟩ : ∃ a, vs[0]? = some a := ⟨_, List.getElem?_eq_getElem (by omega)⟩
    obtain ⟨by_, ey, _⟩ := (h54.has Has.vec).slot (zip_get ha0 hw0)
    rw [lv] at ey
    subst ey
    have hacc : ∀ (i : Nat) (a : Acs) (off : Nat) (K : Value → Prop), g.M.tr[i]? = some a → off = i * 8 → K (i64 a.th) → Ld H53 by_ off K := fun i a off K ha ho k => by
      obtain ⟨w, hw⟩ : ∃ w, vs[i]? = some w := ⟨_, List.getElem?_eq_getElem (by have := (List.getElem?_eq_some_iff.1 ha).1; omega)⟩
      exact ldTr h54 Has.vec rfl ha hw (j := 0) (by omega) (by omega) rfl k
    have h55 : Sat (Row by_ tA 8 true (List.zipWith encA g.M.tr vs).flatten :: _) H53 := h54.imp fun h a => by
      obtain ⟨b', e, r⟩ := a.slot (zip_get ha0 hw0)
      injection e with e _ _
      injection e with e
      injection e with e _ _
      subst e
      exact r
    refine slcLo (s := 7) h55 el_acc (by rw [flat_len (zip_len _ _), lv]) (show M1.tr.length ≤ g.M.tr.length from hble) ?_
    clear h54 h55
    have hva : Sat (Vec va 47 11 rowsA :: _) H53 := h53.pull pp
    obtain ⟨pva, eva⟩ := (hva.has Has.vec).shape
    rw [hra.1] at eva
    have hseen : ∀ (i : Nat) (x : Seen13), g.all[i]? = some x → ∃ bv, va = slc bv 0 g.all.length g.all.length ∧ ∀ (off j : Nat) (v : Value) (K : Value → Prop), off = i * 11 + j → j < 11 → (∀ w, (sRow x w)[j]? = some v) → K v → Ld H53 bv off K := fun i x hx => by
      obtain ⟨r, hr, w, _, er, _⟩ := hra.at hx
      obtain ⟨bv, ev, _⟩ := (hva.has Has.vec).slot hr
      rw [hra.1] at ev
      refine ⟨bv, ev, fun off j v K ho hj hv k => ldVec hva Has.vec ev hr ho hj (by rw [er]; exact hv w) k⟩
    have hx2 : ∀ (K : Value → Prop), K xv → Ld H53 p1 2 K := fun K k => ld h53 rfl k
    have hx0 : ∀ (K : Value → Prop), K (i64 (Int.ofNat c)) → Ld H53 p1 0 K := fun K k => ld h53 rfl k
    obtain ⟨pxv, cxv, exv⟩ := (h53.has (has_pull (A := Thr13 xv calls) pp fun a t => RowsR.mono (fun ⟨x, e, a⟩ t => ⟨x, e, RowsR.mono (fun a _ => a) a t⟩) a t)).len
    clear hva h53 h47 h36
    refine LoopC.indP (n := 300) (id := 0) (fun σ H => True) (by kernel_rfl)
      (fun (k : Nat) σ H => k ≤ calls.length ∧ σ 1 = ptr p1 0 ∧ σ 8 = va ∧ σ 9 = slc by_ (M1.tr.length * 8) (g.M.tr.length - M1.tr.length) (g.M.tr.length - M1.tr.length) ∧ σ 10 = iN k ∧ H = H53)
      (fun k => calls.length - k) (fun k σ H hI => ?_) (fun σ H hP => ?_) 0 _ _ ⟨Nat.zero_le _, rfl, rfl, rfl, rfl, rfl⟩
    · obtain ⟨hk, a1, a8, a9, a10, rfl⟩ := hI
      rw [annFewA_W]
      rw [a1, a10]
      repeat (refine gO ?_; intros)
      refine hx2 _ (AsLen.eq exv ?_)
      repeat (refine gO ?_; intros)
      by_cases hlt : k < calls.length
      · refine Cd.t (ltZ_t hlt) ?_
        obtain ⟨th, hth⟩ : ∃ th, g.ths[k]? = some th := ⟨_, List.getElem?_eq_getElem (by omega)⟩
        have hF := (F.th k th hth).1
        generalize hD : g.M.tr.drop M1.tr.length = D at hF
        have hDl : D.length = g.M.tr.length - M1.tr.length := by rw [← hD, List.length_drop]
        have hDg : ∀ i, D[i]? = g.M.tr[M1.tr.length + i]? := fun i => by rw [← hD, List.getElem?_drop]
        refine LoopC.indP (n := 300) (id := 2) (fun σ H' => σ 1 = ptr p1 0 ∧ σ 8 = va ∧ σ 9 = slc by_ (M1.tr.length * 8) (g.M.tr.length - M1.tr.length) (g.M.tr.length - M1.tr.length) ∧ σ 10 = iN k ∧ σ 11 = iN (accs (Int.ofNat k) D) ∧ σ 12 = iN 0 ∧ H' = H) (by kernel_rfl)
          (fun (i : Nat) σ H' => i ≤ D.length ∧ σ 1 = ptr p1 0 ∧ σ 8 = va ∧ σ 9 = slc by_ (M1.tr.length * 8) (g.M.tr.length - M1.tr.length) (g.M.tr.length - M1.tr.length) ∧ σ 10 = iN k ∧ σ 11 = iN (accs (Int.ofNat k) (D.take i)) ∧ σ 12 = iN 0 ∧ σ 13 = iN i ∧ H' = H)
          (fun i => D.length - i) (fun i σ H' hI => ?_) (fun σ H' hP => ?_) 0 _ _ ⟨Nat.zero_le _, a1, a8, a9, a10, rfl, rfl, rfl, rfl⟩
        · obtain ⟨hi, b1, b8, b9, b10, b11, b12, b13, rfl⟩ := hI
          rw [annFewB_W]
          rw [b9, b10, b11, b13, ← hDl]
          repeat (refine gO ?_; intros)
          by_cases hil : i < D.length
          · refine Cd.t (ltZ_t hil) ?_
            repeat (refine gO ?_; intros)
            refine Must.mk (ltN_t hil) ?_
            obtain ⟨a, ha⟩ : ∃ a, D[i]? = some a := ⟨_, List.getElem?_eq_getElem hil⟩
            refine hacc (M1.tr.length + i) a _ _ ((hDg i).symm.trans ha) (by show M1.tr.length * 8 + i * 8 + 0 = _; omega) ?_
            have hle := accs_le (Int.ofNat k) (D.take i)
            rw [List.length_take] at hle
            have hsn : accs (Int.ofNat k) (D.take (i + 1)) = if a.th = Int.ofNat k then accs (Int.ofNat k) (D.take i) + 1 else accs (Int.ofNat k) (D.take i) := by rw [take_next ha, accs_snoc]
            repeat (refine gO ?_; intros)
            by_cases hat : a.th = Int.ofNat k
            · rw [if_pos hat] at hsn
              refine Cd.t (eqZ_int.2 hat) ?_
              repeat (refine gO ?_; intros)
              try rw [addInt]
              refine inR_nat (by omega) ?_
              repeat (refine gO ?_; intros)
              try rw [addInt]
              refine inR_nat (by omega) ?_
              repeat (refine gO ?_; intros)
              show ∃ y, _ ∧ _
              exact ⟨i + 1, by omega, hil, b1, b8, b9.trans (by rw [hDl]), b10, by rw [hsn]; rfl, b12, rfl, rfl⟩
            · rw [if_neg hat] at hsn
              refine Cd.f (by cases e : eqZ a.th (Int.ofNat k) with | false => rfl | true => exact absurd (eqZ_int.1 e) hat) ?_
              repeat (refine gO ?_; intros)
              try rw [addInt]
              refine inR_nat (by omega) ?_
              repeat (refine gO ?_; intros)
              show ∃ y, _ ∧ _
              exact ⟨i + 1, by omega, hil, b1, b8, b9.trans (by rw [hDl]), b10, by rw [hsn]; exact b11, b12, rfl, rfl⟩
          · refine Cd.f (ltZ_f (by omega)) ?_
            show _ = _ ∧ _
            rw [List.take_of_length_le (by omega)] at b11
            exact ⟨rfl, b1, b8, b9.trans (by rw [hDl]), b10, b11, b12, rfl⟩
        · obtain ⟨b1, b8, b9, b10, b11, b12, rfl⟩ := hP
          show Cd _ _ _
          refine Cd.t rfl ?_
          have hcl := costs_le c2 k g.all
          refine LoopC.indP (n := 300) (id := 4) (fun σ H => σ 1 = ptr p1 0 ∧ σ 8 = va ∧ σ 9 = slc by_ (M1.tr.length * 8) (g.M.tr.length - M1.tr.length) (g.M.tr.length - M1.tr.length) ∧ σ 10 = iN k ∧ σ 11 = iN (accs (Int.ofNat k) D) ∧ σ 12 = iN (costs c k g.all) ∧ H = H') (by kernel_rfl)
            (fun (i : Nat) σ H => i ≤ g.all.length ∧ σ 1 = ptr p1 0 ∧ σ 8 = va ∧ σ 9 = slc by_ (M1.tr.length * 8) (g.M.tr.length - M1.tr.length) (g.M.tr.length - M1.tr.length) ∧ σ 10 = iN k ∧ σ 11 = iN (accs (Int.ofNat k) D) ∧ σ 12 = iN (costs c k (g.all.take i)) ∧ σ 14 = iN i ∧ H = H')
            (fun i => g.all.length - i) (fun i σ H hI => ?_) (fun σ H hP => ?_) 0 _ _ ⟨Nat.zero_le _, b1, b8, b9, b10, b11, b12, rfl, rfl⟩
          · obtain ⟨hi, d1, d8, d9, d10, d11, d12, d14, rfl⟩ := hI
            rw [annFewC_W]
            rw [d1, d10, d12, d14]
            refine AsLen.eq (d8.trans eva) ?_
            repeat (refine gO ?_; intros)
            by_cases hil : i < g.all.length
            · refine Cd.t (ltZ_t hil) ?_
              obtain ⟨x, hx⟩ : ∃ x, g.all[i]? = some x := ⟨_, List.getElem?_eq_getElem hil⟩
              obtain ⟨bv, ev, hld⟩ := hseen i x hx
              have hle := costs_le c2 k (g.all.take i)
              rw [List.length_take] at hle
              have hco := cost_le c2 x.call.kind
              have hsn : costs c k (g.all.take (i + 1)) = if x.th = k then costs c k (g.all.take i) + cost c x.call.kind else costs c k (g.all.take i) := by rw [take_next hx, costs_snoc]
              refine AsSlc.eq (d8.trans ev) ?_
              repeat (refine gO ?_; intros)
              refine Must.mk (ltN_t hil) ?_
              refine hld _ 8 _ _ (by show 0 + i * 11 + 8 = _; omega) (by omega) (fun w => rfl) ?_
              repeat (refine gO ?_; intros)
              by_cases hxk : x.th = k
              · rw [if_pos hxk] at hsn
                refine Cd.f (by rw [eqZ_t hxk]; rfl) ?_
                refine AsSlc.eq (d8.trans ev) ?_
                repeat (refine gO ?_; intros)
                refine Must.mk (ltN_t hil) ?_
                refine hld _ 9 _ _ (by show 0 + i * 11 + 9 + 0 = _; omega) (by omega) (fun w => rfl) ?_
                repeat (refine gO ?_; intros)
                cases e0 : eqZ x.call.kind (Int.ofNat 0) with
                | true =>
                  have ec : cost c x.call.kind = 2 * c + 5 := by unfold cost; rw [e0]; rfl
                  rw [ec] at hsn
                  refine Cd.t rfl ?_
                  repeat (refine gO ?_; intros)
                  refine hx0 _ ?_
                  repeat (refine gO ?_; intros)
                  refine CInt.mulI (m := 2 * c) rfl (by omega) ?_
                  repeat (refine gO ?_; intros)
                  try rw [addInt]
                  refine inR_nat (by omega) ?_
                  repeat (refine gO ?_; intros)
                  try rw [addInt]
                  refine inR_nat (by omega) ?_
                  repeat (refine gO ?_; intros)
                  try rw [addInt]
                  refine inR_nat (by omega) ?_
                  repeat (refine gO ?_; intros)
                  show ∃ y, _ ∧ _
                  exact ⟨i + 1, by omega, hil, d1, d8, d9, d10, d11, by rw [hsn]; rfl, rfl, rfl⟩
                | false =>
                  refine Cd.f rfl ?_
                  repeat (refine gO ?_; intros)
                  cases e2 : eqZ x.call.kind (Int.ofNat 2) with
                  | true =>
                    have ec : cost c x.call.kind = c + 1 := by unfold cost; rw [e0, e2]; rfl
                    rw [ec] at hsn
                    refine Cd.t rfl ?_
                    repeat (refine gO ?_; intros)
                    refine hx0 _ ?_
                    repeat (refine gO ?_; intros)
                    try rw [addInt]
                    refine inR_nat (by omega) ?_
                    repeat (refine gO ?_; intros)
                    try rw [addInt]
                    refine inR_nat (by omega) ?_
                    repeat (refine gO ?_; intros)
                    try rw [addInt]
                    refine inR_nat (by omega) ?_
                    repeat (refine gO ?_; intros)
                    show ∃ y, _ ∧ _
                    exact ⟨i + 1, by omega, hil, d1, d8, d9, d10, d11, by rw [hsn]; rfl, rfl, rfl⟩
                  | false =>
                    have ec : cost c x.call.kind = 2 := by unfold cost; rw [e0, e2]; rfl
                    rw [ec] at hsn
                    refine Cd.f rfl ?_
                    repeat (refine gO ?_; intros)
                    try rw [addInt]
                    refine inR_nat (by omega) ?_
                    repeat (refine gO ?_; intros)
                    try rw [addInt]
                    refine inR_nat (by omega) ?_
                    repeat (refine gO ?_; intros)
                    show ∃ y, _ ∧ _
                    exact ⟨i + 1, by omega, hil, d1, d8, d9, d10, d11, by rw [hsn]; rfl, rfl, rfl⟩
              · rw [if_neg hxk] at hsn
                refine Cd.t (by rw [eqZ_f hxk]; rfl) ?_
                repeat (refine gO ?_; intros)
                try rw [addInt]
                refine inR_nat (by omega) ?_
                repeat (refine gO ?_; intros)
                show ∃ y, _ ∧ _
                exact ⟨i + 1, by omega, hil, d1, d8, d9, d10, d11, by rw [hsn]; exact d12, rfl, rfl⟩
            · refine Cd.f (ltZ_f (by omega)) ?_
              show _ = _ ∧ _
              rw [List.take_of_length_le (by omega)] at d12
              exact ⟨rfl, d1, d8, d9, d10, d11, d12, rfl⟩
          · obtain ⟨d1, d8, d9, d10, d11, d12, rfl⟩ := hP
            show Cd _ _ _
            refine Cd.t rfl ?_
            rw [d10, d11, d12]
            repeat (refine gO ?_; intros)
            refine Cd.f (ltZ_f (by omega)) ?_
            repeat (refine gO ?_; intros)
            try rw [addInt]
            refine inR_nat (by omega) ?_
            repeat (refine gO ?_; intros)
            show ∃ y, _ ∧ _
            exact ⟨k + 1, by omega, hlt, d1, d8, d9, rfl, rfl⟩
      · refine Cd.f (ltZ_f (by omega)) ?_
        show _ = _ ∧ _
        exact ⟨rfl, trivial⟩
    · show Cd _ _ _
      refine Cd.t rfl ?_
      rfl
end Go.Proofs.YtmjiaahpjjnloaaGreat

