/- What the functions do to the memories and procs that they are given: their contracts. The conditions stand in each. -/
import Derived.Test.YtmjiaahpjjnloaaGreatSpA
import Derived.Sort.AssemblyPlain
set_option linter.unusedVariables false
set_option linter.unusedSimpArgs false

set_option linter.unusedVariables false
set_option linter.unusedSimpArgs false
namespace Go.Proofs.YtmjiaahpjjnloaaGreat
open Go Go.CM
attribute [local irreducible] AsBool AsWant AsNat AsInt AsCnt AsPtr AsSlc AsLen AsStr AsAgg AsTup AsFn AsIfc Nth Sc NotNil IsNil Must Cd codeW funW Sat SatL wrapN subM mkRow ltZ leZ ltN leN
variable {con : CallT}
/-! ### threads of calls, pick by pick -/
structure Th13 where
  told : List (T13 × Bool)
  now : Option P13
  at_ : Nat
structure Seen13 where
  t : T13 × Bool
  from_ : Nat
  to : Int
  th : Nat
  call : C13
structure R13 where
  M : Mem
  ths : List Th13
  all : List Seen13
def z13T : T13 := ⟨0, 0, 0, 0, []⟩
def Seen13.upd (x : Seen13) (t : T13 × Bool) (i : Nat) : Seen13 := { x with t := t, to := if t.2 then Int.ofNat i else x.to }
def seenUpd (all : List Seen13) (a : Nat) (t : T13 × Bool) (i : Nat) : List Seen13 :=
  match all[a]? with
  | some x => all.set a (x.upd t i)
  | none => all
noncomputable def R13.go (g : R13) (i k : Nat) (s : P13) (told : List (T13 × Bool)) (a : Nat) (all : List Seen13) : R13 :=
  { M := (s.step g.M (Int.ofNat k)).2,
    ths := g.ths.set k ⟨told.set (told.length - 1) ((s.step g.M (Int.ofNat k)).1.told, (s.step g.M (Int.ofNat k)).1.fin), if (s.step g.M (Int.ofNat k)).1.fin then none else some (s.step g.M (Int.ofNat k)).1, a⟩,
    all := seenUpd all a ((s.step g.M (Int.ofNat k)).1.told, (s.step g.M (Int.ofNat k)).1.fin) i }
noncomputable def R13.pick (sl : SlotsS) (calls : List (List C13)) (g : R13) (i : Nat) (t : Int) : R13 :=
  match t with
  | .negSucc _ => g
  | .ofNat k =>
    match calls[k]?, g.ths[k]? with
    | some cs, some th =>
      (match th.now with
      | some s => g.go i k s th.told th.at_ g.all
      | none =>
        match cs[th.told.length]? with
        | none => g
        | some c => g.go i k (P13.fresh sl c.kind (bh c.kind c.h (th.told.map fun x => x.1.h))) (th.told ++ [(z13T, false)]) g.all.length (g.all ++ [⟨(z13T, false), i, Int.negSucc 0, k, c⟩]))
    | _, _ => g
structure WF13 (calls : List (List C13)) (g : R13) : Prop where
  len : g.ths.length = calls.length
  th : ∀ (k : Nat) cs th, calls[k]? = some cs → g.ths[k]? = some th → th.told.length ≤ cs.length ∧ (∀ x ∈ th.told, x.1.h < 18446744073709551616) ∧ ∀ s, th.now = some s → s.Ok ∧ s.Tl ∧ th.told ≠ [] ∧ th.at_ < g.all.length
  fine : Fine g.M
theorem seenUpd_len (all : List Seen13) (a : Nat) (t : T13 × Bool) (i : Nat) : (seenUpd all a t i).length = all.length := by
  unfold seenUpd
  split <;> simp
theorem wf_go {calls : List (List C13)} {g : R13} (W : WF13 calls g) {i k a : Nat} {s : P13} {told : List (T13 × Bool)} {all : List Seen13} {cs : List C13} (hk : calls[k]? = some cs) (hok : s.Ok) (htl : s.Tl) (hne : told ≠ []) (hle : told.length ≤ cs.length)
    (hh : ∀ x ∈ told, x.1.h < 18446744073709551616) (ha : a < all.length) (hall : g.all.length ≤ all.length) : WF13 calls (g.go i k s told a all) := by
  obtain ⟨p1, p2, p3⟩ := p13_step s g.M (Int.ofNat k) hok htl
  have hkl : k < g.ths.length := by rw [W.len]; exact (List.getElem?_eq_some_iff.1 hk).1
  refine ⟨by simp only [R13.go, List.length_set]; exact W.len, fun j cs' th h1 h2 => ?_, (p13_nxt s g.M (Int.ofNat k)).fine W.fine⟩
  simp only [R13.go, seenUpd_len] at h2 ⊢
  by_cases hj : k = j
  · subst hj
    rw [List.getElem?_set_self hkl] at h2
    rw [hk] at h1
    cases h1
    cases h2
    refine ⟨by simpa using hle, fun x hx => ?_, fun s' hs' => ?_⟩
    · rcases List.mem_or_eq_of_mem_set hx with h | rfl
      · exact hh x h
      · exact p13_hlt p2
    · simp only at hs'
      by_cases hf : (s.step g.M (Int.ofNat k)).1.fin = true
      · rw [if_pos hf] at hs'; cases hs'
      · rw [if_neg hf] at hs'
        cases hs'
        refine ⟨p1 (by simpa using hf), p2, fun h => hne ?_, ha⟩
        have := congrArg List.length h
        simp at this
        exact this
  · rw [List.getElem?_set_ne hj] at h2
    obtain ⟨q1, q2, q3⟩ := W.th j cs' th h1 h2
    exact ⟨q1, q2, fun s' hs' => by obtain ⟨u1, u2, u3, u4⟩ := q3 s' hs'; exact ⟨u1, u2, u3, by omega⟩⟩
def Calls64 (calls : List (List C13)) : Prop := ∀ cs ∈ calls, ∀ c ∈ cs, c.h < 18446744073709551616
theorem wf_fresh {calls : List (List C13)} (hc : Calls64 calls) {g : R13} (W : WF13 calls g) {k : Nat} {cs : List C13} {th : Th13} {c : C13} (hk : calls[k]? = some cs) (ht : g.ths[k]? = some th) (ec : cs[th.told.length]? = some c) (sl : SlotsS) :
    (P13.fresh sl c.kind (bh c.kind c.h (th.told.map fun x => x.1.h))).Ok ∧ (P13.fresh sl c.kind (bh c.kind c.h (th.told.map fun x => x.1.h))).Tl ∧ ∀ x ∈ th.told ++ [(z13T, false)], x.1.h < 18446744073709551616 := by
  obtain ⟨q1, q2, q3⟩ := W.th k cs th hk ht
  obtain ⟨f1, f2, _, _⟩ := p13_fresh sl c.kind (bh_lt (kind := c.kind) (hd := th.told.map fun x => x.1.h) (hc cs (List.mem_of_getElem? hk) c (List.mem_of_getElem? ec)) fun x hx => by
    obtain ⟨y, hy, rfl⟩ := List.mem_map.1 hx
    exact q2 y hy)
  refine ⟨f1, f2, fun x hx => ?_⟩
  rcases List.mem_append.1 hx with h | h
  · exact q2 x h
  · rw [List.mem_singleton.1 h]; show 0 < _; omega
/-- What a pick does, case by case. -/
theorem pick_cases (sl : SlotsS) (calls : List (List C13)) (g : R13) (i : Nat) (t : Int) (Q : R13 → Prop) (h0 : Q g)
    (h1 : ∀ (k : Nat) cs th s, t = Int.ofNat k → calls[k]? = some cs → g.ths[k]? = some th → th.now = some s → Q (g.go i k s th.told th.at_ g.all))
    (h2 : ∀ (k : Nat) cs th c, t = Int.ofNat k → calls[k]? = some cs → g.ths[k]? = some th → th.now = none → cs[th.told.length]? = some c →
      Q (g.go i k (P13.fresh sl c.kind (bh c.kind c.h (th.told.map fun x => x.1.h))) (th.told ++ [(z13T, false)]) g.all.length (g.all ++ [⟨(z13T, false), i, Int.negSucc 0, k, c⟩]))) : Q (g.pick sl calls i t) := by
  cases t with
  | negSucc z => exact h0
  | ofNat k =>
    cases e1 : calls[k]? with
    | none => simp only [R13.pick, e1]; exact h0
    | some cs =>
      cases e2 : g.ths[k]? with
      | none => simp only [R13.pick, e1, e2]; exact h0
      | some th =>
        cases e3 : th.now with
        | some s => simp only [R13.pick, e1, e2, e3]; exact h1 k cs th s rfl e1 e2 e3
        | none =>
          cases e4 : cs[th.told.length]? with
          | none => simp only [R13.pick, e1, e2, e3, e4]; exact h0
          | some c => simp only [R13.pick, e1, e2, e3, e4]; exact h2 k cs th c rfl e1 e2 e3 e4
theorem wf_pick {calls : List (List C13)} (hc : Calls64 calls) (sl : SlotsS) {g : R13} (W : WF13 calls g) (i : Nat) (t : Int) : WF13 calls (g.pick sl calls i t) := by
  refine pick_cases sl calls g i t _ W (fun k cs th s _ hk ht hs => ?_) (fun k cs th c _ hk ht hs ec => ?_)
  · obtain ⟨q1, q2, q3⟩ := W.th k cs th hk ht
    obtain ⟨u1, u2, u3, u4⟩ := q3 s hs
    exact wf_go W hk u1 u2 u3 q1 q2 u4 (Nat.le_refl _)
  · obtain ⟨q1, q2, q3⟩ := W.th k cs th hk ht
    obtain ⟨f1, f2, f3⟩ := wf_fresh hc W hk ht ec sl
    have := (List.getElem?_eq_some_iff.1 ec).1
    exact wf_go W hk f1 f2 (by simp) (by simp; omega) f3 (by simp) (by simp)
theorem go_sz (g : R13) (i k a : Nat) (s : P13) (told : List (T13 × Bool)) (all : List Seen13) : (g.go i k s told a all).all.length = all.length ∧ (g.go i k s told a all).M.tr.length ≤ g.M.tr.length + 1 := by
  refine ⟨by simp only [R13.go, seenUpd_len], (p13_nxt s g.M (Int.ofNat k)).tr⟩
theorem pick_sz (calls : List (List C13)) (sl : SlotsS) (g : R13) (i : Nat) (t : Int) : (g.pick sl calls i t).all.length ≤ g.all.length + 1 ∧ (g.pick sl calls i t).M.tr.length ≤ g.M.tr.length + 1 := by
  refine pick_cases sl calls g i t (fun g' => g'.all.length ≤ g.all.length + 1 ∧ g'.M.tr.length ≤ g.M.tr.length + 1) ⟨Nat.le_succ _, Nat.le_succ _⟩ (fun k cs th s _ hk ht hs => ?_) (fun k cs th c _ hk ht hs ec => ?_)
  · obtain ⟨h1, h2⟩ := go_sz g i k th.at_ s th.told g.all
    exact ⟨by omega, h2⟩
  · obtain ⟨h1, h2⟩ := go_sz g i k g.all.length (P13.fresh sl c.kind (bh c.kind c.h (th.told.map fun x => x.1.h))) (th.told ++ [(z13T, false)]) (g.all ++ [⟨(z13T, false), i, Int.negSucc 0, k, c⟩])
    exact ⟨by rw [h1]; simp, h2⟩
/-- All picks up to one. -/
noncomputable def r13At (sl : SlotsS) (calls : List (List C13)) (picks : List Int) (g : R13) : Nat → R13
  | 0 => g
  | j + 1 => match picks[j]? with | some t => (r13At sl calls picks g j).pick sl calls j t | none => r13At sl calls picks g j
theorem r13At_succ {sl : SlotsS} {calls : List (List C13)} {picks : List Int} {g : R13} {j : Nat} {t : Int} (h : picks[j]? = some t) : r13At sl calls picks g (j + 1) = (r13At sl calls picks g j).pick sl calls j t := by
  show (match picks[j]? with | some t => (r13At sl calls picks g j).pick sl calls j t | none => r13At sl calls picks g j) = _
  rw [h]
theorem r13At_wf {sl : SlotsS} {calls : List (List C13)} (hc : Calls64 calls) {picks : List Int} {g : R13} (W : WF13 calls g) : ∀ j, WF13 calls (r13At sl calls picks g j)
  | 0 => W
  | j + 1 => by
    have ih := r13At_wf hc (sl := sl) (picks := picks) W j
    show WF13 calls (match picks[j]? with | some t => (r13At sl calls picks g j).pick sl calls j t | none => r13At sl calls picks g j)
    split
    · exact wf_pick hc sl ih _ _
    · exact ih
theorem r13At_sz {sl : SlotsS} {calls : List (List C13)} {picks : List Int} {g : R13} : ∀ j, (r13At sl calls picks g j).all.length ≤ g.all.length + j ∧ (r13At sl calls picks g j).M.tr.length ≤ g.M.tr.length + j
  | 0 => ⟨Nat.le_refl _, Nat.le_refl _⟩
  | j + 1 => by
    have ih := r13At_sz (sl := sl) (calls := calls) (picks := picks) (g := g) j
    show (match picks[j]? with | some t => (r13At sl calls picks g j).pick sl calls j t | none => r13At sl calls picks g j).all.length ≤ _ ∧ (match picks[j]? with | some t => (r13At sl calls picks g j).pick sl calls j t | none => r13At sl calls picks g j).M.tr.length ≤ _
    split
    · rename_i t _
      have := pick_sz calls sl (r13At sl calls picks g j) j t
      omega
    · omega
/-! ### where all this lies -/
abbrev Pool := List (Value × List Nat)
def poolL (pool : Pool) : List HP := pool.map fun x => Nums x.1 x.2
def tRow (x : T13 × Bool) (w : Value) : List Value := [u64 x.1.h, u64 x.1.st, iN x.1.er, u64 x.1.fl, w, .bool x.2]
def RowT (pool : Pool) (x : T13 × Bool) (row : List Value) : Prop := ∃ w, isCell w = true ∧ row = tRow x w ∧ (w, x.1.need) ∈ pool
def sRow (x : Seen13) (w : Value) : List Value := [u64 x.t.1.h, u64 x.t.1.st, iN x.t.1.er, u64 x.t.1.fl, w, .bool x.t.2, iN x.from_, i64 x.to, iN x.th, i64 x.call.kind, u64 x.call.h]
def RowS (pool : Pool) (x : Seen13) (row : List Value) : Prop := ∃ w, isCell w = true ∧ row = sRow x w ∧ (w, x.t.1.need) ∈ pool
/-- Rows that fit what they tell, one by one. -/
def Rows2 {α : Type} (Q : α → List Value → Prop) (l : List α) (rows : List (List Value)) : Prop := rows.length = l.length ∧ ∀ (i : Nat) x r, l[i]? = some x → rows[i]? = some r → Q x r
theorem Rows2.nil {α : Type} {Q : α → List Value → Prop} : Rows2 Q [] [] := ⟨rfl, fun i x r h => by simp at h⟩
theorem Rows2.snoc {α : Type} {Q : α → List Value → Prop} {l : List α} {rows : List (List Value)} (h : Rows2 Q l rows) {x : α} {r : List Value} (q : Q x r) : Rows2 Q (l ++ [x]) (rows ++ [r]) := by
  obtain ⟨h1, h2⟩ := h
  refine ⟨by simp [h1], fun i y s hy hr => ?_⟩
  by_cases hl : i < l.length
  · rw [List.getElem?_append_left hl] at hy
    rw [List.getElem?_append_left (by omega)] at hr
    exact h2 i y s hy hr
  · rw [List.getElem?_append_right (by omega)] at hy hr
    rw [h1] at hr
    cases e : i - l.length with
    | zero => rw [e] at hy hr; cases hy; cases hr; exact q
    | succ k => rw [e] at hy; simp at hy
theorem Rows2.set {α : Type} {Q : α → List Value → Prop} {l : List α} {rows : List (List Value)} (h : Rows2 Q l rows) (i : Nat) {x : α} {r : List Value} (q : Q x r) : Rows2 Q (l.set i x) (rows.set i r) := by
  obtain ⟨h1, h2⟩ := h
  refine ⟨by simp [h1], fun j y s hy hr => ?_⟩
  rw [List.getElem?_set] at hy hr
  by_cases e : i = j
  · subst e
    simp only [if_true] at hy hr
    by_cases hl : i < l.length
    · rw [if_pos hl] at hy
      rw [if_pos (by omega)] at hr
      cases hy; cases hr; exact q
    · rw [if_neg hl] at hy; cases hy
  · rw [if_neg e] at hy hr
    exact h2 j y s hy hr
theorem Rows2.mono {α : Type} {Q Q' : α → List Value → Prop} {l : List α} {rows : List (List Value)} (h : Rows2 Q l rows) (f : ∀ x r, Q x r → Q' x r) : Rows2 Q' l rows := ⟨h.1, fun i x r h1 h2 => f x r (h.2 i x r h1 h2)⟩
theorem Rows2.at {α : Type} {Q : α → List Value → Prop} {l : List α} {rows : List (List Value)} (h : Rows2 Q l rows) {i : Nat} {x : α} (hx : l[i]? = some x) : ∃ r, rows[i]? = some r ∧ Q x r := by
  have hi := (List.getElem?_eq_some_iff.1 hx).1
  exact ⟨_, List.getElem?_eq_getElem (by have := h.1; omega), h.2 i x _ hx (List.getElem?_eq_getElem (by have := h.1; omega))⟩
theorem RowT.mono {pool pool' : Pool} (h : ∀ x ∈ pool, x ∈ pool') (x : T13 × Bool) (r : List Value) (a : RowT pool x r) : RowT pool' x r := by
  obtain ⟨w, h1, h2, h3⟩ := a
  exact ⟨w, h1, h2, h _ h3⟩
theorem RowS.mono {pool pool' : Pool} (h : ∀ x ∈ pool, x ∈ pool') (x : Seen13) (r : List Value) (a : RowS pool x r) : RowS pool' x r := by
  obtain ⟨w, h1, h2, h3⟩ := a
  exact ⟨w, h1, h2, h _ h3⟩
structure Ph13 where
  vo : Value
  vn : Value
  q : Nat
  nq : Nat
  k : Nat
abbrev nilP : Value := .pointer none
def NowP (vn : Value) (now : Option P13) : HP := fun h => match now with | none => vn = nilP | some s => ∃ p, vn = ptr p 0 ∧ PrAt13 p s h
def ThP (m : Nat) (pool : Pool) (ph : Ph13) (th : Th13) : HP := fun h => ∃ rows, Rows2 (RowT pool) th.told rows ∧ SatL [Vec ph.vo 43 6 rows, NowP ph.vn th.now, ViewAt ph.q m (Int.ofNat ph.k) ph.nq] h
theorem ThP.mono {m : Nat} {pool pool' : Pool} (hp : ∀ x ∈ pool, x ∈ pool') {ph : Ph13} {th : Th13} (g : PH) (a : ThP m pool ph th g) : ThP m pool' ph th g := by
  obtain ⟨rows, h1, h2⟩ := a
  exact ⟨rows, h1.mono fun x r => RowT.mono hp x r, h2⟩
def ThrP (l : List C13) (cs : List Value) : HP := fun h => ∃ xv, cs = [xv] ∧ C13R xv l h
abbrev Thr13 (v : Value) (l : List (List C13)) : HP := RowsR 1 ThrP v l
theorem has_thr {v : Value} {l : List (List C13)} {L : List HP} : Has (Thr13 v l :: L) (Thr13 v l) := Has.here fun a t => RowsR.mono (fun ⟨x, e, a⟩ t => ⟨x, e, RowsR.mono (fun a _ => a) a t⟩) a t
theorem has_ints {v : Value} {l : List Int} {L : List HP} : Has (IntsR v l :: L) (IntsR v l) := Has.here fun a t => IntsR.mono a t
end Go.Proofs.YtmjiaahpjjnloaaGreat

set_option linter.unusedVariables false
set_option linter.unusedSimpArgs false
namespace Go.Proofs.YtmjiaahpjjnloaaGreat
open Go Go.CM
attribute [local irreducible] AsBool AsWant AsNat AsInt AsCnt AsPtr AsSlc AsLen AsStr AsAgg AsTup AsFn AsIfc Nth Sc NotNil IsNil Must Cd codeW funW Sat SatL wrapN subM mkRow ltZ leZ ltN leN
variable {con : CallT}
theorem el_seen : elemOk Tryz.prog 35 47 11 104 = true := by kernel_rfl
theorem sl_seen : ∃ e, Tryz.prog.underlying 35 = some (.slice e) := ⟨47, by kernel_rfl⟩
theorem ths_put {m k : Nat} {pool pool' : Pool} (hp : ∀ x ∈ pool, x ∈ pool') {phs : List Ph13} {ths : List Th13} {ph : Ph13} {th : Th13} {L : List HP} {H : CH} (h1 : k < phs.length) (h2 : k < ths.length)
    (hs : Sat (ThP m pool' ph th :: SatL ((List.zipWith (ThP m pool) phs ths).set k Emp) :: L) H) : Sat (SatL (List.zipWith (ThP m pool') (phs.set k ph) (ths.set k th)) :: L) H := by
  have h3 := Sat.putAll (i := k) (by simp; omega) hs
  refine h3.impAll (by simp) fun i A B e1 e2 g a => ?_
  rw [List.getElem?_set] at e1
  rw [List.getElem?_zipWith, List.getElem?_set, List.getElem?_set] at e2
  by_cases hi : k = i
  · subst hi
    rw [if_pos rfl, if_pos (by simp; omega)] at e1
    rw [if_pos rfl, if_pos rfl, if_pos h1, if_pos h2] at e2
    cases e1
    cases e2
    exact a
  · rw [if_neg hi, List.getElem?_zipWith] at e1
    rw [if_neg hi, if_neg hi] at e2
    cases e3 : phs[i]? with
    | none => rw [e3] at e1; cases e1
    | some ph' =>
      cases e4 : ths[i]? with
      | none => rw [e3, e4] at e1; cases e1
      | some th' =>
        rw [e3, e4] at e1 e2
        cases e1
        cases e2
        exact ThP.mono hp g a
theorem run13_put {m k bo bn ba eo en ea p1 p3 a n2 : Nat} {M2 : Mem} {vo vn' w vv va xv xw : Value} {nd : List Nat} {sl : SlotsS} {n0 : Int} {most : Nat} {calls : List (List C13)} {picks : List Int} {pool : Pool} {phs : List Ph13} {ths : List Th13} {ph : Ph13} {rowsA rows' : List (List Value)} {told' : List (T13 × Bool)} {now' : Option P13} {R : List HP} {H : CH}
    (h1 : k < phs.length) (h2 : k < ths.length) (hph : phs[k]? = some ph) (hrw : Rows2 (RowT ((w, nd) :: pool)) told' rows')
    (hs : Sat (Vec vo 43 6 rows' :: NowP vn' now' :: ViewAt ph.q m (Int.ofNat k) n2 :: Nums w nd :: SatL ((List.zipWith (ThP m pool) phs ths).set k Emp) :: MemP m M2 :: Row bo eo 0 true ((phs.map Ph13.vo).set k vo) :: Row bn en 0 true ((phs.map Ph13.vn).set k vn') :: Row ba ea 0 true ((ths.map fun t => iN t.at_).set k (iN a)) :: Vec vv 68 1 (phs.map fun p => [ptr p.q 0]) :: Vec va 47 11 rowsA :: SatL (poolL pool) :: Own p1 [u64 sl.cam, u64 sl.first, i64 sl.count, u64 sl.most] :: Own p3 [i64 n0, u64 most, xv, xw] :: Thr13 xv calls :: IntsR xw picks :: R) H) :
    Sat (MemP m M2 :: Row bo eo 0 true ((phs.set k ⟨vo, vn', ph.q, n2, k⟩).map Ph13.vo) :: Row bn en 0 true ((phs.set k ⟨vo, vn', ph.q, n2, k⟩).map Ph13.vn) :: Row ba ea 0 true ((ths.set k ⟨told', now', a⟩).map fun t => iN t.at_) :: Vec vv 68 1 ((phs.set k ⟨vo, vn', ph.q, n2, k⟩).map fun p => [ptr p.q 0]) :: SatL (List.zipWith (ThP m ((w, nd) :: pool)) (phs.set k ⟨vo, vn', ph.q, n2, k⟩) (ths.set k ⟨told', now', a⟩)) :: Vec va 47 11 rowsA :: SatL (poolL ((w, nd) :: pool)) :: Own p1 [u64 sl.cam, u64 sl.first, i64 sl.count, u64 sl.most] :: Own p3 [i64 n0, u64 most, xv, xw] :: Thr13 xv calls :: IntsR xw picks :: R) H := by
  have hvw : (phs.map fun p => [ptr p.q 0])[k]? = some [ptr ph.q 0] := by rw [List.getElem?_map, hph]; rfl
  have e4 : (phs.set k ⟨vo, vn', ph.q, n2, k⟩).map (fun p => [ptr p.q 0]) = phs.map fun p => [ptr p.q 0] := by rw [List.map_set]; exact set_self hvw
  rw [e4, List.map_set, List.map_set, List.map_set]
  have h3 : Sat ([Vec vo 43 6 rows', NowP vn' now', ViewAt ph.q m (Int.ofNat k) n2] ++ (SatL ((List.zipWith (ThP m pool) phs ths).set k Emp) :: Nums w nd :: MemP m M2 :: Row bo eo 0 true ((phs.map Ph13.vo).set k vo) :: Row bn en 0 true ((phs.map Ph13.vn).set k vn') :: Row ba ea 0 true ((ths.map fun t => iN t.at_).set k (iN a)) :: Vec vv 68 1 (phs.map fun p => [ptr p.q 0]) :: Vec va 47 11 rowsA :: SatL (poolL pool) :: Own p1 [u64 sl.cam, u64 sl.first, i64 sl.count, u64 sl.most] :: Own p3 [i64 n0, u64 most, xv, xw] :: Thr13 xv calls :: IntsR xw picks :: R)) H := hs.ent ee
  have h4 := h3.close (A := ThP m ((w, nd) :: pool) ⟨vo, vn', ph.q, n2, k⟩ ⟨told', now', a⟩) fun g b => ⟨rows', hrw, b⟩
  have h5 := ths_put (fun x hx => List.mem_cons_of_mem _ hx) h1 h2 h4
  have h6 : Sat ([Nums w nd, SatL (poolL pool)] ++ (SatL (List.zipWith (ThP m ((w, nd) :: pool)) (phs.set k ⟨vo, vn', ph.q, n2, k⟩) (ths.set k ⟨told', now', a⟩)) :: MemP m M2 :: Row bo eo 0 true ((phs.map Ph13.vo).set k vo) :: Row bn en 0 true ((phs.map Ph13.vn).set k vn') :: Row ba ea 0 true ((ths.map fun t => iN t.at_).set k (iN a)) :: Vec vv 68 1 (phs.map fun p => [ptr p.q 0]) :: Vec va 47 11 rowsA :: Own p1 [u64 sl.cam, u64 sl.first, i64 sl.count, u64 sl.most] :: Own p3 [i64 n0, u64 most, xv, xw] :: Thr13 xv calls :: IntsR xw picks :: R)) H := h5.ent ee
  have h7 := h6.close (A := SatL (poolL ((w, nd) :: pool))) fun g b => satL_cons b
  exact h7.ent ee
set_option maxRecDepth 100000 in
theorem run13_pick (hc : Con con lives) {sl : SlotsS} {calls : List (List C13)} (hc64 : Calls64 calls) {g : R13} (W : WF13 calls g) {R : List HP} {H : CH} {m bo bn ba eo en ea p1 p3 j n : Nat} {vv va xv xw : Value} {n0 : Int} {most : Nat} {t : Int} {picks : List Int} {phs : List Ph13} {pool : Pool} {rowsA : List (List Value)} {σ : TF} {Q : KX}
    (hn : n = calls.length) (hl1 : calls.length ≤ 1048576) (hl2 : ∀ cs ∈ calls, cs.length ≤ 1048576) (hpl : phs.length = n) (hpk : ∀ (i : Nat) ph, phs[i]? = some ph → ph.k = i ∧ ph.nq ≤ j) (hj : j < picks.length) (hpc : picks.length ≤ 1048576) (et : picks[j]? = some t) (htr' : g.M.tr.length ≤ 10 + j) (hal : g.all.length ≤ j)
    (hp0 : (snil, []) ∈ pool) (hra : Rows2 (RowS pool) g.all rowsA)
    (hs : Sat (MemP m g.M :: Row bo eo 0 true (phs.map Ph13.vo) :: Row bn en 0 true (phs.map Ph13.vn) :: Row ba ea 0 true (g.ths.map fun t => iN t.at_) :: Vec vv 68 1 (phs.map fun p => [ptr p.q 0]) :: SatL (List.zipWith (ThP m pool) phs g.ths) :: Vec va 47 11 rowsA :: SatL (poolL pool) :: Own p1 [u64 sl.cam, u64 sl.first, i64 sl.count, u64 sl.most] :: Own p3 [i64 n0, u64 most, xv, xw] :: Thr13 xv calls :: IntsR xw picks :: R) H)
    (a4 : σ 4 = ptr p1 0) (a5 : σ 5 = ptr p3 0) (a8 : σ 8 = slc bo 0 n n) (a9 : σ 9 = slc bn 0 n n) (a10 : σ 10 = slc ba 0 n n) (a11 : σ 11 = vv) (a13 : σ 13 = va) (a14 : σ 14 = iN j)
    (kk : ∀ σ1 H1 phs' pool' va' rowsA', σ1 4 = ptr p1 0 → σ1 5 = ptr p3 0 → σ1 8 = slc bo 0 n n → σ1 9 = slc bn 0 n n → σ1 10 = slc ba 0 n n → σ1 11 = vv → σ1 13 = va' → σ1 14 = iN (j + 1) → phs'.length = n → (∀ (i : Nat) ph, phs'[i]? = some ph → ph.k = i ∧ ph.nq ≤ j + 1) → (snil, []) ∈ pool' → Rows2 (RowS pool') (g.pick sl calls j t).all rowsA' →
      ∀
      (h1 : Sat (MemP m (g.pick sl calls j t).M :: Row bo eo 0 true (phs'.map Ph13.vo) :: Row bn en 0 true (phs'.map Ph13.vn) :: Row ba ea 0 true ((g.pick sl calls j t).ths.map fun t => iN t.at_) :: Vec vv 68 1 (phs'.map fun p => [ptr p.q 0]) :: SatL (List.zipWith (ThP m pool') phs' (g.pick sl calls j t).ths) :: Vec va' 47 11 rowsA' :: SatL (poolL pool') :: Own p1 [u64 sl.cam, u64 sl.first, i64 sl.count, u64 sl.most] :: Own p3 [i64 n0, u64 most, xv, xw] :: Thr13 xv calls :: IntsR xw picks :: R) H1)
      , Q .normal σ1 H1) :
    codeW (lpAt Tryz.prog 17 1) Tryz.prog con σ H Q := by
  rw [l13runB_W]
  rw [a4, a5, a8, a9, a10, a13, a14]
  obtain ⟨bw, cw, csw, rfl, _, ecw, hldw⟩ := rows_at hs (Has.skip (Has.skip (Has.skip (Has.skip (Has.skip (Has.skip (Has.skip (Has.skip (Has.skip (Has.skip (Has.skip has_ints))))))))))) et
  obtain ⟨pxv, cxv, exv⟩ := (hs.has (Has.skip (Has.skip (Has.skip (Has.skip (Has.skip (Has.skip (Has.skip (Has.skip (Has.skip (Has.skip has_thr))))))))))).len
  have htr : g.M.tr.length < 1000000000 := by omega
  have hkk : ∀ (i : Nat) ph, phs[i]? = some ph → ph.k = i ∧ ph.nq ≤ j + 1 := fun i ph h => ⟨(hpk i ph h).1, by have := (hpk i ph h).2; omega⟩
  have idle : ∀ (σ1 : TF), g.pick sl calls j t = g → σ1 4 = ptr p1 0 → σ1 5 = ptr p3 0 → σ1 8 = slc bo 0 n n → σ1 9 = slc bn 0 n n → σ1 10 = slc ba 0 n n → σ1 11 = vv → σ1 13 = va → σ1 14 = iN (j + 1) → Q .normal σ1 H := fun σ1 hp b4 b5 b8 b9 b10 b11 b13 b14 => by
    rw [hp] at kk
    exact kk σ1 H phs pool va rowsA b4 b5 b8 b9 b10 b11 b13 b14 hpl hkk hp0 hra hs
  repeat (refine gO ?_; intros)
  refine Cd.t (ltZ_t hj) ?_
  repeat (refine gO ?_; intros)
  refine Must.mk (ltN_t hj) ?_
  refine hldw _ 0 _ _ (by show 0 + j * 1 = _; omega) (by rw [ecw]; rfl) ?_
  repeat (refine gO ?_; intros)
  cases t with
  | negSucc z =>
    refine Cd.t ltZ_neg ?_
    repeat (refine gO ?_; intros)
    try rw [addInt]
    refine inR_nat (by omega) ?_
    repeat (refine gO ?_; intros)
    exact idle _ rfl a4 a5 a8 a9 a10 a11 a13 rfl
  | ofNat k =>
    refine Cd.f (ltZ_f (Nat.zero_le _)) ?_
    repeat (refine gO ?_; intros)
    refine AsLen.eq exv ?_
    repeat (refine gO ?_; intros)
    by_cases hk : k < calls.length
    · refine Cd.f (leZ_f hk) ?_
      obtain ⟨cs, ecs⟩ : ∃ x, calls[k]? = some x := ⟨_, List.getElem?_eq_getElem hk⟩
      obtain ⟨th, eth⟩ : ∃ x, g.ths[k]? = some x := ⟨_, List.getElem?_eq_getElem (by have := W.len; omega)⟩
      obtain ⟨ph, hph⟩ : ∃ x, phs[k]? = some x := ⟨_, List.getElem?_eq_getElem (by omega)⟩
      obtain ⟨ek, hnq'⟩ := hpk k ph hph
      have hnq : ph.nq < 1000000000 := by omega
      obtain ⟨q1, q2, q3⟩ := W.th k cs th ecs eth
      have hcs := hl2 cs (List.mem_of_getElem? ecs)
      have hthl := W.len
      have hkn : k < n := by omega
      have hgt : (List.zipWith (ThP m pool) phs g.ths)[k]? = some (ThP m pool ph th) := zip_get' _ hph eth
      have hvo0 : (phs.map Ph13.vo)[k]? = some ph.vo := by rw [List.getElem?_map, hph]; rfl
      have hvn0 : (phs.map Ph13.vn)[k]? = some ph.vn := by rw [List.getElem?_map, hph]; rfl
      have hs1 : Sat (SatL (List.zipWith (ThP m pool) phs g.ths) :: _) H := hs.pull pp
      have hs2 := hs1.pull (pull_all Pull.here hgt)
      obtain ⟨u1, u2, v1, v2, dd, ⟨rows, hrw, hin⟩, hRR⟩ := hs2.opens Pull.here
      have hs3 := Sat.merge v1 v2 dd hin hRR
      simp only [List.cons_append, List.nil_append] at hs3
      rw [ek] at hs3
      clear hs1 hs2
      obtain ⟨pvo, evo⟩ := (hs3.has Has.vec).shape
      rw [hrw.1] at evo
      repeat (refine gO ?_; intros)
      refine Must.mk (ltN_t hkn) (ldRow hs3 (off1 k) hvo0 ?_)
      refine AsLen.eq evo ?_
      repeat (refine gO ?_; intros)
      refine Must.mk (ltN_t hkn) (ldRow hs3 (off1 k) hvn0 ?_)
      cases hnow : th.now with
      | some s =>
        rw [hnow] at hs3
        obtain ⟨s1, s2', s3, s4⟩ := q3 s hnow
        have hs4 : Sat (NowP ph.vn (some s) :: _) H := hs3.pull pp
        obtain ⟨u1, u2, v1, v2, dd, ⟨p, evn, hin⟩, hRR⟩ := hs4.opens Pull.here
        have hs5 := Sat.merge (L1 := [PrAt13 p s]) v1 v2 dd (SatL.one hin) hRR
        simp only [List.cons_append, List.nil_append] at hs5
        rw [evn]
        repeat (refine gO ?_; intros)
        have hpos : 0 < th.told.length := List.length_pos_iff.2 s3
        have hsA : Sat (Vec ph.vo 43 6 rows :: PrAt13 p s :: ViewAt ph.q m (Int.ofNat k) ph.nq :: SatL ((List.zipWith (ThP m pool) phs g.ths).set k Emp) :: MemP m g.M :: Row bo eo 0 true ((phs.map Ph13.vo).set k ph.vo) :: Row bn en 0 true ((phs.map Ph13.vn).set k (ptr p 0)) :: Row ba ea 0 true ((g.ths.map fun t => iN t.at_).set k (iN th.at_)) :: Vec vv 68 1 (phs.map fun p => [ptr p.q 0]) :: Vec va 47 11 rowsA :: SatL (poolL pool) :: Own p1 [u64 sl.cam, u64 sl.first, i64 sl.count, u64 sl.most] :: Own p3 [i64 n0, u64 most, xv, slc bw 0 picks.length cw] :: Thr13 xv calls :: IntsR (slc bw 0 picks.length cw) picks :: R) H := by
          rw [set_self hvo0, set_self (show (phs.map Ph13.vn)[k]? = some (ptr p 0) by rw [hvn0, evn]), set_self (show (g.ths.map fun t => iN t.at_)[k]? = some (iN th.at_) by rw [List.getElem?_map, eth]; rfl)]
          exact hs5.ent ee
        clear hs3 hs4 hs5
        have hp : g.pick sl calls j (Int.ofNat k) = g.go j k s th.told th.at_ g.all := by simp only [R13.pick, ecs, eth, hnow]
        rw [hp] at kk
        simp only [R13.go] at kk
        obtain ⟨vo, evo'⟩ : ∃ vo, vo = ph.vo := ⟨_, rfl⟩
        rw [← evo'] at hsA
        have hvo : ((phs.map Ph13.vo).set k vo)[k]? = some vo := List.getElem?_set_self (by simp; omega)
        have hvn : ((phs.map Ph13.vn).set k (ptr p 0))[k]? = some (ptr p 0) := List.getElem?_set_self (by simp; omega)
        have hat : ((g.ths.map fun t => iN t.at_).set k (iN th.at_))[k]? = some (iN th.at_) := List.getElem?_set_self (by simp; omega)
        refine Must.mk (ltN_t hkn) (ldRow hsA (off1 k) hvn ?_)
        have hvw : (phs.map fun p => [ptr p.q 0])[k]? = some [ptr ph.q 0] := by rw [List.getElem?_map, hph]; rfl
        obtain ⟨bv, evv, _⟩ := (Sat.has hsA (Has.skip (Has.skip (Has.skip (Has.skip (Has.skip (Has.skip (Has.skip (Has.skip Has.vec))))))))).slot hvw
        refine AsSlc.eq (a11.trans evv) ?_
        repeat (refine gO ?_; intros)
        refine Must.mk (ltN_t (by simp; omega)) ?_
        refine ldVec hsA (Has.skip (Has.skip (Has.skip (Has.skip (Has.skip (Has.skip (Has.skip (Has.skip Has.vec)))))))) evv hvw (j := 0) (by show 0 + k * 1 = _; omega) (by omega) rfl ?_
        have hx := p13_step s g.M (Int.ofNat k) s1 s2'
        refine p13step_ok hc s hsA pp pp pp hnq htr W.fine.bd s1 fun n2 H2 hn2 h2 => ?_
        generalize (s.step g.M (Int.ofNat k)).1 = s2 at *
        generalize (s.step g.M (Int.ofNat k)).2 = M2 at *
        obtain ⟨x1, x2, x3⟩ := hx
        repeat (refine gO ?_; intros)
        refine Must.mk (ltN_t hkn) (ldRow h2 (off1 k) hvo ?_)
        repeat (refine gO ?_; intros)
        rw [(subInt (a := th.told.length) (b := 1) (by omega))]
        refine inR_nat (by omega) ?_
        repeat (refine gO ?_; intros)
        refine Must.mk (ltN_t hkn) (ldRow h2 (off1 k) hvn ?_)
        refine p13told_ok hc s2 h2 pp x2 fun w H3 h3 => ?_
        obtain ⟨pw, cw', ew⟩ := (h3.has Has.nums).len
        subst ew
        obtain ⟨r0, hr0, w0, _, er0, _⟩ := (hrw).at (i := th.told.length - 1) (List.getElem?_eq_getElem (by omega))
        obtain ⟨b2, evo, _⟩ := (h3.has (Has.skip (Has.skip (Has.skip (Has.skip Has.vec))))).slot hr0
        have hle14 : (rows).length = th.told.length := hrw.1
        rw [hle14] at evo
        subst evo
        repeat (refine gO ?_; intros)
        refine Must.mk (ltN_t (by omega)) ?_
        repeat (refine gO ?_; intros)
        refine stVecN h3 pp hr0 (j := 0) (by show 0 + (th.told.length - 1) * 6 = _; omega) (by show 0 + 6 ≤ 6; omega) rfl fun H4 h4 => ?_
        rw [show ovw [u64 s2.told.h, u64 s2.told.st, iN s2.told.er, u64 s2.told.fl, Value.slice pw s2.told.need.length cw', Value.bool s2.fin] r0 0 = tRow (s2.told, s2.fin) (.slice pw s2.told.need.length cw') from by rw [er0]; rfl] at h4
        have hrw' := ((hrw).mono (RowT.mono (pool' := (.slice pw s2.told.need.length cw', s2.told.need) :: pool) fun x hx => List.mem_cons_of_mem _ hx)).set (th.told.length - 1) (x := (s2.told, s2.fin)) (r := tRow (s2.told, s2.fin) (.slice pw s2.told.need.length cw')) ⟨_, rfl, rfl, List.mem_cons_self ..⟩
        have hr1 : (rows.set (th.told.length - 1) (tRow (s2.told, s2.fin) (.slice pw s2.told.need.length cw')))[th.told.length - 1]? = some (tRow (s2.told, s2.fin) (.slice pw s2.told.need.length cw')) := List.getElem?_set_self (List.getElem?_eq_some_iff.1 hr0).1
        refine ldRow h2 (off1 k) hvo ?_
        repeat (refine gO ?_; intros)
        refine ldRow h3 (off1 k) hvo ?_
        repeat (refine gO ?_; intros)
        refine Must.mk (ltN_t hkn) (ldRow h4 (off1 k) hat ?_)
        repeat (refine gO ?_; intros)
        refine Must.mk (ltN_t hkn) (ldRow h4 (off1 k) hvo ?_)
        repeat (refine gO ?_; intros)
        refine inR_nat (by omega) ?_
        repeat (refine gO ?_; intros)
        refine Must.mk (ltN_t (by omega)) ?_
        refine ldVec h4 Has.vec rfl hr1 (j := 0) (by show 0 + (th.told.length - 1) * 6 + 0 = _; omega) (by omega) rfl ?_
        refine ldVec h4 Has.vec rfl hr1 (j := 1) (by show 0 + (th.told.length - 1) * 6 + 1 = _; omega) (by omega) rfl ?_
        refine ldVec h4 Has.vec rfl hr1 (j := 2) (by show 0 + (th.told.length - 1) * 6 + 2 = _; omega) (by omega) rfl ?_
        refine ldVec h4 Has.vec rfl hr1 (j := 3) (by show 0 + (th.told.length - 1) * 6 + 3 = _; omega) (by omega) rfl ?_
        refine ldVec h4 Has.vec rfl hr1 (j := 4) (by show 0 + (th.told.length - 1) * 6 + 4 = _; omega) (by omega) rfl ?_
        refine ldVec h4 Has.vec rfl hr1 (j := 5) (by show 0 + (th.told.length - 1) * 6 + 5 = _; omega) (by omega) rfl ?_
        obtain ⟨xs, exs⟩ : ∃ x, (g.all)[th.at_]? = some x := ⟨_, List.getElem?_eq_getElem s4⟩
        obtain ⟨rs, hrs, ws, _, ers, _⟩ := (hra).at exs
        have hva4 : Sat (Vec va 47 11 rowsA :: _) H4 := h4.pull pp
        obtain ⟨bva, eva, _⟩ := (hva4.has Has.vec).slot hrs
        have hln := (hra).1
        rw [hln] at eva
        refine AsSlc.eq eva ?_
        subst eva
        repeat (refine gO ?_; intros)
        refine Must.mk (ltN_t s4) ?_
        repeat (refine gO ?_; intros)
        refine stVecN h4 pp hrs (j := 0) (by show 0 + th.at_ * 11 + 0 = _; omega) (by show 0 + 6 ≤ 11; omega) rfl fun H5 h5 => ?_
        rw [show ovw [u64 s2.told.h, u64 s2.told.st, iN s2.told.er, u64 s2.told.fl, Value.slice pw s2.told.need.length cw', Value.bool s2.fin] rs 0 = sRow { xs with t := (s2.told, s2.fin) } (.slice pw s2.told.need.length cw') from by rw [ers]; rfl] at h5
        have hra' := (hra).mono (RowS.mono (pool' := (.slice pw s2.told.need.length cw', s2.told.need) :: pool) fun x hx => List.mem_cons_of_mem _ hx)
        have hra2 : (rowsA.set th.at_ (sRow { xs with t := (s2.told, s2.fin) } (.slice pw s2.told.need.length cw')))[th.at_]? = some (sRow { xs with t := (s2.told, s2.fin) } (.slice pw s2.told.need.length cw')) := List.getElem?_set_self (List.getElem?_eq_some_iff.1 hrs).1
        have esu : seenUpd g.all th.at_ (s2.told, s2.fin) j = (g.all).set th.at_ (xs.upd (s2.told, s2.fin) j) := by unfold seenUpd; rw [exs]
        rw [esu] at kk
        clear esu x1
        generalize s2.fin = bf at *
        have idx : ∀ (vo' vn' : Value) (i : Nat) (ph' : Ph13), (phs.set k ⟨vo', vn', ph.q, n2, k⟩)[i]? = some ph' → ph'.k = i ∧ ph'.nq ≤ j + 1 := fun vo' vn' i ph' h => by
          rw [List.getElem?_set] at h
          by_cases hi : k = i
          · subst hi
            rw [if_pos rfl, if_pos (by omega)] at h
            cases h
            exact ⟨rfl, by show n2 ≤ _; omega⟩
          · rw [if_neg hi] at h
            exact hkk i ph' h
        repeat (refine gO ?_; intros)
        cases bf with
        | true =>
          simp only [if_true] at kk
          refine Cd.t rfl ?_
          repeat (refine gO ?_; intros)
          refine Must.mk (ltN_t hkn) (ldRow h5 (off1 k) hat ?_)
          repeat (refine gO ?_; intros)
          refine Must.mk (ltN_t s4) ?_
          repeat (refine gO ?_; intros)
          refine stVecN h5 pp hra2 (j := 7) (by show 0 + th.at_ * 11 + 7 = _; omega) (by show 7 + 1 ≤ 11; omega) rfl fun H6 h6 => ?_
          rw [List.set_set, show ovw [iN j] (sRow { xs with t := (s2.told, true) } (.slice pw s2.told.need.length cw')) 7 = sRow (xs.upd (s2.told, true) j) (.slice pw s2.told.need.length cw') from rfl] at h6
          repeat (refine gO ?_; intros)
          refine Must.mk (ltN_t hkn) (st h6 (by rw [off1]; simp; omega) rfl fun H7 h7 => ?_)
          rw [off1, List.set_set] at h7
          repeat (refine gO ?_; intros)
          try rw [addInt]
          refine inR_nat (by omega) ?_
          repeat (refine gO ?_; intros)
          refine kk _ H7 (phs.set k ⟨slc b2 0 th.told.length th.told.length, nilP, ph.q, n2, k⟩) ((.slice pw s2.told.need.length cw', s2.told.need) :: pool) (slc bva 0 (g.all).length (g.all).length) _ a4 a5 a8 a9 a10 a11 (by first | exact a13 | rfl) rfl (by simp [hpl]) (idx _ nilP) (List.mem_cons_of_mem _ hp0) (hra'.set th.at_ ⟨_, rfl, rfl, List.mem_cons_self ..⟩) ?_
          have h8 : Sat (NowP nilP none :: _) H7 := h7.triv fun _ => rfl
          exact run13_put (by omega) (by omega) hph hrw' (h8.ent ee)
        | false =>
          simp only [Bool.false_eq_true, if_false] at kk
          refine Cd.f rfl ?_
          repeat (refine gO ?_; intros)
          try rw [addInt]
          refine inR_nat (by omega) ?_
          repeat (refine gO ?_; intros)
          refine kk _ H5 (phs.set k ⟨slc b2 0 th.told.length th.told.length, ptr p 0, ph.q, n2, k⟩) ((.slice pw s2.told.need.length cw', s2.told.need) :: pool) (slc bva 0 (g.all).length (g.all).length) _ a4 a5 a8 a9 a10 a11 (by first | exact a13 | rfl) rfl (by simp [hpl]) (idx _ (ptr p 0)) (List.mem_cons_of_mem _ hp0) (hra'.set th.at_ ⟨_, rfl, rfl, List.mem_cons_self ..⟩) ?_
          have h7 : Sat (PrAt13 p s2 :: _) H5 := h5.pull pp
          have h8 : Sat (NowP (ptr p 0) (some s2) :: _) H5 := h7.imp fun g a => ⟨p, rfl, a⟩
          exact run13_put (by omega) (by omega) hph hrw' (h8.ent ee)
      | none =>
        rw [hnow] at hs3
        have hs4 : Sat (NowP ph.vn none :: _) H := hs3.pull pp
        obtain ⟨u1, u2, v1, v2, dd, evn, hRR⟩ := hs4.opens Pull.here
        have hs5 := hs4.drop
        have evn : ph.vn = nilP := evn
        rw [evn]
        repeat (refine gO ?_; intros)
        obtain ⟨bx, cx, csx, exv', _, ⟨xvi, ecx, hcl⟩, hldx⟩ := rows_at hs5 (Has.skip (Has.skip (Has.skip (Has.skip (Has.skip (Has.skip (Has.skip (Has.skip (Has.skip (Has.skip (Has.skip (Has.skip has_thr)))))))))))) ecs
        refine AsSlc.eq exv' ?_
        repeat (refine gO ?_; intros)
        refine Must.mk (ltN_t hk) (hldx _ 0 _ _ (by show 0 + k * 1 = _; omega) (by rw [ecx]; rfl) ?_)
        obtain ⟨pi, ci, exi⟩ := RowsR.len hcl
        refine AsLen.eq exi ?_
        by_cases hlt : th.told.length < cs.length
        · refine Cd.f (leZ_f hlt) ?_
          obtain ⟨c, ec⟩ : ∃ x, cs[th.told.length]? = some x := ⟨_, List.getElem?_eq_getElem hlt⟩
          obtain ⟨f1, f2, f3⟩ := wf_fresh hc64 W ecs eth ec sl
          obtain ⟨bi, ci', cc, exi', _, ecc, hldc⟩ := rows_at' hcl ec
          have hp : g.pick sl calls j (Int.ofNat k) = g.go j k (P13.fresh sl c.kind (bh c.kind c.h (th.told.map fun x => x.1.h))) (th.told ++ [(z13T, false)]) g.all.length (g.all ++ [⟨(z13T, false), j, Int.negSucc 0, k, c⟩]) := by simp only [R13.pick, ecs, eth, hnow, ec]
          rw [hp] at kk
          simp only [R13.go] at kk
          rw [show (th.told ++ [(z13T, false)]).length - 1 = th.told.length + 1 - 1 by simp] at kk
          repeat (refine gO ?_; intros)
          refine AsSlc.eq exv' ?_
          repeat (refine gO ?_; intros)
          refine Must.mk (ltN_t hk) (hldx _ 0 _ _ (by show 0 + k * 1 = _; omega) (by rw [ecx]; rfl) ?_)
          refine AsSlc.eq exi' ?_
          refine Must.mk (ltN_t hlt) ?_
          refine hldc _ 0 _ _ (by show 0 + th.told.length * 2 + 0 = _; omega) (by rw [ecc]; rfl) ?_
          refine hldc _ 1 _ _ (by show 0 + th.told.length * 2 + 1 = _; omega) (by rw [ecc]; rfl) ?_
          repeat (refine gO ?_; intros)
          refine Must.mk (ltN_t hkn) (ldRow hs5 (off1 k) hvo0 ?_)
          have hhd : ∀ (i : Nat) row x, rows[i]? = some row → (th.told.map fun x => x.1.h)[i]? = some x → row[0]? = some (u64 x) := fun i row x h1 h2 => by
            rw [List.getElem?_map] at h2
            cases e : th.told[i]? with
            | none => rw [e] at h2; cases h2
            | some y =>
              rw [e] at h2
              cases h2
              obtain ⟨w, _, rfl, _⟩ := hrw.2 i y row e h1
              rfl
          refine begin13_ok hc sl hs5 Has.vec (by have := hrw.1; omega) (by simp [hrw.1]) hhd fun p H76 h76 => ?_
          generalize hsf : P13.fresh sl c.kind (bh c.kind c.h (th.told.map fun x => x.1.h)) = s at *
          repeat (refine gO ?_; intros)
          refine Must.mk (ltN_t hkn) ?_
          repeat (refine gO ?_; intros)
          refine st h76 (by rw [off1]; simp; omega) rfl fun H82 h82 => ?_
          rw [off1] at h82
          repeat (refine gO ?_; intros)
          refine Must.mk (ltN_t hkn) (ldRow h82 (off1 k) hvo0 ?_)
          repeat (refine gO ?_; intros)
          rename_i p89 H90 h90
          refine app_vec (new := [tRow (z13T, false) snil]) h90 pp el_told (by omega) sl_told (Src.cell (n := 6) (by rfl)) rfl (by simp [tRow]) (by have := hrw.1; simp; omega) rfl fun v91 H92 h92 => ?_
          have hrw2 := hrw.snoc (x := (z13T, false)) (r := tRow (z13T, false) snil) ⟨snil, rfl, rfl, hp0⟩
          obtain ⟨pv9, ev9⟩ := (h92.has Has.vec).shape
          subst ev9
          repeat (refine gO ?_; intros)
          refine Must.mk (ltN_t hkn) ?_
          repeat (refine gO ?_; intros)
          refine st h92 (by rw [off1]; simp; omega) rfl fun H98 h98 => ?_
          rw [off1] at h98
          have hva : Sat (Vec va 47 11 rowsA :: _) H98 := h98.pull pp
          obtain ⟨pva, eva0⟩ := (hva.has Has.vec).shape
          rw [hra.1] at eva0
          repeat (refine gO ?_; intros)
          refine AsLen.eq eva0 ?_
          repeat (refine gO ?_; intros)
          refine Must.mk (ltN_t hkn) ?_
          refine st h98 (by rw [off1]; simp; omega) rfl fun H105 h105 => ?_
          rw [off1] at h105
          repeat (refine gO ?_; intros)
          refine AsSlc.eq exv' ?_
          repeat (refine gO ?_; intros)
          have h105t : Sat (Thr13 xv calls :: _) H105 := h105.pull pp
          obtain ⟨bx2, cx2, csx2, exv2, _, ⟨xvi2, ecx2, hcl2⟩, hldx2⟩ := rows_at h105t has_thr ecs
          have ebx : bx2 = bx := by
            rw [exv'] at exv2
            injection exv2 with q1 _ _
            injection q1 with q1
            injection q1 with q1 _ _
            exact q1.symm
          subst ebx
          refine Must.mk (ltN_t hk) (hldx2 _ 0 _ _ (by show 0 + k * 1 = _; omega) (by rw [ecx2]; rfl) ?_)
          obtain ⟨bi2, ci2, cc2, exi2, _, ecc2, hldc2⟩ := rows_at' hcl2 ec
          refine AsSlc.eq exi2 ?_
          refine Must.mk (ltN_t hlt) ?_
          refine hldc2 _ 0 _ _ (by show 0 + th.told.length * 2 + 0 = _; omega) (by rw [ecc2]; rfl) ?_
          refine hldc2 _ 1 _ _ (by show 0 + th.told.length * 2 + 1 = _; omega) (by rw [ecc2]; rfl) ?_
          repeat (refine gO ?_; intros)
          rename_i p121 H122 h122
          refine app_vec (new := [sRow ⟨(z13T, false), j, Int.negSucc 0, k, c⟩ snil]) h122 pp el_seen (by omega) sl_seen (Src.cell (n := 11) (by rfl)) rfl (by simp [sRow]) (by have := hra.1; simp; omega) rfl fun v123 H124 h124 => ?_
          have hra2' := hra.snoc (x := ⟨(z13T, false), j, Int.negSucc 0, k, c⟩) (r := sRow ⟨(z13T, false), j, Int.negSucc 0, k, c⟩ snil) ⟨snil, rfl, rfl, hp0⟩
          repeat (refine gO ?_; intros)
          try rw [addInt]
          refine inR_nat (by omega) ?_
          repeat (refine gO ?_; intros)
          generalize hv91 : Value.slice pv9 _ _ = v91 at *
          have hsA : Sat (Vec v91 43 6 (rows ++ [tRow (z13T, false) snil]) :: PrAt13 p s :: ViewAt ph.q m (Int.ofNat k) ph.nq :: SatL ((List.zipWith (ThP m pool) phs g.ths).set k Emp) :: MemP m g.M :: Row bo eo 0 true ((phs.map Ph13.vo).set k v91) :: Row bn en 0 true ((phs.map Ph13.vn).set k (ptr p 0)) :: Row ba ea 0 true ((g.ths.map fun t => iN t.at_).set k (iN g.all.length)) :: Vec vv 68 1 (phs.map fun p => [ptr p.q 0]) :: Vec v123 47 11 (rowsA ++ [sRow ⟨(z13T, false), j, Int.negSucc 0, k, c⟩ snil]) :: SatL (poolL pool) :: Own p1 [u64 sl.cam, u64 sl.first, i64 sl.count, u64 sl.most] :: Own p3 [i64 n0, u64 most, xv, slc bw 0 picks.length cw] :: Thr13 xv calls :: IntsR (slc bw 0 picks.length cw) picks :: R) H124 := h124.ent ee
          clear hs3 hs4 hs5 h76 h82 h90 h92 h98 hva h105 h105t h122 h124
          obtain ⟨vo, evo'⟩ : ∃ vo, vo = v91 := ⟨_, rfl⟩
          rw [← evo'] at hsA
          have hvo : ((phs.map Ph13.vo).set k vo)[k]? = some vo := List.getElem?_set_self (by simp; omega)
          have hvn : ((phs.map Ph13.vn).set k (ptr p 0))[k]? = some (ptr p 0) := List.getElem?_set_self (by simp; omega)
          have hat : ((g.ths.map fun t => iN t.at_).set k (iN g.all.length))[k]? = some (iN g.all.length) := List.getElem?_set_self (by simp; omega)
          refine Must.mk (ltN_t hkn) (ldRow hsA (off1 k) hvn ?_)
          have hvw : (phs.map fun p => [ptr p.q 0])[k]? = some [ptr ph.q 0] := by rw [List.getElem?_map, hph]; rfl
          obtain ⟨bv, evv, _⟩ := (Sat.has hsA (Has.skip (Has.skip (Has.skip (Has.skip (Has.skip (Has.skip (Has.skip (Has.skip Has.vec))))))))).slot hvw
          refine AsSlc.eq (a11.trans evv) ?_
          repeat (refine gO ?_; intros)
          refine Must.mk (ltN_t (by simp; omega)) ?_
          refine ldVec hsA (Has.skip (Has.skip (Has.skip (Has.skip (Has.skip (Has.skip (Has.skip (Has.skip Has.vec)))))))) evv hvw (j := 0) (by show 0 + k * 1 = _; omega) (by omega) rfl ?_
          have hx := p13_step s g.M (Int.ofNat k) f1 f2
          refine p13step_ok hc s hsA pp pp pp hnq htr W.fine.bd f1 fun n2 H2 hn2 h2 => ?_
          generalize (s.step g.M (Int.ofNat k)).1 = s2 at *
          generalize (s.step g.M (Int.ofNat k)).2 = M2 at *
          obtain ⟨x1, x2, x3⟩ := hx
          repeat (refine gO ?_; intros)
          refine Must.mk (ltN_t hkn) (ldRow h2 (off1 k) hvo ?_)
          repeat (refine gO ?_; intros)
          rw [(subInt (a := th.told.length + 1) (b := 1) (by omega))]
          refine inR_nat (by omega) ?_
          repeat (refine gO ?_; intros)
          refine Must.mk (ltN_t hkn) (ldRow h2 (off1 k) hvn ?_)
          refine p13told_ok hc s2 h2 pp x2 fun w H3 h3 => ?_
          obtain ⟨pw, cw', ew⟩ := (h3.has Has.nums).len
          subst ew
          obtain ⟨r0, hr0, w0, _, er0, _⟩ := (hrw2).at (i := (th.told.length + 1) - 1) (List.getElem?_eq_getElem (by simp))
          obtain ⟨b2, evo, _⟩ := (h3.has (Has.skip (Has.skip (Has.skip (Has.skip Has.vec))))).slot hr0
          have hle14 : ((rows ++ [tRow (z13T, false) snil])).length = (th.told.length + 1) := (by simp [hrw.1])
          rw [hle14] at evo
          subst evo
          repeat (refine gO ?_; intros)
          refine Must.mk (ltN_t (by omega)) ?_
          repeat (refine gO ?_; intros)
          refine stVecN h3 pp hr0 (j := 0) (by show 0 + ((th.told.length + 1) - 1) * 6 = _; omega) (by show 0 + 6 ≤ 6; omega) rfl fun H4 h4 => ?_
          rw [show ovw [u64 s2.told.h, u64 s2.told.st, iN s2.told.er, u64 s2.told.fl, Value.slice pw s2.told.need.length cw', Value.bool s2.fin] r0 0 = tRow (s2.told, s2.fin) (.slice pw s2.told.need.length cw') from by rw [er0]; rfl] at h4
          have hrw' := ((hrw2).mono (RowT.mono (pool' := (.slice pw s2.told.need.length cw', s2.told.need) :: pool) fun x hx => List.mem_cons_of_mem _ hx)).set ((th.told.length + 1) - 1) (x := (s2.told, s2.fin)) (r := tRow (s2.told, s2.fin) (.slice pw s2.told.need.length cw')) ⟨_, rfl, rfl, List.mem_cons_self ..⟩
          have hr1 : ((rows ++ [tRow (z13T, false) snil]).set ((th.told.length + 1) - 1) (tRow (s2.told, s2.fin) (.slice pw s2.told.need.length cw')))[(th.told.length + 1) - 1]? = some (tRow (s2.told, s2.fin) (.slice pw s2.told.need.length cw')) := List.getElem?_set_self (List.getElem?_eq_some_iff.1 hr0).1
          refine ldRow h2 (off1 k) hvo ?_
          repeat (refine gO ?_; intros)
          refine ldRow h3 (off1 k) hvo ?_
          repeat (refine gO ?_; intros)
          refine Must.mk (ltN_t hkn) (ldRow h4 (off1 k) hat ?_)
          repeat (refine gO ?_; intros)
          refine Must.mk (ltN_t hkn) (ldRow h4 (off1 k) hvo ?_)
          repeat (refine gO ?_; intros)
          refine inR_nat (by omega) ?_
          repeat (refine gO ?_; intros)
          refine Must.mk (ltN_t (by omega)) ?_
          refine ldVec h4 Has.vec rfl hr1 (j := 0) (by show 0 + ((th.told.length + 1) - 1) * 6 + 0 = _; omega) (by omega) rfl ?_
          refine ldVec h4 Has.vec rfl hr1 (j := 1) (by show 0 + ((th.told.length + 1) - 1) * 6 + 1 = _; omega) (by omega) rfl ?_
          refine ldVec h4 Has.vec rfl hr1 (j := 2) (by show 0 + ((th.told.length + 1) - 1) * 6 + 2 = _; omega) (by omega) rfl ?_
          refine ldVec h4 Has.vec rfl hr1 (j := 3) (by show 0 + ((th.told.length + 1) - 1) * 6 + 3 = _; omega) (by omega) rfl ?_
          refine ldVec h4 Has.vec rfl hr1 (j := 4) (by show 0 + ((th.told.length + 1) - 1) * 6 + 4 = _; omega) (by omega) rfl ?_
          refine ldVec h4 Has.vec rfl hr1 (j := 5) (by show 0 + ((th.told.length + 1) - 1) * 6 + 5 = _; omega) (by omega) rfl ?_
          obtain ⟨xs, exs⟩ : ∃ x, ((g.all ++ [(⟨(z13T, false), j, Int.negSucc 0, k, c⟩ : Seen13)]))[g.all.length]? = some x := ⟨_, List.getElem?_eq_getElem (by simp)⟩
          obtain ⟨rs, hrs, ws, _, ers, _⟩ := (hra2').at exs
          have hva4 : Sat (Vec v123 47 11 (rowsA ++ [sRow ⟨(z13T, false), j, Int.negSucc 0, k, c⟩ snil]) :: _) H4 := h4.pull pp
          obtain ⟨bva, eva, _⟩ := (hva4.has Has.vec).slot hrs
          have hln := (hra2').1
          rw [hln] at eva
          refine AsSlc.eq eva ?_
          subst eva
          repeat (refine gO ?_; intros)
          refine Must.mk (ltN_t (by simp)) ?_
          repeat (refine gO ?_; intros)
          refine stVecN h4 pp hrs (j := 0) (by show 0 + g.all.length * 11 + 0 = _; omega) (by show 0 + 6 ≤ 11; omega) rfl fun H5 h5 => ?_
          rw [show ovw [u64 s2.told.h, u64 s2.told.st, iN s2.told.er, u64 s2.told.fl, Value.slice pw s2.told.need.length cw', Value.bool s2.fin] rs 0 = sRow { xs with t := (s2.told, s2.fin) } (.slice pw s2.told.need.length cw') from by rw [ers]; rfl] at h5
          have hra' := (hra2').mono (RowS.mono (pool' := (.slice pw s2.told.need.length cw', s2.told.need) :: pool) fun x hx => List.mem_cons_of_mem _ hx)
          have hra2 : ((rowsA ++ [sRow ⟨(z13T, false), j, Int.negSucc 0, k, c⟩ snil]).set g.all.length (sRow { xs with t := (s2.told, s2.fin) } (.slice pw s2.told.need.length cw')))[g.all.length]? = some (sRow { xs with t := (s2.told, s2.fin) } (.slice pw s2.told.need.length cw')) := List.getElem?_set_self (List.getElem?_eq_some_iff.1 hrs).1
          have esu : seenUpd (g.all ++ [(⟨(z13T, false), j, Int.negSucc 0, k, c⟩ : Seen13)]) g.all.length (s2.told, s2.fin) j = ((g.all ++ [(⟨(z13T, false), j, Int.negSucc 0, k, c⟩ : Seen13)])).set g.all.length (xs.upd (s2.told, s2.fin) j) := by unfold seenUpd; rw [exs]
          rw [esu] at kk
          clear esu x1
          generalize s2.fin = bf at *
          have idx : ∀ (vo' vn' : Value) (i : Nat) (ph' : Ph13), (phs.set k ⟨vo', vn', ph.q, n2, k⟩)[i]? = some ph' → ph'.k = i ∧ ph'.nq ≤ j + 1 := fun vo' vn' i ph' h => by
            rw [List.getElem?_set] at h
            by_cases hi : k = i
            · subst hi
              rw [if_pos rfl, if_pos (by omega)] at h
              cases h
              exact ⟨rfl, by show n2 ≤ _; omega⟩
            · rw [if_neg hi] at h
              exact hkk i ph' h
          repeat (refine gO ?_; intros)
          cases bf with
          | true =>
            simp only [if_true] at kk
            refine Cd.t rfl ?_
            repeat (refine gO ?_; intros)
            refine Must.mk (ltN_t hkn) (ldRow h5 (off1 k) hat ?_)
            repeat (refine gO ?_; intros)
            refine Must.mk (ltN_t (by simp)) ?_
            repeat (refine gO ?_; intros)
            refine stVecN h5 pp hra2 (j := 7) (by show 0 + g.all.length * 11 + 7 = _; omega) (by show 7 + 1 ≤ 11; omega) rfl fun H6 h6 => ?_
            rw [List.set_set, show ovw [iN j] (sRow { xs with t := (s2.told, true) } (.slice pw s2.told.need.length cw')) 7 = sRow (xs.upd (s2.told, true) j) (.slice pw s2.told.need.length cw') from rfl] at h6
            repeat (refine gO ?_; intros)
            refine Must.mk (ltN_t hkn) (st h6 (by rw [off1]; simp; omega) rfl fun H7 h7 => ?_)
            rw [off1, List.set_set] at h7
            repeat (refine gO ?_; intros)
            try rw [addInt]
            refine inR_nat (by omega) ?_
            repeat (refine gO ?_; intros)
            refine kk _ H7 (phs.set k ⟨slc b2 0 (th.told.length + 1) (th.told.length + 1), nilP, ph.q, n2, k⟩) ((.slice pw s2.told.need.length cw', s2.told.need) :: pool) (slc bva 0 ((g.all ++ [(⟨(z13T, false), j, Int.negSucc 0, k, c⟩ : Seen13)])).length ((g.all ++ [(⟨(z13T, false), j, Int.negSucc 0, k, c⟩ : Seen13)])).length) _ a4 a5 a8 a9 a10 a11 (by first | exact a13 | rfl) rfl (by simp [hpl]) (idx _ nilP) (List.mem_cons_of_mem _ hp0) (hra'.set g.all.length ⟨_, rfl, rfl, List.mem_cons_self ..⟩) ?_
            have h8 : Sat (NowP nilP none :: _) H7 := h7.triv fun _ => rfl
            exact run13_put (by omega) (by omega) hph hrw' (h8.ent ee)
          | false =>
            simp only [Bool.false_eq_true, if_false] at kk
            refine Cd.f rfl ?_
            repeat (refine gO ?_; intros)
            try rw [addInt]
            refine inR_nat (by omega) ?_
            repeat (refine gO ?_; intros)
            refine kk _ H5 (phs.set k ⟨slc b2 0 (th.told.length + 1) (th.told.length + 1), ptr p 0, ph.q, n2, k⟩) ((.slice pw s2.told.need.length cw', s2.told.need) :: pool) (slc bva 0 ((g.all ++ [(⟨(z13T, false), j, Int.negSucc 0, k, c⟩ : Seen13)])).length ((g.all ++ [(⟨(z13T, false), j, Int.negSucc 0, k, c⟩ : Seen13)])).length) _ a4 a5 a8 a9 a10 a11 (by first | exact a13 | rfl) rfl (by simp [hpl]) (idx _ (ptr p 0)) (List.mem_cons_of_mem _ hp0) (hra'.set g.all.length ⟨_, rfl, rfl, List.mem_cons_self ..⟩) ?_
            have h7 : Sat (PrAt13 p s2 :: _) H5 := h5.pull pp
            have h8 : Sat (NowP (ptr p 0) (some s2) :: _) H5 := h7.imp fun g a => ⟨p, rfl, a⟩
            exact run13_put (by omega) (by omega) hph hrw' (h8.ent ee)
        · refine Cd.t (leZ_t (by omega)) ?_
          repeat (refine gO ?_; intros)
          try rw [addInt]
          refine inR_nat (by omega) ?_
          repeat (refine gO ?_; intros)
          refine idle _ ?_ a4 a5 a8 a9 a10 a11 a13 rfl
          simp only [R13.pick, ecs, eth, hnow, List.getElem?_eq_none (show cs.length ≤ th.told.length by omega)]
    · refine Cd.t (leZ_t (by omega)) ?_
      repeat (refine gO ?_; intros)
      try rw [addInt]
      refine inR_nat (by omega) ?_
      repeat (refine gO ?_; intros)
      refine idle _ ?_ a4 a5 a8 a9 a10 a11 a13 rfl
      simp only [R13.pick, List.getElem?_eq_none (show calls.length ≤ k by omega)]
end Go.Proofs.YtmjiaahpjjnloaaGreat

set_option linter.unusedVariables false
set_option linter.unusedSimpArgs false
namespace Go.Proofs.YtmjiaahpjjnloaaGreat
open Go Go.CM
attribute [local irreducible] AsBool AsWant AsNat AsInt AsCnt AsPtr AsSlc AsLen AsStr AsAgg AsTup AsFn AsIfc Nth Sc NotNil IsNil Must Cd codeW funW Sat SatL wrapN subM mkRow ltZ leZ ltN leN
variable {con : CallT}
noncomputable def elemT (t : Nat) : Nat := match Tryz.prog.underlying t with | some (.slice e) => e | _ => 0
theorem el_out : elemOk Tryz.prog 34 (elemT 34) 1 24 = true := by kernel_rfl
theorem el_now : elemOk Tryz.prog 202 (elemT 202) 1 8 = true := by kernel_rfl
theorem el_at : elemOk Tryz.prog 24 (elemT 24) 1 8 = true := by kernel_rfl
theorem el_view : elemOk Tryz.prog 203 68 1 8 = true := by kernel_rfl
theorem sl_view : ∃ e, Tryz.prog.underlying 203 = some (.slice e) := ⟨68, by kernel_rfl⟩
theorem zero_out : (zeroOf Tryz.prog (elemT 34)).map cellsF = some [snil] := by kernel_rfl
theorem zero_now : (zeroOf Tryz.prog (elemT 202)).map cellsF = some [nilP] := by kernel_rfl
theorem zero_at : (zeroOf Tryz.prog (elemT 24)).map cellsF = some [iN 0] := by kernel_rfl
theorem rep1 (n : Nat) (v : Value) : (List.replicate n [v]).flatten = List.replicate n v := by
  induction n with
  | zero => rfl
  | succ n ih => rw [List.replicate_succ, List.replicate_succ, List.flatten_cons, ih]; rfl
def th0 : Th13 := ⟨[], none, 0⟩
def g13 (M : Mem) (calls : List (List C13)) : R13 := ⟨M, List.replicate calls.length th0, []⟩
theorem wf0 {M : Mem} (h : Fine M) (calls : List (List C13)) : WF13 calls (g13 M calls) := by
  refine ⟨by simp [g13], fun k cs th h1 h2 => ?_, h⟩
  simp only [g13, List.getElem?_replicate] at h2
  split at h2
  · cases h2
    exact ⟨Nat.zero_le _, (fun x (hx : x ∈ ([] : List (T13 × Bool))) => nomatch hx), fun s (hs : (none : Option P13) = some s) => nomatch hs⟩
  · cases h2
abbrev pool0 : Pool := [(snil, [])]
set_option maxRecDepth 100000 in
theorem run13_ok (hc : Con con lives) (sl : SlotsS) {calls : List (List C13)} (hc64 : Calls64 calls) {M : Mem} (hf : Fine M) {R : List HP} {H : CH} {m : Nat} {xv xw : Value} {n0 : Int} {most : Nat} {picks : List Int} {K : KP}
    (hl1 : calls.length ≤ 1048576) (hl2 : ∀ cs ∈ calls, cs.length ≤ 1048576) (hpc : picks.length ≤ 1048576) (htr : M.tr.length ≤ 10)
    (hs : Sat (MemP m M :: Thr13 xv calls :: IntsR xw picks :: R) H)
    (k : ∀ bo eo va phs pool rowsA g H1, g = r13At sl calls picks (g13 M calls) picks.length → phs.length = calls.length → Rows2 (RowS pool) g.all rowsA →
      Sat (MemP m g.M :: Row bo eo 0 true (phs.map Ph13.vo) :: SatL (List.zipWith (ThP m pool) phs g.ths) :: Vec va 47 11 rowsA :: SatL (poolL pool) :: Thr13 xv calls :: IntsR xw picks :: R) H1 → K (.tuple ⟨[slc bo 0 calls.length calls.length, va]⟩) H1) :
    Call1 Tryz.prog con 17 [ptr m 0, .agg ⟨[u64 sl.cam, u64 sl.first, i64 sl.count, u64 sl.most]⟩, .agg ⟨[i64 n0, u64 most, xv, xw]⟩] H K := by
  refine call_of (hc _ _ _ rfl) ?_
  rw [l13run_W]
  obtain ⟨pxv, cxv, exv⟩ := (hs.has (Has.skip has_thr)).len
  refine na fun p1 H1 h1 => ?_
  obtain ⟨pxw, cxw, exw⟩ := (hs.has (Has.skip (Has.skip has_ints))).len
  have hcx : isCell xv = true := by rw [exv]; rfl
  have hcw : isCell xw = true := by rw [exw]; rfl
  refine na fun p3 H2 h2 => ?_
  repeat (refine gO ?_; intros)
  refine AsLen.eq exv ?_
  refine mkS h2 el_out zero_out (Nat.le_refl _) (by omega) (by omega) fun bo H3 h3 => ?_
  repeat (refine gO ?_; intros)
  refine AsLen.eq exv ?_
  refine mkS h3 el_now zero_now (Nat.le_refl _) (by omega) (by omega) fun bn H4 h4 => ?_
  repeat (refine gO ?_; intros)
  refine AsLen.eq exv ?_
  refine mkS h4 el_at zero_at (Nat.le_refl _) (by omega) (by omega) fun ba H5 h5 => ?_
  rw [rep1, rep1, rep1] at h5
  refine LoopC.indP (n := 300) (id := 0) (fun σ H => σ 4 = ptr p1 0 ∧ σ 5 = ptr p3 0 ∧ σ 8 = slc bo 0 calls.length calls.length ∧ σ 9 = slc bn 0 calls.length calls.length ∧ σ 10 = slc ba 0 calls.length calls.length ∧ ∃ vv phs, σ 11 = vv ∧ phs.length = calls.length ∧ (∀ (i : Nat) (ph : Ph13), phs[i]? = some ph → ph.k = i ∧ ph.nq = 0 ∧ ph.vo = snil ∧ ph.vn = nilP) ∧
      Sat (Vec vv 68 1 (phs.map fun p => [ptr p.q 0]) :: SatL (List.zipWith (ThP m pool0) phs (List.replicate calls.length th0)) :: Row ba (elemT 24) 0 true (List.replicate calls.length (iN 0)) :: Row bn (elemT 202) 0 true (List.replicate calls.length nilP) :: Row bo (elemT 34) 0 true (List.replicate calls.length snil) :: Own p3 [i64 n0, u64 most, xv, xw] :: Own p1 [u64 sl.cam, u64 sl.first, i64 sl.count, u64 sl.most] :: MemP m M :: Thr13 xv calls :: IntsR xw picks :: R) H) (by kernel_rfl)
    (fun (i : Nat) σ H => i ≤ calls.length ∧ σ 0 = ptr m 0 ∧ σ 4 = ptr p1 0 ∧ σ 5 = ptr p3 0 ∧ σ 8 = slc bo 0 calls.length calls.length ∧ σ 9 = slc bn 0 calls.length calls.length ∧ σ 10 = slc ba 0 calls.length calls.length ∧ σ 12 = iN i ∧ ∃ vv phs, σ 11 = vv ∧ phs.length = i ∧ (∀ (i : Nat) (ph : Ph13), phs[i]? = some ph → ph.k = i ∧ ph.nq = 0 ∧ ph.vo = snil ∧ ph.vn = nilP) ∧
      Sat (Vec vv 68 1 (phs.map fun p => [ptr p.q 0]) :: SatL (List.zipWith (ThP m pool0) phs (List.replicate i th0)) :: Row ba (elemT 24) 0 true (List.replicate calls.length (iN 0)) :: Row bn (elemT 202) 0 true (List.replicate calls.length nilP) :: Row bo (elemT 34) 0 true (List.replicate calls.length snil) :: Own p3 [i64 n0, u64 most, xv, xw] :: Own p1 [u64 sl.cam, u64 sl.first, i64 sl.count, u64 sl.most] :: MemP m M :: Thr13 xv calls :: IntsR xw picks :: R) H)
    (fun i => calls.length - i) (fun i σ H hI => ?_) (fun σ H hP => ?_) 0 _ _ ⟨Nat.zero_le _, rfl, rfl, rfl, rfl, rfl, rfl, rfl, snil, [], rfl, rfl, (fun i ph h => by simp at h), (Sat.none h5).nilV.ent ee⟩
  · obtain ⟨hi, e0, e4, e5, e8, e9, e10, e12, vv, phs, e11, hpl, hpk, hs1⟩ := hI
    rw [l13runA_W]
    rw [e0, e5, e11, e12]
    repeat (refine gO ?_; intros)
    refine AsLen.eq exv ?_
    repeat (refine gO ?_; intros)
    by_cases hlt : i < calls.length
    · refine Cd.t (ltZ_t hlt) ?_
      refine memView_ok hc hs1 fun q H6 h6 => ?_
      repeat (refine gO ?_; intros)
      rename_i p8 H9 h9
      refine app_vec (new := [[ptr q 0]]) h9 pp el_view (by omega) sl_view (Src.cell (n := 1) (by rfl)) rfl (by simp) (by simp; omega) rfl fun vv2 H11 h11 => ?_
      repeat (refine gO ?_; intros)
      try rw [addInt]
      refine inR_nat (by omega) ?_
      repeat (refine gO ?_; intros)
      show ∃ y, _ ∧ _
      refine ⟨i + 1, by omega, hlt, e0, e4, e5, e8, e9, e10, rfl, vv2, phs ++ [⟨snil, nilP, q, 0, i⟩], rfl, by simp [hpl], fun i' ph h => ?_, ?_⟩
      · by_cases hl : i' < phs.length
        · rw [List.getElem?_append_left hl] at h
          exact hpk i' ph h
        · rw [List.getElem?_append_right (by omega)] at h
          cases e : i' - phs.length with
          | zero => rw [e] at h; cases h; exact ⟨by show i = i'; omega, rfl, rfl, rfl⟩
          | succ n => rw [e] at h; simp at h
      · have h12 : Sat (NowP nilP none :: Vec snil 43 6 [] :: _) H11 := (h11.nilV (e := 43) (s := 6)).triv fun _ => rfl
        have h13 : Sat ([Vec snil 43 6 [], NowP nilP none, ViewAt q m (Int.ofNat i) 0] ++ (SatL (List.zipWith (ThP m pool0) phs (List.replicate i th0)) :: Vec vv2 68 1 ((phs.map fun p => [ptr p.q 0]) ++ [[ptr q 0]]) :: Row ba (elemT 24) 0 true (List.replicate calls.length (iN 0)) :: Row bn (elemT 202) 0 true (List.replicate calls.length nilP) :: Row bo (elemT 34) 0 true (List.replicate calls.length snil) :: Own p3 [i64 n0, u64 most, xv, xw] :: Own p1 [u64 sl.cam, u64 sl.first, i64 sl.count, u64 sl.most] :: MemP m M :: Thr13 xv calls :: IntsR xw picks :: R)) H11 := h12.ent ee
        have h14 := (h13.close (A := ThP m pool0 ⟨snil, nilP, q, 0, i⟩ th0) fun g a => ⟨[], Rows2.nil, a⟩).snoc
        have e1 : List.zipWith (ThP m pool0) phs (List.replicate i th0) ++ [ThP m pool0 ⟨snil, nilP, q, 0, i⟩ th0] = List.zipWith (ThP m pool0) (phs ++ [⟨snil, nilP, q, 0, i⟩]) (List.replicate (i + 1) th0) := by
          rw [List.replicate_succ', List.zipWith_append (by simp [hpl])]; rfl
        have e2 : (phs.map fun p => [ptr p.q 0]) ++ [[ptr q 0]] = (phs ++ [(⟨snil, nilP, q, 0, i⟩ : Ph13)]).map fun p => [ptr p.q 0] := by simp
        rw [e1, e2] at h14
        exact h14.ent ee
    · refine Cd.f (ltZ_f (by omega)) ?_
      show _ = _ ∧ _
      obtain rfl : i = calls.length := by omega
      exact ⟨rfl, e4, e5, e8, e9, e10, vv, phs, e11, hpl, hpk, hs1⟩
  · obtain ⟨e4, e5, e8, e9, e10, vv, phs, e11, hpl, hpk, hs1⟩ := hP
    show Cd _ _ _
    refine Cd.t (eqN_self 0) ?_
    have hA : ∀ (v : Value) (f : Ph13 → Value), (∀ (i : Nat) ph, phs[i]? = some ph → f ph = v) → List.replicate calls.length v = phs.map f := fun v f hh => by
      apply List.ext_getElem?
      intro i
      rw [List.getElem?_replicate, List.getElem?_map]
      by_cases hi : i < calls.length
      · obtain ⟨ph, hph⟩ : ∃ ph, phs[i]? = some ph := ⟨_, List.getElem?_eq_getElem (by omega)⟩
        rw [if_pos hi, hph, Option.map_some, hh i ph hph]
      · rw [if_neg hi, List.getElem?_eq_none (by omega)]; rfl
    have hB : List.replicate calls.length (iN 0) = (List.replicate calls.length th0).map fun t => iN t.at_ := by rw [List.map_replicate]; rfl
    rw [hA snil Ph13.vo fun i ph h => (hpk i ph h).2.2.1, hA nilP Ph13.vn fun i ph h => (hpk i ph h).2.2.2, hB] at hs1
    have h6 := (hs1.nil).imp (B := SatL (poolL pool0)) fun g a => SatL.one a
    refine LoopC.indP (n := 300) (id := 2) (fun σ H => ∃ va phs pool rowsA, σ 8 = slc bo 0 calls.length calls.length ∧ σ 13 = va ∧ phs.length = calls.length ∧ Rows2 (RowS pool) (r13At sl calls picks (g13 M calls) picks.length).all rowsA ∧
        Sat (MemP m (r13At sl calls picks (g13 M calls) picks.length).M :: Row bo (elemT 34) 0 true (phs.map Ph13.vo) :: SatL (List.zipWith (ThP m pool) phs (r13At sl calls picks (g13 M calls) picks.length).ths) :: Vec va 47 11 rowsA :: SatL (poolL pool) :: Thr13 xv calls :: IntsR xw picks :: R) H) (by kernel_rfl)
      (fun (j : Nat) σ H => j ≤ picks.length ∧ σ 4 = ptr p1 0 ∧ σ 5 = ptr p3 0 ∧ σ 8 = slc bo 0 calls.length calls.length ∧ σ 9 = slc bn 0 calls.length calls.length ∧ σ 10 = slc ba 0 calls.length calls.length ∧ σ 11 = vv ∧ σ 14 = iN j ∧ ∃ va phs pool rowsA, σ 13 = va ∧ phs.length = calls.length ∧ (∀ (i : Nat) ph, phs[i]? = some ph → ph.k = i ∧ ph.nq ≤ j) ∧ (snil, []) ∈ pool ∧ Rows2 (RowS pool) (r13At sl calls picks (g13 M calls) j).all rowsA ∧
        Sat (MemP m (r13At sl calls picks (g13 M calls) j).M :: Row bo (elemT 34) 0 true (phs.map Ph13.vo) :: Row bn (elemT 202) 0 true (phs.map Ph13.vn) :: Row ba (elemT 24) 0 true ((r13At sl calls picks (g13 M calls) j).ths.map fun t => iN t.at_) :: Vec vv 68 1 (phs.map fun p => [ptr p.q 0]) :: SatL (List.zipWith (ThP m pool) phs (r13At sl calls picks (g13 M calls) j).ths) :: Vec va 47 11 rowsA :: SatL (poolL pool) :: Own p1 [u64 sl.cam, u64 sl.first, i64 sl.count, u64 sl.most] :: Own p3 [i64 n0, u64 most, xv, xw] :: Thr13 xv calls :: IntsR xw picks :: R) H)
      (fun j => picks.length - j) (fun j σ H hI => ?_) (fun σ H hP => ?_) 0 _ _ ⟨Nat.zero_le _, e4, e5, e8, e9, e10, e11, rfl, snil, phs, pool0, [], rfl, hpl, (fun i ph h => ⟨(hpk i ph h).1, by have := (hpk i ph h).2.1; omega⟩), List.mem_cons_self .., Rows2.nil, (h6.nilV (e := 47) (s := 11)).ent ee⟩
    · obtain ⟨hj, a4, a5, a8, a9, a10, a11, a14, va, phs, pool, rowsA, a13, hpl, hpk, hp0, hra, hs2⟩ := hI
      by_cases hlt : j < picks.length
      · obtain ⟨t, et⟩ : ∃ t, picks[j]? = some t := ⟨_, List.getElem?_eq_getElem hlt⟩
        have hz := r13At_sz (sl := sl) (calls := calls) (picks := picks) (g := g13 M calls) j
        have hz1 : (g13 M calls).all.length = 0 := rfl
        have hz2 : (g13 M calls).M.tr.length ≤ 10 := htr
        have hsu := r13At_succ (sl := sl) (calls := calls) (g := g13 M calls) et
        refine run13_pick (n := calls.length) hc hc64 (r13At_wf hc64 (wf0 hf calls) j) rfl hl1 hl2 hpl hpk hlt hpc et (by omega) (by omega) hp0 hra hs2 a4 a5 a8 a9 a10 a11 a13 a14 fun σ1 H1 phs' pool' va' rowsA' b4 b5 b8 b9 b10 b11 b13 b14 hpl' hpk' hp0' hra' h1 => ?_
        rw [← hsu] at hra' h1
        show ∃ y, _ ∧ _
        exact ⟨j + 1, by omega, hlt, b4, b5, b8, b9, b10, b11, b14, va', phs', pool', rowsA', b13, hpl', hpk', hp0', hra', h1⟩
      · obtain rfl : j = picks.length := by omega
        rw [l13runB_W]
        rw [a5, a14]
        repeat (refine gO ?_; intros)
        refine AsLen.eq exw ?_
        repeat (refine gO ?_; intros)
        refine Cd.f (ltZ_f (Nat.le_refl _)) ?_
        show _ = _ ∧ _
        exact ⟨rfl, va, phs, pool, rowsA, a8, a13, hpl, hra, hs2.ent ee⟩
    · obtain ⟨va, phs, pool, rowsA, a8, a13, hpl, hra, hs2⟩ := hP
      show Cd _ _ _
      refine Cd.t (eqN_self 2) ?_
      rw [a8, a13]
      exact k _ _ va phs pool rowsA _ H rfl hpl hra hs2
end Go.Proofs.YtmjiaahpjjnloaaGreat

set_option linter.unusedVariables false
set_option linter.unusedSimpArgs false
namespace Go.Proofs.YtmjiaahpjjnloaaGreat
open Go Go.CM
theorem leZ_on (k z : Nat) : leZ (Int.ofNat k) (Int.negSucc z) = false := decide_eq_false fun h => by
  have h1 := Int.negSucc_lt_zero z
  have h2 : (0 : Int) ≤ Int.ofNat k := Int.natCast_nonneg k
  have h3 : Int.ofNat k ≤ Int.negSucc z := h
  omega
attribute [local irreducible] AsBool AsWant AsNat AsInt AsCnt AsPtr AsSlc AsLen AsStr AsAgg AsTup AsFn AsIfc Nth Sc NotNil IsNil Must Cd codeW funW Sat SatL wrapN subM mkRow ltZ leZ ltN leN
variable {con : CallT}
/-- The memory with a camera, and the slots. -/
def mem13 : Mem := (mem0 4096).alloc (Int.negSucc 0) [1]
def slots13 (n : Int) (most : Nat) : SlotsS × Nat × Mem := mkSlots 1 n most mem13 (Int.negSucc 0)
theorem fine_alloc {M : Mem} (h : Fine M) (th : Int) {vals : List Nat} (hv : ∀ x ∈ vals, x < 18446744073709551616) (hl : vals.length ≤ 1000000000) : Fine (M.alloc th vals) := by
  have hb : ∀ (v cs : List Nat) (o : Nat), (∀ x ∈ v, x < 18446744073709551616) → (∀ x ∈ cs, x < 18446744073709551616) → ∀ x ∈ ovN v cs o, x < 18446744073709551616 := fun v => by
    induction v with
    | nil => exact fun cs o _ h => h
    | cons y r ih =>
      intro cs o h1 h2
      refine ih (cs.set o y) (o + 1) (fun x hx => h1 x (List.mem_cons_of_mem _ hx)) fun x hx => ?_
      rcases List.mem_or_eq_of_mem_set hx with h | rfl
      · exact h2 x h
      · exact h1 x (List.mem_cons_self ..)
  unfold Mem.alloc
  split
  · exact ⟨fun x hx => hb vals M.cells M.free hv h.bd x hx, fine_note (M := { M with cells := _, free := _ }) h.vals hl⟩
  · exact ⟨h.bd, fine_note h.vals hl⟩
theorem alloc_len (M : Mem) (th : Int) (vals : List Nat) : (M.alloc th vals).tr.length = M.tr.length + 1 := by
  simp only [Mem.alloc, Mem.note]
  split <;> simp
theorem fine13 : Fine mem13 := fine_alloc (fine0 4096) _ (by simp) (by simp)
theorem mem13_tr : mem13.tr.length = 1 := alloc_len (mem0 4096) (Int.negSucc 0) [1]
theorem mkSlots_fine {cam : Nat} {n : Int} {most : Nat} {M : Mem} (h : Fine M) (th : Int) : Fine (mkSlots cam n most M th).2.2 ∧ (mkSlots cam n most M th).2.2.tr.length ≤ M.tr.length + 1 := by
  unfold mkSlots
  split
  · exact ⟨h, Nat.le_succ _⟩
  · rename_i c
    have hz : ∀ x ∈ List.replicate c 0, x < 18446744073709551616 := fun x hx => by rw [List.eq_of_mem_replicate hx]; omega
    by_cases h1 : c < 1
    · simp only [if_pos h1]; exact ⟨h, Nat.le_succ _⟩
    simp only [if_neg h1]
    by_cases h2 : 256 < c
    · simp only [if_pos h2]; exact ⟨h, Nat.le_succ _⟩
    simp only [if_neg h2]
    by_cases h3 : most < 1
    · simp only [if_pos h3]; exact ⟨h, Nat.le_succ _⟩
    simp only [if_neg h3]
    by_cases h4 : 1099511627776 < most
    · simp only [if_pos h4]; exact ⟨h, Nat.le_succ _⟩
    simp only [if_neg h4]
    have := fine_alloc h th hz (by simp; omega)
    have h5 := alloc_len M th (List.replicate c 0)
    split
    · exact ⟨this, by show (M.alloc th (List.replicate c 0)).tr.length ≤ _; omega⟩
    · exact ⟨this, by show (M.alloc th (List.replicate c 0)).tr.length ≤ _; omega⟩
theorem slots13_fine (n : Int) (most : Nat) : Fine (slots13 n most).2.2 ∧ (slots13 n most).2.2.tr.length ≤ 10 := by
  have h := mkSlots_fine (cam := 1) (n := n) (most := most) fine13 (Int.negSucc 0)
  have h2 := mem13_tr
  exact ⟨h.1, by have := h.2; show (mkSlots 1 n most mem13 (Int.negSucc 0)).2.2.tr.length ≤ 10; omega⟩
theorem room1 {n : Nat} (h : 2 ≤ n) : (mem0 n).room [1] = 1 := by
  unfold Mem.room mem0
  rw [if_pos]
  simp
  omega
theorem room13 : (mem0 4096).room [1] = 1 := room1 (by omega)
theorem alloc1 {n : Nat} (h : 2 ≤ n) (th : Int) : ((mem0 n).alloc th [1]).cells.length = n ∧ ((mem0 n).alloc th [1]).free = 2 := by
  rw [alloc_t (M := mem0 n) (vals := [1]) (by simp) (by simp [mem0]; omega)]
  refine ⟨?_, rfl⟩
  show (ovN [1] (List.replicate n 0) 1).length = n
  rw [ovN_len]; simp
/-- May there be such slots? -/
def right13 (n : Int) (most : Nat) : Bool := match n with | .negSucc _ => false | .ofNat c => decide (1 ≤ c) && (decide (c ≤ 256) && (decide (1 ≤ most) && decide (most ≤ 1099511627776)))
theorem mem13_len : mem13.cells.length = 4096 := (alloc1 (n := 4096) (by omega) _).1
theorem mem13_free : mem13.free = 2 := (alloc1 (n := 4096) (by omega) _).2
theorem room_n {c : Nat} (h1 : 1 ≤ c) (h2 : c ≤ 256) : mem13.room (List.replicate c 0) = 2 := by
  unfold Mem.room
  rw [mem13_len, mem13_free, List.length_replicate, if_pos (by omega)]
theorem slots13_no {n : Int} {most : Nat} (h : right13 n most = false) : slots13 n most = (sl0, 2, mem13) := by
  unfold slots13 mkSlots
  cases n with
  | negSucc z => rfl
  | ofNat c =>
    unfold right13 at h
    simp only at h ⊢
    by_cases h1 : c < 1
    · rw [if_pos h1]
    rw [if_neg h1]
    by_cases h2 : 256 < c
    · rw [if_pos h2]
    rw [if_neg h2]
    by_cases h3 : most < 1
    · rw [if_pos h3]
    rw [if_neg h3]
    by_cases h4 : 1099511627776 < most
    · rw [if_pos h4]
    · rw [decide_eq_true (show 1 ≤ c by omega), decide_eq_true (show c ≤ 256 by omega), decide_eq_true (show 1 ≤ most by omega), decide_eq_true (show most ≤ 1099511627776 by omega)] at h
      cases h
theorem slots13_yes {n : Int} {most : Nat} (h : right13 n most = true) : ∃ c, n = Int.ofNat c ∧ 1 ≤ c ∧ c ≤ 256 ∧ 1 ≤ most ∧ most ≤ 1099511627776 ∧ slots13 n most = (⟨1, 2, Int.ofNat c, most⟩, 0, mem13.alloc (Int.negSucc 0) (List.replicate c 0)) := by
  cases n with
  | negSucc z => cases h
  | ofNat c =>
    unfold right13 at h
    simp only [Bool.and_eq_true, decide_eq_true_eq] at h
    obtain ⟨h1, h2, h3, h4⟩ := h
    refine ⟨c, rfl, h1, h2, h3, h4, ?_⟩
    unfold slots13 mkSlots
    simp only
    rw [if_neg (by omega), if_neg (by omega), if_neg (by omega), if_neg (by omega), room_n h1 h2, if_neg (by omega)]
theorem l13memory_ok (hc : Con con lives) {n : Int} {most : Nat} {v w : Value} {L : List HP} {H : CH} {K : KP} (hs : Sat L H)
    (k : ∀ m H1, Sat (MemP m (slots13 n most).2.2 :: L) H1 → K (.tuple ⟨[ptr m 0, slA (slots13 n most).1, .bool (eqZ (Int.ofNat (slots13 n most).2.1) (Int.ofNat 0))]⟩) H1) : Call1 Tryz.prog con 14 [.agg ⟨[i64 n, u64 most, v, w]⟩] H K := by
  refine call_of (hc _ _ _ rfl) ?_
  rw [l13memory_W]
  refine na fun p1 H2 h2 => ?_
  refine na fun p3 H4 h4 => ?_
  refine arenaNew_ok hc h4 (by omega) (by omega) fun m H6 h6 => ?_
  repeat (refine gO ?_; intros)
  refine memView_ok hc h6 fun q H18 h18 => ?_
  repeat (refine gO ?_; intros)
  rename_i p19 H20 h20
  refine viewAlloc_ok (vals := [1]) hc h20 pp pp (Has.own3 (l := [1])) (by simp) (by omega) (by show 0 < _; omega) fun H22 h22 => ?_
  rw [room13]
  repeat (refine gO ?_; intros)
  have hM : (mem0 4096).alloc (Int.negSucc 0) [1] = mem13 := rfl
  rw [hM] at h22
  refine annMake_ok (n := n) hc h22 pp pp (by omega) (by have := mem13_tr; omega) fun nn' H26 _ h26 => ?_
  have e : mkSlots 1 n most mem13 (Int.negSucc 0) = slots13 n most := rfl
  rw [e] at h26
  rw [e]
  generalize slots13 n most = s at *
  obtain ⟨⟨cam, first, count, ms⟩, er, M⟩ := s
  repeat (refine gO ?_; intros)
  refine stN (by assumption) (Nat.le_of_ble_eq_true rfl) rfl fun H38 h38 => ?_
  repeat (refine gO ?_; intros)
  refine stN (by assumption) (Nat.le_of_ble_eq_true rfl) rfl fun H44 h44 => ?_
  repeat (refine gO ?_; intros)
  exact k m _ (h44.ent ee)
theorem l13right_ok (hc : Con con lives) {n : Int} {most : Nat} {v w : Value} {L : List HP} {H : CH} {K : KP} (hs : Sat L H)
    (k : ∀ H1, Sat L H1 → K (.bool (right13 n most)) H1) : Call1 Tryz.prog con 16 [.agg ⟨[i64 n, u64 most, v, w]⟩] H K := by
  refine call_of (hc _ _ _ rfl) ?_
  rw [l13right_W]
  refine na fun p1 H2 h2 => ?_
  repeat (refine gO ?_; intros)
  have kk := k _ (h2.ent ee)
  cases n with
  | negSucc z =>
    exact Cd.f (leZ_on 1 z) kk
  | ofNat c =>
    unfold right13 at kk
    simp only at kk
    by_cases h1 : 1 ≤ c
    · refine Cd.t (leZ_t h1) ?_
      rw [decide_eq_true h1, Bool.true_and] at kk
      repeat (refine gO ?_; intros)
      by_cases h3 : c ≤ 256
      · refine Cd.t (leZ_t h3) ?_
        rw [decide_eq_true h3, Bool.true_and] at kk
        repeat (refine gO ?_; intros)
        by_cases h4 : 1 ≤ most
        · refine Cd.t (leN_t h4) ?_
          rw [decide_eq_true h4, Bool.true_and] at kk
          repeat (refine gO ?_; intros)
          by_cases h5 : most ≤ 1099511627776
          · rw [leN_t h5]
            rw [decide_eq_true h5] at kk
            exact kk
          · rw [leN_f (by omega)]
            rw [decide_eq_false h5] at kk
            exact kk
        · refine Cd.f (leN_f (by omega)) ?_
          rw [decide_eq_false h4, Bool.false_and] at kk
          exact kk
      · refine Cd.f (leZ_f (by omega)) ?_
        rw [decide_eq_false h3, Bool.false_and] at kk
        exact kk
    · refine Cd.f (leZ_f (by omega)) ?_
      rw [decide_eq_false h1, Bool.false_and] at kk
      exact kk
end Go.Proofs.YtmjiaahpjjnloaaGreat

set_option linter.unusedVariables false
set_option linter.unusedSimpArgs false
namespace Go.Proofs.YtmjiaahpjjnloaaGreat
open Go Go.CM
/-! ### how many accesses a call may still make -/
/-- None, or one access by this thread. -/
def One (th : Int) (M M' : Mem) (a a' : Nat) : Prop := (M'.tr = M.tr ∧ a' ≤ a) ∨ ∃ c, M'.tr = M.tr ++ [c] ∧ c.th = th ∧ a' + 1 ≤ a
theorem One.load {th : Int} {M : Mem} {x a a' : Nat} (h : a' + 1 ≤ a) : One th M (M.load th x) a a' := .inr ⟨_, rfl, rfl, h⟩
theorem One.store {th : Int} {M : Mem} {x y a a' : Nat} (h : a' + 1 ≤ a) : One th M (M.store th x y) a a' := .inr ⟨_, rfl, rfl, h⟩
theorem One.cas {th : Int} {M : Mem} {x y z a a' : Nat} (h : a' + 1 ≤ a) : One th M (M.cas th x y z) a a' := by
  refine .inr ⟨accCas th x y z (M.swaps x y), ?_, rfl, h⟩
  unfold Mem.cas
  split <;> rfl
end Go.Proofs.YtmjiaahpjjnloaaGreat

set_option linter.unusedVariables false
set_option linter.unusedSimpArgs false
namespace Go.Proofs.YtmjiaahpjjnloaaGreat
open Go Go.CM
attribute [local irreducible] AsBool AsWant AsNat AsInt AsCnt AsPtr AsSlc AsLen AsStr AsAgg AsTup AsFn AsIfc Nth Sc NotNil IsNil Must Cd codeW funW Sat SatL wrapN subM mkRow ltZ leZ ltN leN
variable {con : CallT}
theorem take_next {α : Type} {l : List α} {i : Nat} {x : α} (h : l[i]? = some x) : l.take (i + 1) = l.take i ++ [x] := by rw [List.take_add_one, h]; rfl
theorem eqZ_int {a b : Int} : eqZ a b = true ↔ a = b := ⟨fun h => of_decide_eq_true h, fun h => decide_eq_true h⟩
end Go.Proofs.YtmjiaahpjjnloaaGreat

set_option linter.unusedVariables false
set_option linter.unusedSimpArgs false
namespace Go.Proofs.YtmjiaahpjjnloaaGreat
open Go Go.CM
/-! ### words of slots in a memory -/
theorem slot_parts {k g t : Nat} (hk : k < 4) (ht : t < 4398046511104) : kindW (slotW k g t) = k ∧ genW (slotW k g t) = g % 1048576 ∧ stampW (slotW k g t) = t := by
  have e : slotW k g t = k + 4 * (g % 1048576) + t * 4194304 := by
    unfold slotW
    exact Nat.mod_eq_of_lt (by omega)
  rw [e]
  unfold kindW genW stampW
  refine ⟨by omega, by omega, by omega⟩
theorem peek_put (M : Mem) (a x b : Nat) : (M.put a x).peek b = if a = b ∧ a < M.cells.length then x else M.peek b := by
  unfold Mem.peek Mem.put
  simp only [List.getD_eq_getElem?_getD, List.getElem?_set]
  by_cases h : a = b
  · subst h
    by_cases h2 : a < M.cells.length
    · simp [h2]
    · simp [h2]
  · simp [h]
theorem peek_note (M : Mem) (c : Acs) (b : Nat) : (M.note c).peek b = M.peek b := rfl
theorem len_note (M : Mem) (c : Acs) : (M.note c).cells.length = M.cells.length := rfl
theorem len_put (M : Mem) (a x : Nat) : (M.put a x).cells.length = M.cells.length := by simp [Mem.put]
theorem peek_store (M : Mem) (th : Int) (a x b : Nat) : (M.store th a x).peek b = if a = b ∧ a < M.cells.length then x else M.peek b := by
  unfold Mem.store; rw [peek_note, peek_put]
theorem peek_store' {M : Mem} {a : Nat} (h : a < M.cells.length) (th : Int) (x b : Nat) : (M.store th a x).peek b = if a = b then x else M.peek b := by
  rw [peek_store]
  by_cases e : a = b
  · rw [if_pos ⟨e, h⟩, if_pos e]
  · rw [if_neg (fun q => e q.1), if_neg e]
theorem peek_cas (M : Mem) (th : Int) (a x y b : Nat) : (M.cas th a x y).peek b = if M.swaps a x = true ∧ a = b then y else M.peek b := by
  unfold Mem.cas
  rw [peek_note]
  cases h : M.swaps a x with
  | true =>
    simp only [if_true, true_and]
    rw [peek_put]
    have hl : a < M.cells.length := by
      unfold Mem.swaps at h
      simp only [Bool.and_eq_true, decide_eq_true_eq] at h
      exact h.1
    simp [hl]
  | false => simp
theorem swaps_eq {M : Mem} {a x : Nat} (h : M.swaps a x = true) : M.peek a = x := by
  unfold Mem.swaps at h
  simp only [Bool.and_eq_true, decide_eq_true_eq] at h
  exact h.2
theorem len_store (M : Mem) (th : Int) (a x : Nat) : (M.store th a x).cells.length = M.cells.length := len_put M a x
theorem len_cas (M : Mem) (th : Int) (a x y : Nat) : (M.cas th a x y).cells.length = M.cells.length := by
  unfold Mem.cas
  rw [len_note]
  split
  · exact len_put M a y
  · rfl
def W (M : Mem) (i : Nat) : Nat := M.peek (2 + i)
theorem addM2 {i : Nat} (h : i < 256) : addM 2 i = 2 + i := Nat.mod_eq_of_lt (by show 2 + i < _; omega)
def slO (c most : Nat) : SlotsS := ⟨1, 2, Int.ofNat c, most⟩
theorem cntO {c most : Nat} (h1 : 1 ≤ c) (h2 : c ≤ 256) : cnt (slO c most).count = c := by
  show cnt (Int.ofNat c) = c
  unfold cnt
  simp only
  rw [if_neg (by omega)]
/-- What a snapshot that is under way knows. -/
structure SnJ (c most : Nat) (M : Mem) (s : SnapS) : Prop where
  sl : s.sl = slO c most
  i0 : s.at_ ≤ 7 → s.i < c
  a1 : s.at_ = 1 → kindW s.w = 0 ∧ genW s.w = s.gen ∧ s.gen < 1048575
  own : 2 ≤ s.at_ → s.at_ ≤ 7 → s.gen < 1048575 ∧ genW (W M s.i) = s.gen ∧ kindW (W M s.i) = (if s.at_ ≤ 3 then 1 else 2)
  a3 : s.at_ = 3 → s.t ≤ M.peek 1
  a4 : s.at_ = 4 → stampW (W M s.i) ≤ M.peek 1
  a5 : s.at_ = 5 ∨ s.at_ = 6 → stampW (W M s.i) ≤ s.t ∧ s.t < most ∧ s.t ≤ M.peek 1
  a6 : s.at_ = 6 → s.t < M.peek 1
/-- What a step does to a memory: to one slot at most. -/
structure Eff (c most : Nat) (M M' : Mem) (i0 : Option Nat) : Prop where
  len : M'.cells.length = 4096
  cam : M.peek 1 ≤ M'.peek 1
  camM : M'.peek 1 ≤ most
  oth : ∀ i, i < c → i0 ≠ some i → W M' i = W M i
theorem Eff.same {c most : Nat} {M M' : Mem} (hl : M'.cells.length = 4096) (hc : M.peek 1 ≤ most) (h : ∀ a, M'.peek a = M.peek a) : Eff c most M M' none := ⟨hl, by rw [h]; exact Nat.le_refl _, by rw [h]; exact hc, fun i _ _ => h _⟩
theorem Eff.at {c most i : Nat} {M M' : Mem} {x : Nat} (hl : M'.cells.length = 4096) (hc : M.peek 1 ≤ most) (h : ∀ a, M'.peek a = if 2 + i = a then x else M.peek a) : Eff c most M M' (some i) ∧ W M' i = x := by
  refine ⟨⟨hl, by rw [h, if_neg (by omega)]; exact Nat.le_refl _, by rw [h, if_neg (by omega)]; exact hc, fun j _ hj => ?_⟩, ?_⟩
  · unfold W
    rw [h, if_neg (by intro e; apply hj; congr 1; omega)]
  · unfold W
    rw [h, if_pos rfl]
/-- How a snapshot's step may change its slot. -/
inductive SnapK (M M' : Mem) (s s' : SnapS) : Prop where
  | claim : s.at_ = 1 → kindW (W M s.i) = 0 → genW (W M' s.i) = genW (W M s.i) → kindW (W M' s.i) = 1 → genW (W M s.i) < 1048575 → s'.at_ = 2 → s'.i = s.i → SnapK M M' s s'
  | ann : s.at_ = 3 → genW (W M' s.i) = genW (W M s.i) → kindW (W M' s.i) = 2 → s'.at_ = 4 → s'.i = s.i → SnapK M M' s s'
  | give : s.at_ = 7 → genW (W M' s.i) = genW (W M s.i) → kindW (W M' s.i) = 0 → s'.at_ = 8 → s'.err ≠ 0 → SnapK M M' s s'
  | hold : s.at_ = 6 → genW (W M' s.i) = genW (W M s.i) → kindW (W M' s.i) = 3 → stampW (W M' s.i) = s.t → s'.at_ = 8 → s'.ok = true → s'.i = s.i → s'.gen = s.gen → s'.t = s.t → s'.err = 0 → SnapK M M' s s'
theorem sn8 {c most : Nat} {M : Mem} {s : SnapS} (hsl : s.sl = slO c most) (h : s.at_ = 8) : SnJ c most M s := ⟨hsl, fun h1 => by omega, fun h1 => by omega, fun h1 h2 => by omega, fun h1 => by omega, fun h1 => by omega, fun h1 => by omega, fun h1 => by omega⟩
theorem sn0 {c most : Nat} {M : Mem} {s : SnapS} (hsl : s.sl = slO c most) (h : s.at_ = 0) (hi : s.i < c) : SnJ c most M s := ⟨hsl, fun h1 => hi, fun h1 => by omega, fun h1 h2 => by omega, fun h1 => by omega, fun h1 => by omega, fun h1 => by omega, fun h1 => by omega⟩
theorem sn1 {c most : Nat} {M : Mem} {s : SnapS} (hsl : s.sl = slO c most) (h : s.at_ = 1) (hi : s.i < c) (a1 : kindW s.w = 0 ∧ genW s.w = s.gen ∧ s.gen < 1048575) : SnJ c most M s := ⟨hsl, fun h1 => hi, fun h1 => a1, fun h1 h2 => by omega, fun h1 => by omega, fun h1 => by omega, fun h1 => by omega, fun h1 => by omega⟩
theorem sn_on {c most : Nat} {M : Mem} {s : SnapS} (hsl : s.sl = slO c most) (hcn : cnt (slO c most).count = c) : SnJ c most M s.on ∧ (2 ≤ s.on.at_ → s.on.at_ ≤ 7 → False) ∧ (s.on.at_ = 8 → s.on.err ≠ 0) := by
  unfold SnapS.on
  rw [hsl, hcn]
  split
  · rename_i h
    exact ⟨sn0 rfl rfl h, fun h1 => absurd h1 (by show ¬ (2 ≤ 0); omega), fun h1 => absurd h1 (by simp)⟩
  · exact ⟨sn8 rfl rfl, fun _ h1 => absurd h1 (by show ¬ (8 ≤ 7); omega), fun _ => by simp⟩
theorem snap_eff {c most : Nat} (hc1 : 1 ≤ c) (hc2 : c ≤ 256) (hm : most ≤ 1099511627776) {M : Mem} (hl : M.cells.length = 4096) (hcm : M.peek 1 ≤ most) {s : SnapS} (hok : s.Ok) (J : SnJ c most M s) (th : Int) :
    SnJ c most (s.step M th).2 (s.step M th).1 ∧
    ((Eff c most M (s.step M th).2 none ∧ (2 ≤ (s.step M th).1.at_ → (s.step M th).1.at_ ≤ 7 → 2 ≤ s.at_ ∧ (s.step M th).1.i = s.i) ∧ ((s.step M th).1.at_ = 8 → (s.step M th).1.err ≠ 0)) ∨
     (Eff c most M (s.step M th).2 (some s.i) ∧ SnapK M (s.step M th).2 s (s.step M th).1)) := by
  obtain ⟨sl, at_, i, w, gen, t, ok, err⟩ := s
  obtain ⟨h1, h2, h3, h4, h5⟩ := hok
  simp only at h1 h2 h3 h4 h5
  subst h2 h3
  obtain ⟨j1, j2, j3, j4, j5, j6, j7, j8⟩ := J
  simp only at j1 j2 j3 j4 j5 j6 j7 j8
  subst j1
  have hi := j2 (by omega)
  have hcell : addM (slO c most).first i = 2 + i := addM2 (by omega)
  have hcn := cntO (most := most) hc1 hc2
  rcases (by omega : at_ = 0 ∨ at_ = 1 ∨ at_ = 2 ∨ at_ = 3 ∨ at_ = 4 ∨ at_ = 5 ∨ at_ = 6 ∨ at_ = 7) with rfl | rfl | rfl | rfl | rfl | rfl | rfl | rfl
  · simp only [SnapS.step, SnapS.cell, hcell]
    rw [if_neg (show ¬ cnt (slO c most).count = 0 by omega)]
    have hE : Eff c most M (M.load th (2 + i)) none := .same hl hcm fun a => rfl
    have on := sn_on (c := c) (most := most) (M := M.load th (2 + i)) (s := ⟨slO c most, 0, i, M.peek (2 + i), genW (M.peek (2 + i)), t, false, 0⟩) rfl hcn
    by_cases hk : kindW (M.peek (2 + i)) = 0
    · by_cases hgg : 1048575 ≤ genW (M.peek (2 + i))
      · simp only [hgg, or_true, if_true]
        exact ⟨on.1, .inl ⟨hE, fun h1 h2 => (on.2.1 h1 h2).elim, on.2.2⟩⟩
      · simp only [hk, hgg, ne_eq, not_true_eq_false, or_false, if_false]
        exact ⟨sn1 rfl rfl hi ⟨hk, rfl, by show genW _ < _; omega⟩, .inl ⟨hE, fun h1 => absurd h1 (by simp), fun h1 => absurd h1 (by simp)⟩⟩
    · simp only [hk, ne_eq, not_false_eq_true, true_or, if_true]
      exact ⟨on.1, .inl ⟨hE, fun h1 h2 => (on.2.1 h1 h2).elim, on.2.2⟩⟩
  · obtain ⟨k1, k2, k3⟩ := j3 rfl
    simp only [SnapS.step, SnapS.cell, hcell]
    cases hsw : M.swaps (2 + i) w with
    | false =>
      have hE : Eff c most M (M.cas th (2 + i) w (slotW 1 gen 0)) none := .same ((len_cas ..).trans hl) hcm fun a => by rw [peek_cas, hsw]; simp
      have on := sn_on (c := c) (most := most) (M := M.cas th (2 + i) w (slotW 1 gen 0)) (s := ⟨slO c most, 1, i, w, gen, t, false, 0⟩) rfl hcn
      simp only [Bool.false_eq_true, if_false]
      exact ⟨on.1, .inl ⟨hE, fun h1 h2 => (on.2.1 h1 h2).elim, on.2.2⟩⟩
    | true =>
      have hw : W M i = w := swaps_eq hsw
      obtain ⟨hE, hW⟩ := Eff.at (c := c) (i := i) (M' := M.cas th (2 + i) w (slotW 1 gen 0)) (x := slotW 1 gen 0) ((len_cas ..).trans hl) hcm fun a => by rw [peek_cas, hsw]; simp
      obtain ⟨q1, q2, q3⟩ := slot_parts (k := 1) (g := gen) (t := 0) (by omega) (by omega)
      simp only [if_true]
      refine ⟨⟨rfl, fun _ => hi, fun h => absurd h (by simp), fun _ _ => ⟨k3, by show genW (W _ i) = gen; rw [hW, q2]; omega, by show kindW (W _ i) = _; rw [hW, q1]; rfl⟩, fun h => absurd h (by simp), fun h => absurd h (by simp), fun h => absurd h (by simp), fun h => absurd h (by simp)⟩, .inr ⟨hE, .claim rfl (by show kindW (W M i) = 0; rw [hw]; exact k1) (by show genW (W _ i) = genW (W M i); rw [hW, hw, q2, k2]; omega) (by show kindW (W _ i) = 1; rw [hW, q1]) (by show genW (W M i) < _; rw [hw, k2]; exact k3) rfl rfl⟩⟩
  · obtain ⟨o1, o2, o3⟩ := j4 (by omega) (by omega)
    have hE : Eff c most M (M.load th 1) none := .same hl hcm fun a => rfl
    simp only [SnapS.step]
    exact ⟨⟨rfl, fun _ => hi, fun h => absurd h (by simp), fun _ _ => ⟨o1, o2, o3⟩, fun _ => Nat.le_refl _, fun h => absurd h (by simp), fun h => absurd h (by simp), fun h => absurd h (by simp)⟩, .inl ⟨hE, fun _ _ => ⟨by simp, by simp⟩, fun h => absurd h (by simp)⟩⟩
  · obtain ⟨o1, o2, o3⟩ := j4 (by omega) (by omega)
    have ht := j5 rfl
    simp only [SnapS.step, SnapS.cell, hcell]
    obtain ⟨hE, hW⟩ := Eff.at (c := c) (i := i) (M' := M.store th (2 + i) (slotW 2 gen t)) (x := slotW 2 gen t) ((len_store ..).trans hl) hcm fun a => peek_store' (by omega) th _ a
    obtain ⟨q1, q2, q3⟩ := slot_parts (k := 2) (g := gen) (t := t) (by omega) (by omega)
    refine ⟨⟨rfl, fun _ => hi, fun h => absurd h (by simp), fun _ _ => ⟨o1, by show genW (W _ i) = gen; rw [hW, q2]; omega, by show kindW (W _ i) = _; rw [hW, q1]; rfl⟩, fun h => absurd h (by simp), fun _ => by show stampW (W _ i) ≤ _; rw [hW, q3]; have := hE.cam; omega, fun h => absurd h (by simp), fun h => absurd h (by simp)⟩, .inr ⟨hE, .ann rfl (by show genW (W _ i) = genW (W M i); rw [hW, q2, o2]; omega) (by show kindW (W _ i) = 2; rw [hW, q1]) rfl rfl⟩⟩
  · obtain ⟨o1, o2, o3⟩ := j4 (by omega) (by omega)
    have ht := j6 rfl
    have hE : Eff c most M (M.load th 1) none := .same hl hcm fun a => rfl
    simp only [SnapS.step]
    by_cases hmm : (slO c most).most ≤ M.peek (slO c most).cam
    · simp only [if_pos hmm]
      exact ⟨⟨rfl, fun _ => hi, fun h => absurd h (by simp), fun _ _ => ⟨o1, o2, o3⟩, fun h => absurd h (by simp), fun h => absurd h (by simp), fun h => absurd h (by simp), fun h => absurd h (by simp)⟩, .inl ⟨hE, fun _ _ => ⟨by simp, by simp⟩, fun h => absurd h (by simp)⟩⟩
    · simp only [if_neg hmm]
      have hmm' : M.peek 1 < most := by have : ¬ most ≤ M.peek 1 := hmm; omega
      exact ⟨⟨rfl, fun _ => hi, fun h => absurd h (by simp), fun _ _ => ⟨o1, o2, o3⟩, fun h => absurd h (by simp), fun h => absurd h (by simp), fun _ => ⟨ht, hmm', Nat.le_refl _⟩, fun h => absurd h (by simp)⟩, .inl ⟨hE, fun _ _ => ⟨by simp, by simp⟩, fun h => absurd h (by simp)⟩⟩
  · obtain ⟨o1, o2, o3⟩ := j4 (by omega) (by omega)
    obtain ⟨t1, t2, t3⟩ := j7 (.inl rfl)
    simp only [SnapS.step]
    have hpk : ∀ a, (M.cas th 1 t (addM t 1)).peek a = if M.swaps 1 t = true ∧ 1 = a then t + 1 else M.peek a := fun a => by
      rw [peek_cas, show addM t 1 = t + 1 from Nat.mod_eq_of_lt (by show t + 1 < _; omega)]
    have hcam : M.peek 1 ≤ (M.cas th 1 t (addM t 1)).peek 1 ∧ (M.cas th 1 t (addM t 1)).peek 1 ≤ most ∧ t < (M.cas th 1 t (addM t 1)).peek 1 := by
      rw [hpk]
      cases hsw : M.swaps 1 t with
      | true => have := swaps_eq hsw; simp; omega
      | false =>
        have : M.peek 1 ≠ t := fun e => by
          unfold Mem.swaps at hsw
          rw [decide_eq_true (show 1 < M.cells.length by omega), decide_eq_true e] at hsw
          cases hsw
        simp; omega
    have hE : Eff c most M (M.cas th 1 t (addM t 1)) none := ⟨(len_cas ..).trans hl, hcam.1, hcam.2.1, fun j _ _ => by unfold W; rw [hpk, if_neg (by omega)]⟩
    have hWi : W (M.cas th 1 t (addM t 1)) i = W M i := hE.oth i hi (by simp)
    exact ⟨⟨rfl, fun _ => hi, fun h => absurd h (by simp), fun _ _ => ⟨o1, by rw [← o2]; exact congrArg genW hWi, (congrArg kindW hWi).trans o3⟩, fun h => absurd h (by simp), fun h => absurd h (by simp), fun _ => ⟨by show stampW (W (M.cas th 1 t (addM t 1)) i) ≤ t; rw [hWi]; exact t1, t2, Nat.le_of_lt hcam.2.2⟩, fun _ => hcam.2.2⟩, .inl ⟨hE, fun _ _ => ⟨by simp, by simp⟩, fun h => absurd h (by simp)⟩⟩
  · obtain ⟨o1, o2, o3⟩ := j4 (by omega) (by omega)
    obtain ⟨t1, t2, t3⟩ := j7 (.inr rfl)
    simp only [SnapS.step, SnapS.cell, hcell]
    obtain ⟨hE, hW⟩ := Eff.at (c := c) (i := i) (M' := M.store th (2 + i) (slotW 3 gen t)) (x := slotW 3 gen t) ((len_store ..).trans hl) hcm fun a => peek_store' (by omega) th _ a
    obtain ⟨q1, q2, q3⟩ := slot_parts (k := 3) (g := gen) (t := t) (by omega) (by omega)
    exact ⟨sn8 rfl rfl, .inr ⟨hE, .hold rfl (by show genW (W _ i) = genW (W M i); rw [hW, q2, o2]; omega) (by show kindW (W _ i) = 3; rw [hW, q1]) (by show stampW (W _ i) = t; rw [hW, q3]) rfl rfl rfl rfl rfl rfl⟩⟩
  · obtain ⟨o1, o2, o3⟩ := j4 (by omega) (by omega)
    simp only [SnapS.step, SnapS.cell, hcell]
    obtain ⟨hE, hW⟩ := Eff.at (c := c) (i := i) (M' := M.store th (2 + i) (slotW 0 gen 0)) (x := slotW 0 gen 0) ((len_store ..).trans hl) hcm fun a => peek_store' (by omega) th _ a
    obtain ⟨q1, q2, q3⟩ := slot_parts (k := 0) (g := gen) (t := 0) (by omega) (by omega)
    exact ⟨sn8 rfl rfl, .inr ⟨hE, .give rfl (by show genW (W _ i) = genW (W M i); rw [hW, q2, o2]; omega) (by show kindW (W _ i) = 0; rw [hW, q1]) rfl (by simp)⟩⟩
end Go.Proofs.YtmjiaahpjjnloaaGreat

set_option linter.unusedVariables false
set_option linter.unusedSimpArgs false
namespace Go.Proofs.YtmjiaahpjjnloaaGreat
open Go Go.CM
/-- What a release that is under way knows. -/
structure LtJ (c most : Nat) (s : LetS) : Prop where
  sl : s.sl = slO c most
  er : s.at_ < 2 → s.err = 0
  a1 : s.at_ = 1 → hOk s.h = true ∧ s.h % 65536 - 1 < c ∧ s.slot = 2 + (s.h % 65536 - 1) ∧ kindW s.w = 3 ∧ genW s.w = s.h / 65536 ∧ s.gen = s.h / 65536
theorem hOk_out {h : Nat} (q : hOk h = true) : 1 ≤ h % 65536 ∧ h % 65536 ≤ 256 ∧ h / 65536 < 1048576 := by
  unfold hOk at q
  simp only [Bool.and_eq_true, decide_eq_true_eq] at q
  exact q
theorem let_eff {c most : Nat} (hc1 : 1 ≤ c) (hc2 : c ≤ 256) {M : Mem} (hl : M.cells.length = 4096) (hcm : M.peek 1 ≤ most) {s : LetS} (hat : s.at_ < 2) (J : LtJ c most s) (hg : ∀ i, i < c → kindW (W M i) ≠ 0 → genW (W M i) < 1048575) (th : Int) :
    LtJ c most (s.step M th).1 ∧ (s.step M th).1.h = s.h ∧
    ((Eff c most M (s.step M th).2 none ∧ ((s.step M th).1.at_ = 2 → (s.step M th).1.err ≠ 0)) ∨
     (hOk s.h = true ∧ s.h % 65536 - 1 < c ∧ Eff c most M (s.step M th).2 (some (s.h % 65536 - 1)) ∧ kindW (W M (s.h % 65536 - 1)) = 3 ∧ genW (W M (s.h % 65536 - 1)) = s.h / 65536 ∧ kindW (W (s.step M th).2 (s.h % 65536 - 1)) = 0 ∧ genW (W (s.step M th).2 (s.h % 65536 - 1)) = s.h / 65536 + 1 ∧ (s.step M th).1.at_ = 2)) := by
  obtain ⟨sl, h, at_, slot, w, gen, err⟩ := s
  obtain ⟨j1, j2, j3⟩ := J
  simp only at j1 j2 j3 hat
  subst j1
  have he := j2 hat
  subst he
  have hcn := cntO (most := most) hc1 hc2
  rcases (by omega : at_ = 0 ∨ at_ = 1) with rfl | rfl
  · simp only [LetS.step]
    cases hth : LetS.there ⟨slO c most, h, 0, slot, w, gen, 0⟩ with
    | false =>
      simp only [Bool.false_eq_true, if_false]
      exact ⟨⟨rfl, fun q => absurd q (by simp), fun q => absurd q (by simp)⟩, by simp, .inl ⟨.same hl hcm fun a => rfl, fun _ => by simp⟩⟩
    | true =>
      unfold LetS.there at hth
      simp only [Bool.and_eq_true, decide_eq_true_eq, hcn] at hth
      obtain ⟨k1, k2⟩ := hth
      have hcell : addM (slO c most).first (h % 65536 - 1) = 2 + (h % 65536 - 1) := addM2 (by omega)
      simp only [if_true, hcell]
      have hE : Eff c most M (M.load th (2 + (h % 65536 - 1))) none := .same hl hcm fun a => rfl
      by_cases hk : kindW (M.peek (2 + (h % 65536 - 1))) = 3 ∧ genW (M.peek (2 + (h % 65536 - 1))) = h / 65536
      · simp only [if_pos hk]
        exact ⟨⟨rfl, fun _ => rfl, fun _ => ⟨k1, k2, rfl, hk.1, hk.2, rfl⟩⟩, by simp, .inl ⟨hE, fun q => absurd q (by simp)⟩⟩
      · simp only [if_neg hk]
        exact ⟨⟨rfl, fun q => absurd q (by simp), fun q => absurd q (by simp)⟩, by simp, .inl ⟨hE, fun _ => by simp⟩⟩
  · obtain ⟨k1, k2, k3, k4, k5, k6⟩ := j3 rfl
    subst k3 k6
    simp only [LetS.step]
    cases hsw : M.swaps (2 + (h % 65536 - 1)) w with
    | false =>
      have hE : Eff c most M (M.cas th (2 + (h % 65536 - 1)) w (slotW 0 (addM (h / 65536) 1) 0)) none := .same ((len_cas ..).trans hl) hcm fun a => by rw [peek_cas, hsw]; simp
      exact ⟨⟨rfl, fun q => absurd q (by simp), fun q => absurd q (by simp)⟩, by simp, .inl ⟨hE, fun _ => by simp⟩⟩
    | true =>
      have hw : W M (h % 65536 - 1) = w := swaps_eq hsw
      have hgl := hg _ k2 (by rw [hw, k4]; omega)
      rw [hw, k5] at hgl
      have hadd : addM (h / 65536) 1 = h / 65536 + 1 := Nat.mod_eq_of_lt (by show h / 65536 + 1 < _; omega)
      obtain ⟨hE, hW⟩ := Eff.at (c := c) (i := h % 65536 - 1) (M' := M.cas th (2 + (h % 65536 - 1)) w (slotW 0 (addM (h / 65536) 1) 0)) (x := slotW 0 (addM (h / 65536) 1) 0) ((len_cas ..).trans hl) hcm fun a => by rw [peek_cas, hsw]; simp
      obtain ⟨q1, q2, q3⟩ := slot_parts (k := 0) (g := addM (h / 65536) 1) (t := 0) (by omega) (by omega)
      refine ⟨⟨rfl, fun q => absurd q (by simp), fun q => absurd q (by simp)⟩, by simp, .inr ⟨k1, k2, hE, by rw [hw]; exact k4, by rw [hw]; exact k5, by rw [hW, q1], by rw [hW, q2, hadd]; omega, by simp⟩⟩
/-! ### what holds of all threads and of all that was told -/
def hdl (i g : Nat) : Nat := i + 1 + g * 65536
theorem hdl_inj {i g i' g' : Nat} (h1 : i < 256) (h2 : i' < 256) (e : hdl i g = hdl i' g') : i = i' ∧ g = g' := by
  unfold hdl at e
  omega
theorem hdl_of {h : Nat} (q : hOk h = true) : h = hdl (h % 65536 - 1) (h / 65536) := by
  obtain ⟨h1, h2, h3⟩ := hOk_out q
  unfold hdl
  omega
/-- A snapshot that was told, a release that was done. -/
def FinS (x : Seen13) : Prop := x.call.kind = 0 ∧ 0 ≤ x.to ∧ x.t.1.er = 0
def FinR (x : Seen13) : Prop := x.call.kind ≠ 0 ∧ x.call.kind ≠ 2 ∧ 0 ≤ x.to ∧ x.t.1.er = 0
/-- The handle that a call is about. -/
def nm (all : List Seen13) (a : Nat) : Nat :=
  match all[a]? with
  | some x => bh x.call.kind x.call.h (((all.take a).filter fun y => decide (y.th = x.th)).map fun y => y.t.1.h)
  | none => 0
/-- It owns a slot. -/
def Owns (o : Option P13) (i : Nat) : Prop := ∃ s, o = some s ∧ s.isS = true ∧ 2 ≤ s.sn.at_ ∧ s.sn.at_ ≤ 7 ∧ s.sn.i = i
structure PJ (c most : Nat) (M : Mem) (s : P13) : Prop where
  sn : s.isS = true → SnJ c most M s.sn
  lt : s.isS = false → s.isN = false → LtJ c most s.lt
structure Inv (c most : Nat) (g : R13) (j : Nat) : Prop where
  len : g.M.cells.length = 4096
  cam : g.M.peek 1 ≤ most
  pj : ∀ (k : Nat) th s, g.ths[k]? = some th → th.now = some s → PJ c most g.M s
  own : ∀ (k k' : Nat) th th' i, g.ths[k]? = some th → g.ths[k']? = some th' → k ≠ k' → Owns th.now i → Owns th'.now i → False
  gen : ∀ i, i < c → kindW (W g.M i) ≠ 0 → genW (W g.M i) < 1048575
  held : ∀ i, i < c → kindW (W g.M i) = 3 → ∃ (a : Nat) (x : Seen13), g.all[a]? = some x ∧ FinS x ∧ x.t.1.h = hdl i (genW (W g.M i)) ∧ x.t.1.st = stampW (W g.M i)
  told : ∀ (a : Nat) x, g.all[a]? = some x → FinS x → ∃ i gn, i < c ∧ gn < 1048575 ∧ x.t.1.h = hdl i gn ∧ x.t.1.st < g.M.peek 1 ∧ x.t.1.st < most ∧ (gn < genW (W g.M i) ∨ (gn = genW (W g.M i) ∧ kindW (W g.M i) = 3 ∧ stampW (W g.M i) = x.t.1.st))
  tldu : ∀ (a b : Nat) x y, g.all[a]? = some x → g.all[b]? = some y → a ≠ b → FinS x → FinS y → x.t.1.h ≠ y.t.1.h
  rel : ∀ (a : Nat) x, g.all[a]? = some x → FinR x → ∃ i gn, i < c ∧ nm g.all a = hdl i gn ∧ gn < genW (W g.M i) ∧ ∃ (b : Nat) (y : Seen13), g.all[b]? = some y ∧ FinS y ∧ y.t.1.h = nm g.all a ∧ (y.from_ : Int) ≤ x.to
  relu : ∀ (a b : Nat) x y, g.all[a]? = some x → g.all[b]? = some y → a ≠ b → FinR x → FinR y → nm g.all a ≠ nm g.all b
  -- threads and what they did
  lst : ∀ (k : Nat) th, g.ths[k]? = some th → th.told.map (fun t => t.1.h) = ((g.all.filter fun y => decide (y.th = k)).map fun y => y.t.1.h)
  cur : ∀ (k : Nat) th s, g.ths[k]? = some th → th.now = some s → ∃ x, g.all[th.at_]? = some x ∧ x.th = k ∧ x.call.kind = s.kind ∧ x.to = Int.negSucc 0 ∧ x.t.1 = s.told ∧ s.lt.h = nm g.all th.at_ ∧ ∀ (b : Nat) y, g.all[b]? = some y → y.th = k → b ≤ th.at_
  frm : ∀ (a : Nat) x, g.all[a]? = some x → x.from_ < j ∧ x.to < (j : Int)
end Go.Proofs.YtmjiaahpjjnloaaGreat

set_option linter.unusedVariables false
set_option linter.unusedSimpArgs false
namespace Go.Proofs.YtmjiaahpjjnloaaGreat
open Go Go.CM
theorem split_at' {α : Type} : ∀ {l : List α} {a : Nat} {x : α}, l[a]? = some x → l = l.take a ++ x :: l.drop (a + 1)
  | [], a, x, h => by simp at h
  | y :: l, 0, x, h => by simp at h; subst h; rfl
  | y :: l, a + 1, x, h => by
    have := split_at' (l := l) (a := a) (x := x) (by simpa using h)
    simp only [List.take_succ_cons, List.drop_succ_cons, List.cons_append]
    rw [← this]
theorem set_split {α : Type} : ∀ {l : List α} {a : Nat} {x : α} (y : α), l[a]? = some x → l.set a y = l.take a ++ y :: l.drop (a + 1)
  | [], a, x, y, h => by simp at h
  | z :: l, 0, x, y, h => rfl
  | z :: l, a + 1, x, y, h => by
    have := set_split (l := l) (a := a) (x := x) y (by simpa using h)
    simp only [List.set_cons_succ, List.take_succ_cons, List.drop_succ_cons, List.cons_append]
    rw [← this]
theorem filt_none {l : List Seen13} {k : Nat} (h : ∀ y ∈ l, y.th ≠ k) : l.filter (fun y => decide (y.th = k)) = [] := List.filter_eq_nil_iff.2 fun y hy => by simp [h y hy]
/-- The entries behind one are of other threads. -/
def Last (all : List Seen13) (a k : Nat) : Prop := ∀ (b : Nat) y, all[b]? = some y → y.th = k → b ≤ a
theorem last_drop {all : List Seen13} {a k : Nat} (h : Last all a k) : (all.drop (a + 1)).filter (fun y => decide (y.th = k)) = [] := filt_none fun y hy e => by
  obtain ⟨b, hb⟩ := List.mem_iff_getElem?.1 hy
  rw [List.getElem?_drop] at hb
  have := h _ y hb e
  omega
theorem filt_last {all : List Seen13} {a k : Nat} {x : Seen13} (hx : all[a]? = some x) (hk : x.th = k) (h : Last all a k) : all.filter (fun y => decide (y.th = k)) = (all.take a).filter (fun y => decide (y.th = k)) ++ [x] := by
  conv => lhs; rw [split_at' hx]
  rw [List.filter_append, List.filter_cons_of_pos (by simp [hk]), last_drop h]
theorem filt_set {all : List Seen13} {a k : Nat} {x x' : Seen13} (hx : all[a]? = some x) (hk : x'.th = k) (h : Last all a k) : (all.set a x').filter (fun y => decide (y.th = k)) = (all.take a).filter (fun y => decide (y.th = k)) ++ [x'] := by
  rw [set_split x' hx, List.filter_append, List.filter_cons_of_pos (by simp [hk]), last_drop h]
theorem filt_oth : ∀ {l : List Seen13} {a k : Nat} {x x' : Seen13}, l[a]? = some x → x.th ≠ k → x'.th ≠ k → (l.set a x').filter (fun y => decide (y.th = k)) = l.filter (fun y => decide (y.th = k))
  | [], a, k, x, x', h, _, _ => by simp at h
  | z :: l, 0, k, x, x', h, h1, h2 => by
    simp only [List.getElem?_cons_zero, Option.some.injEq] at h
    subst h
    simp [h1, h2]
  | z :: l, a + 1, k, x, x', h, h1, h2 => by
    have ih := filt_oth (l := l) (a := a) (k := k) (x := x) (x' := x') (by simpa using h) h1 h2
    simp only [List.set_cons_succ, List.filter_cons, ih]
theorem nm_set {all : List Seen13} {a k : Nat} {x x' : Seen13} (hx : all[a]? = some x) (hk : x.th = k) (hk' : x'.th = k) (hc : x'.call = x.call) (h : Last all a k) (b : Nat) : nm (all.set a x') b = nm all b := by
  unfold nm
  rw [List.getElem?_set]
  by_cases e : a = b
  · subst e
    rw [if_pos rfl, if_pos (List.getElem?_eq_some_iff.1 hx).1, hx]
    simp only [hc, hk, hk']
    rw [List.take_set_of_le (Nat.le_refl _)]
  · rw [if_neg e]
    cases hb : all[b]? with
    | none => rfl
    | some y =>
      simp only
      by_cases hl : b ≤ a
      · rw [List.take_set_of_le hl]
      · have hyk : y.th ≠ k := fun q => hl (h b y hb q)
        have ht : (all.take b)[a]? = some x := by rw [List.getElem?_take, if_pos (by omega)]; exact hx
        rw [List.take_set, filt_oth ht (by rw [hk]; exact fun q => hyk q.symm) (by rw [hk']; exact fun q => hyk q.symm)]
theorem nm_snoc {all : List Seen13} {n : Seen13} {b : Nat} (h : b < all.length) : nm (all ++ [n]) b = nm all b := by
  unfold nm
  rw [List.getElem?_append_left h]
  cases all[b]? with
  | none => rfl
  | some y => simp only [List.take_append_of_le_length (Nat.le_of_lt h)]
theorem nm_last {all : List Seen13} {n : Seen13} : nm (all ++ [n]) all.length = bh n.call.kind n.call.h ((all.filter fun y => decide (y.th = n.th)).map fun y => y.t.1.h) := by
  unfold nm
  rw [List.getElem?_append_right (Nat.le_refl _)]
  simp
/-- What a step of a thread does, seen from the slots. -/
inductive Chg (c : Nat) (M M' : Mem) (s s' : P13) (x' : Seen13) (nmx : Nat) : Prop where
  | none : (∀ i, i < c → W M' i = W M i) → (∀ i, Owns (some s') i → Owns (some s) i) → ¬ FinS x' → ¬ FinR x' → Chg c M M' s s' x' nmx
  | own (i : Nat) : i < c → (∀ i', i' < c → i' ≠ i → W M' i' = W M i') → genW (W M' i) = genW (W M i) → kindW (W M' i) ≠ 3 → genW (W M i) < 1048575 → (kindW (W M i) = 0 ∨ Owns (some s) i) → (∀ i', Owns (some s') i' → i' = i) → ¬ FinS x' → ¬ FinR x' → Chg c M M' s s' x' nmx
  | hold (i : Nat) : i < c → (∀ i', i' < c → i' ≠ i → W M' i' = W M i') → genW (W M' i) = genW (W M i) → kindW (W M' i) = 3 → Owns (some s) i → (∀ i', ¬ Owns (some s') i') → x'.t.1.h = hdl i (genW (W M i)) → x'.t.1.st = stampW (W M' i) → FinS x' → ¬ FinR x' → Chg c M M' s s' x' nmx
  | rel (i : Nat) : i < c → (∀ i', i' < c → i' ≠ i → W M' i' = W M i') → kindW (W M i) = 3 → genW (W M' i) = genW (W M i) + 1 → kindW (W M' i) = 0 → (∀ i', ¬ Owns (some s') i') → nmx = hdl i (genW (W M i)) → ¬ FinS x' → Chg c M M' s s' x' nmx
/-- Who owns a slot sees it. -/
theorem own_kind {c most : Nat} {M : Mem} {s : P13} (J : PJ c most M s) {i : Nat} (h : Owns (some s) i) : i < c ∧ (kindW (W M i) = 1 ∨ kindW (W M i) = 2) ∧ genW (W M i) < 1048575 := by
  obtain ⟨s', e, h1, h2, h3, h4⟩ := h
  cases e
  subst h4
  obtain ⟨o1, o2, o3⟩ := (J.sn h1).own h2 h3
  refine ⟨(J.sn h1).i0 h3, ?_, by rw [o2]; exact o1⟩
  rw [o3]
  split
  · exact .inl rfl
  · exact .inr rfl
theorem chg_gen {c : Nat} {M M' : Mem} {s s' : P13} {x' : Seen13} {nmx : Nat} (h : Chg c M M' s s' x' nmx) {i : Nat} (hi : i < c) : genW (W M i) ≤ genW (W M' i) := by
  cases h with
  | none h1 _ _ _ => rw [h1 i hi]; exact Nat.le_refl _
  | own i0 _ h2 h3 _ _ _ _ _ _ =>
    by_cases e : i = i0
    · subst e; omega
    · rw [h2 i hi e]; exact Nat.le_refl _
  | hold i0 _ h2 h3 _ _ _ _ _ _ _ =>
    by_cases e : i = i0
    · subst e; omega
    · rw [h2 i hi e]; exact Nat.le_refl _
  | rel i0 _ h2 _ h4 _ _ _ _ =>
    by_cases e : i = i0
    · subst e; omega
    · rw [h2 i hi e]; exact Nat.le_refl _
theorem pj_mono {c most : Nat} {M M' : Mem} {s : P13} (J : PJ c most M s) (hc : M.peek 1 ≤ M'.peek 1) (hW : ∀ i, Owns (some s) i → W M' i = W M i) : PJ c most M' s := by
  refine ⟨fun h => ?_, J.lt⟩
  obtain ⟨j1, j2, j3, j4, j5, j6, j7, j8⟩ := J.sn h
  have hw : 2 ≤ s.sn.at_ → s.sn.at_ ≤ 7 → W M' s.sn.i = W M s.sn.i := fun h1 h2 => hW _ ⟨s, rfl, h, h1, h2, rfl⟩
  refine ⟨j1, j2, j3, fun h1 h2 => by rw [hw h1 h2]; exact j4 h1 h2, fun h1 => Nat.le_trans (j5 h1) hc, fun h1 => by rw [hw (by omega) (by omega)]; exact Nat.le_trans (j6 h1) hc, fun h1 => by rw [hw (by omega) (by omega)]; obtain ⟨q1, q2, q3⟩ := j7 h1; exact ⟨q1, q2, by omega⟩, fun h1 => Nat.lt_of_lt_of_le (j8 h1) hc⟩
theorem inv_core {c most : Nat} (hc256 : c ≤ 256) {g : R13} {j k : Nat} (I : Inv c most g (j + 1)) {th : Th13} {s s' : P13} {M' : Mem} {x x' : Seen13} {fin : Bool} (hth : g.ths[k]? = some th) (hnow : th.now = some s)
    (hl : M'.cells.length = 4096) (hc1 : g.M.peek 1 ≤ M'.peek 1) (hc2 : M'.peek 1 ≤ most) (hJ : PJ c most M' s') (hk : s'.kind = s.kind) (hlt : s'.lt.h = s.lt.h)
    (hx : g.all[th.at_]? = some x) (hx' : x' = x.upd (s'.told, fin) j) (hxs : FinS x' → x'.t.1.st < M'.peek 1 ∧ x'.t.1.st < most)
    (hC : Chg c g.M M' s s' x' (nm g.all th.at_)) (hne : th.told ≠ []) :
    Inv c most { M := M', ths := g.ths.set k ⟨th.told.set (th.told.length - 1) (s'.told, fin), if fin then none else some s', th.at_⟩, all := g.all.set th.at_ x' } (j + 1) := by
  obtain ⟨y, hy, c1, c2, c3, c4, c5, c6⟩ := I.cur k th s hth hnow
  rw [hx] at hy
  cases hy
  have hkl : k < g.ths.length := (List.getElem?_eq_some_iff.1 hth).1
  have hal : th.at_ < g.all.length := (List.getElem?_eq_some_iff.1 hx).1
  have hxth : x'.th = k := by rw [hx']; exact c1
  have hxca : x'.call = x.call := by rw [hx']; rfl
  have hxfr : x'.from_ = x.from_ := by rw [hx']; rfl
  have noS : ¬ FinS x := fun h => by have := h.2.1; rw [c3] at this; exact absurd this (by decide)
  have noR : ¬ FinR x := fun h => by have := h.2.2.1; rw [c3] at this; exact absurd this (by decide)
  have lk : ∀ (b : Nat) z, (g.all.set th.at_ x')[b]? = some z → (th.at_ = b ∧ z = x') ∨ (th.at_ ≠ b ∧ g.all[b]? = some z) := fun b z h => by
    rw [List.getElem?_set] at h
    by_cases e : th.at_ = b
    · rw [if_pos e, if_pos hal] at h; cases h; exact .inl ⟨e, rfl⟩
    · rw [if_neg e] at h; exact .inr ⟨e, h⟩
  have kp : ∀ (b : Nat) z, g.all[b]? = some z → (FinS z ∨ FinR z) → (g.all.set th.at_ x')[b]? = some z ∧ th.at_ ≠ b := fun b z h hf => by
    have e : th.at_ ≠ b := fun e => by
      subst e
      rw [hx] at h
      cases h
      rcases hf with hf | hf
      · exact noS hf
      · exact noR hf
    exact ⟨by rw [List.getElem?_set_ne e]; exact h, e⟩
  have lt : ∀ (k2 : Nat) th2, (g.ths.set k ⟨th.told.set (th.told.length - 1) (s'.told, fin), if fin then none else some s', th.at_⟩)[k2]? = some th2 → (k = k2 ∧ th2 = ⟨th.told.set (th.told.length - 1) (s'.told, fin), if fin then none else some s', th.at_⟩) ∨ (k ≠ k2 ∧ g.ths[k2]? = some th2) := fun k2 th2 h => by
    rw [List.getElem?_set] at h
    by_cases e : k = k2
    · rw [if_pos e, if_pos hkl] at h; cases h; exact .inl ⟨e, rfl⟩
    · rw [if_neg e] at h; exact .inr ⟨e, h⟩
  have nmq : ∀ b, nm (g.all.set th.at_ x') b = nm g.all b := nm_set hx c1 hxth hxca c6
  have hJ0 := I.pj k th s hth hnow
  -- other owners
  have oth : ∀ (k2 : Nat) th2 s2 i, k ≠ k2 → g.ths[k2]? = some th2 → th2.now = some s2 → Owns (some s2) i → W M' i = W g.M i := fun k2 th2 s2 i hne2 h1 h2 h3 => by
    obtain ⟨o1, o2, o3⟩ := own_kind (I.pj k2 th2 s2 h1 h2) h3
    have no : ∀ (_ : Owns (some s) i), False := fun h4 => I.own k k2 th th2 i hth h1 hne2 (by rw [hnow]; exact h4) (by rw [h2]; exact h3)
    cases hC with
    | none q1 _ _ _ => exact q1 i o1
    | own i0 _ q2 _ _ _ q6 _ _ _ =>
      by_cases e : i = i0
      · subst e
        rcases q6 with q6 | q6
        · omega
        · exact (no q6).elim
      · exact q2 i o1 e
    | hold i0 _ q2 _ _ q5 _ _ _ _ _ =>
      by_cases e : i = i0
      · subst e; exact (no q5).elim
      · exact q2 i o1 e
    | rel i0 _ q2 q3 _ _ _ _ _ =>
      by_cases e : i = i0
      · subst e; omega
      · exact q2 i o1 e
  have ou : ∀ (k2 : Nat) th2 i, k ≠ k2 → g.ths[k2]? = some th2 → Owns (some s') i → Owns th2.now i → False := fun k2 th2 i hne2 h1 h3 h4 => by
    have h5 : ∃ s2, th2.now = some s2 := by obtain ⟨s2, e, _⟩ := h4; exact ⟨s2, e⟩
    obtain ⟨s2, e2⟩ := h5
    rw [e2] at h4
    obtain ⟨o1, o2, o3⟩ := own_kind (I.pj k2 th2 s2 h1 e2) h4
    have no : ∀ (_ : Owns (some s) i), False := fun h6 => I.own k k2 th th2 i hth h1 hne2 (by rw [hnow]; exact h6) (by rw [e2]; exact h4)
    cases hC with
    | none _ q2 _ _ => exact no (q2 i h3)
    | own i0 _ _ _ _ _ q6 q7 _ _ =>
      obtain rfl := q7 i h3
      rcases q6 with q6 | q6
      · omega
      · exact no q6
    | hold i0 _ _ _ _ _ q6 _ _ _ _ => exact q6 i h3
    | rel i0 _ _ _ _ _ q6 _ _ => exact q6 i h3
  have now' : ∀ {o : Option P13} {i : Nat}, o = (if fin then none else some s') → Owns o i → Owns (some s') i := fun {o i} e h => by
    subst e
    cases fin with
    | true => obtain ⟨s2, e, _⟩ := h; simp at e
    | false => exact h
  have held0 : ∀ i, i < c → kindW (W g.M i) = 3 → ∃ (b : Nat) (z : Seen13), (g.all.set th.at_ x')[b]? = some z ∧ FinS z ∧ z.t.1.h = hdl i (genW (W g.M i)) ∧ z.t.1.st = stampW (W g.M i) ∧ g.all[b]? = some z := fun i hi h3 => by
    obtain ⟨b, z, z1, z2, z3, z4⟩ := I.held i hi h3
    exact ⟨b, z, (kp b z z1 (.inl z2)).1, z2, z3, z4, z1⟩
  -- the new entry, if it is told
  have newS : FinS x' → ∃ i gn, i < c ∧ gn < 1048575 ∧ x'.t.1.h = hdl i gn ∧ (kindW (W g.M i) = 1 ∨ kindW (W g.M i) = 2) ∧ gn = genW (W g.M i) ∧ genW (W M' i) = gn ∧ kindW (W M' i) = 3 ∧ stampW (W M' i) = x'.t.1.st := fun hf => by
    cases hC with
    | none _ _ q _ => exact absurd hf q
    | own _ _ _ _ _ _ _ _ q _ => exact absurd hf q
    | rel _ _ _ _ _ _ _ _ q => exact absurd hf q
    | hold i0 q1 q2 q3 q4 q5 q6 q7 q8 q9 q10 =>
      obtain ⟨o1, o2, o3⟩ := own_kind hJ0 q5
      exact ⟨i0, genW (W g.M i0), q1, o3, q7, o2, rfl, q3, q4, q8.symm⟩
  have newR : FinR x' → ∃ i, i < c ∧ nm g.all th.at_ = hdl i (genW (W g.M i)) ∧ kindW (W g.M i) = 3 ∧ genW (W M' i) = genW (W g.M i) + 1 := fun hf => by
    cases hC with
    | none _ _ _ q => exact absurd hf q
    | own _ _ _ _ _ _ _ _ _ q => exact absurd hf q
    | hold _ _ _ _ _ _ _ _ _ _ q => exact absurd hf q
    | rel i0 q1 q2 q3 q4 q5 q6 q7 q8 => exact ⟨i0, q1, q7, q3, q4⟩
  refine ⟨hl, hc2, ?_, ?_, ?_, ?_, ?_, ?_, ?_, ?_, ?_, ?_, ?_⟩
  · -- pj
    intro k2 th2 s2 h1 h2
    rcases lt k2 th2 h1 with ⟨rfl, rfl⟩ | ⟨e, h1⟩
    · cases fin with
      | true => cases h2
      | false => cases h2; exact hJ
    · exact pj_mono (I.pj k2 th2 s2 h1 h2) hc1 fun i ho => oth k2 th2 s2 i e h1 h2 ho
  · -- own
    intro k1 k2 th1 th2 i h1 h2 hne2 o1 o2
    rcases lt k1 th1 h1 with ⟨rfl, rfl⟩ | ⟨e1, h1⟩
    · rcases lt k2 th2 h2 with ⟨rfl, rfl⟩ | ⟨e2, h2⟩
      · exact hne2 rfl
      · exact ou k2 th2 i e2 h2 (now' rfl o1) o2
    · rcases lt k2 th2 h2 with ⟨rfl, rfl⟩ | ⟨e2, h2⟩
      · exact ou k1 th1 i e1 h1 (now' rfl o2) o1
      · exact I.own k1 k2 th1 th2 i h1 h2 hne2 o1 o2
  · -- gen
    intro i hi h0
    cases hC with
    | none q1 _ _ _ => simp only [q1 i hi] at h0 ⊢; exact I.gen i hi h0
    | own i0 q1 q2 q3 _ q5 _ _ _ _ =>
      by_cases e : i = i0
      · subst e; simp only [q3]; exact q5
      · simp only [q2 i hi e] at h0 ⊢; exact I.gen i hi h0
    | hold i0 q1 q2 q3 _ q5 _ _ _ _ _ =>
      by_cases e : i = i0
      · subst e; simp only [q3]; exact (own_kind hJ0 q5).2.2
      · simp only [q2 i hi e] at h0 ⊢; exact I.gen i hi h0
    | rel i0 q1 q2 _ _ q5 _ _ _ =>
      by_cases e : i = i0
      · subst e; exact absurd q5 h0
      · simp only [q2 i hi e] at h0 ⊢; exact I.gen i hi h0
  · -- held
    intro i hi h3
    have same : W M' i = W g.M i → ∃ (b : Nat) (z : Seen13), (g.all.set th.at_ x')[b]? = some z ∧ FinS z ∧ z.t.1.h = hdl i (genW (W M' i)) ∧ z.t.1.st = stampW (W M' i) := fun e => by
      rw [e] at h3 ⊢
      obtain ⟨b, z, z1, z2, z3, z4, _⟩ := held0 i hi h3
      exact ⟨b, z, z1, z2, z3, z4⟩
    cases hC with
    | none q1 _ _ _ => exact same (q1 i hi)
    | own i1 _ q2 _ q4 _ _ _ _ _ =>
      by_cases e : i = i1
      · subst e; exact absurd h3 q4
      · exact same (q2 i hi e)
    | rel i1 _ q2 _ _ q5 _ _ _ =>
      by_cases e : i = i1
      · subst e; simp only [q5] at h3; cases h3
      · exact same (q2 i hi e)
    | hold i1 q1 q2 q3 q4 q5 q6 q7 q8 q9 q10 =>
      by_cases e : i = i1
      · subst e
        exact ⟨th.at_, x', by rw [List.getElem?_set_self hal], q9, by rw [q3]; exact q7, q8⟩
      · exact same (q2 i hi e)
  · -- told
    intro b z h1 hf
    rcases lk b z h1 with ⟨rfl, rfl⟩ | ⟨e, h1⟩
    · obtain ⟨i, gn, n1, n2, n3, n4, n5, n6, n7, n8⟩ := newS hf
      obtain ⟨m1, m2⟩ := hxs hf
      exact ⟨i, gn, n1, n2, n3, m1, m2, .inr ⟨n6.symm, n7, n8⟩⟩
    · obtain ⟨i, gn, n1, n2, n3, n4, n5, n6⟩ := I.told b z h1 hf
      refine ⟨i, gn, n1, n2, n3, Nat.lt_of_lt_of_le n4 hc1, n5, ?_⟩
      have hge := chg_gen hC n1
      rcases n6 with n6 | ⟨n6, n7, n8⟩
      · exact .inl (by show gn < genW (W M' i); omega)
      · have same : W M' i = W g.M i → gn < genW (W M' i) ∨ gn = genW (W M' i) ∧ kindW (W M' i) = 3 ∧ stampW (W M' i) = z.t.1.st := fun e => by rw [e]; exact .inr ⟨n6, n7, n8⟩
        cases hC with
        | none q1 _ _ _ => exact same (q1 i n1)
        | own i1 _ q2 _ q4 _ q6 _ _ _ =>
          by_cases e : i = i1
          · subst e
            rcases q6 with q6 | q6
            · omega
            · have := (own_kind hJ0 q6).2.1; omega
          · exact same (q2 i n1 e)
        | rel i1 _ q2 _ q4 q5 _ _ _ =>
          by_cases e : i = i1
          · subst e; exact .inl (by show gn < genW (W M' i); omega)
          · exact same (q2 i n1 e)
        | hold i1 q1 q2 q3 q4 q5 q6 q7 q8 q9 q10 =>
          by_cases e : i = i1
          · subst e; have := (own_kind hJ0 q5).2.1; omega
          · exact same (q2 i n1 e)
  · -- tldu
    have key : ∀ (b : Nat) z, g.all[b]? = some z → FinS z → FinS x' → x'.t.1.h ≠ z.t.1.h := fun b z h1 hf hf' e => by
      obtain ⟨i, gn, n1, n2, n3, n4, n5, n6, n7, n8⟩ := newS hf'
      obtain ⟨i', gn', m1, m2, m3, m4, m5, m6⟩ := I.told b z h1 hf
      obtain ⟨rfl, rfl⟩ := hdl_inj (by omega) (by omega) (n3.symm.trans (e.trans m3))
      rcases m6 with m6 | ⟨m6, m7, _⟩ <;> omega
    intro b1 b2 z1 z2 h1 h2 hne2 f1 f2
    rcases lk b1 z1 h1 with ⟨rfl, rfl⟩ | ⟨e1, h1'⟩
    · rcases lk b2 z2 h2 with ⟨rfl, rfl⟩ | ⟨e2, h2⟩
      · exact absurd rfl hne2
      · exact key b2 z2 h2 f2 f1
    · rcases lk b2 z2 h2 with ⟨rfl, rfl⟩ | ⟨e2, h2⟩
      · exact fun e => key b1 z1 h1' f1 f2 e.symm
      · exact I.tldu b1 b2 z1 z2 h1' h2 hne2 f1 f2
  · -- rel
    intro b z h1 hf
    rw [nmq]
    rcases lk b z h1 with ⟨rfl, rfl⟩ | ⟨e, h1⟩
    · obtain ⟨i, n1, n2, n3, n4⟩ := newR hf
      obtain ⟨b2, z2, y1, y2, y3, y4, y5⟩ := held0 i n1 n3
      refine ⟨i, genW (W g.M i), n1, n2, by show _ < genW (W M' i); omega, b2, z2, y1, y2, y3.trans n2.symm, ?_⟩
      have hto : z.to = Int.ofNat j := by
        have h0 := hf.2.2.1
        rw [hx'] at h0 ⊢
        unfold Seen13.upd at h0 ⊢
        cases fin with
        | true => rfl
        | false =>
          simp only [Bool.false_eq_true, if_false, c3] at h0
          exact absurd h0 (by decide)
      rw [hto]
      have := (I.frm b2 z2 y5).1
      show (z2.from_ : Int) ≤ (j : Int)
      omega
    · obtain ⟨i, gn, n1, n2, n3, b2, z2, y1, y2, y3, y4⟩ := I.rel b z h1 hf
      have hge := chg_gen hC n1
      exact ⟨i, gn, n1, n2, by show gn < genW (W M' i); omega, b2, z2, (kp b2 z2 y1 (.inl y2)).1, y2, y3, y4⟩
  · -- relu
    have key : ∀ (b : Nat) z, g.all[b]? = some z → FinR z → FinR x' → nm g.all th.at_ ≠ nm g.all b := fun b z h1 hf hf' e => by
      obtain ⟨i, n1, n2, n3, n4⟩ := newR hf'
      obtain ⟨i', gn', m1, m2, m3, _⟩ := I.rel b z h1 hf
      obtain ⟨rfl, rfl⟩ := hdl_inj (by omega) (by omega) (n2.symm.trans (e.trans m2))
      omega
    intro b1 b2 z1 z2 h1 h2 hne2 f1 f2
    rw [nmq, nmq]
    rcases lk b1 z1 h1 with ⟨rfl, rfl⟩ | ⟨e1, h1'⟩
    · rcases lk b2 z2 h2 with ⟨rfl, rfl⟩ | ⟨e2, h2⟩
      · exact absurd rfl hne2
      · exact key b2 z2 h2 f2 f1
    · rcases lk b2 z2 h2 with ⟨rfl, rfl⟩ | ⟨e2, h2⟩
      · exact fun e => key b1 z1 h1' f1 f2 e.symm
      · exact I.relu b1 b2 z1 z2 h1' h2 hne2 f1 f2
  · -- lst
    intro k2 th2 h1
    rcases lt k2 th2 h1 with ⟨rfl, rfl⟩ | ⟨e, h1⟩
    · have h2 := I.lst k th hth
      rw [filt_last hx c1 c6] at h2
      rw [filt_set hx hxth c6]
      rw [List.map_append] at h2 ⊢
      show (th.told.set (th.told.length - 1) (s'.told, fin)).map (fun t => t.1.h) = _
      obtain ⟨l, u, hlu⟩ : ∃ l u, th.told = l ++ [u] := ⟨_, _, (List.dropLast_concat_getLast hne).symm⟩
      rw [hlu] at h2 ⊢
      rw [List.map_append] at h2
      have h3 := List.append_inj_left' h2 (by simp)
      rw [List.length_append, show l.length + [u].length - 1 = l.length from by simp, List.set_append_right _ _ (Nat.le_refl _), Nat.sub_self, List.map_append, h3]
      congr 1
      rw [hx']
      rfl
    · rw [filt_oth hx (by rw [c1]; exact e) (by rw [hxth]; exact e)]
      exact I.lst k2 th2 h1
  · -- cur
    intro k2 th2 s2 h1 h2
    rcases lt k2 th2 h1 with ⟨rfl, rfl⟩ | ⟨e, h1⟩
    · cases fin with
      | true => cases h2
      | false =>
        cases h2
        refine ⟨x', by rw [List.getElem?_set_self hal], hxth, by rw [hxca, hk]; exact c2, by rw [hx']; exact c3, by rw [hx']; rfl, by rw [nmq, hlt]; exact c5, fun b z h3 h4 => ?_⟩
        rcases lk b z h3 with ⟨rfl, _⟩ | ⟨_, h3⟩
        · exact Nat.le_refl _
        · exact c6 b z h3 h4
    · obtain ⟨z, d1, d2, d3, d4, d5, d6, d7⟩ := I.cur k2 th2 s2 h1 h2
      have e2 : th.at_ ≠ th2.at_ := fun q => by
        rw [q, d1] at hx
        cases hx
        exact e (c1.symm.trans d2)
      refine ⟨z, by rw [List.getElem?_set_ne e2]; exact d1, d2, d3, d4, d5, by rw [nmq]; exact d6, fun b y h3 h4 => ?_⟩
      rcases lk b y h3 with ⟨rfl, rfl⟩ | ⟨_, h3⟩
      · exact absurd (hxth.symm.trans h4) e
      · exact d7 b y h3 h4
  · -- frm
    intro b z h1
    rcases lk b z h1 with ⟨rfl, rfl⟩ | ⟨_, h1⟩
    · obtain ⟨f1, f2⟩ := I.frm th.at_ x hx
      refine ⟨by rw [hxfr]; exact f1, ?_⟩
      rw [hx']
      unfold Seen13.upd
      cases fin with
      | true => show (Int.ofNat j) < _; exact Int.ofNat_lt.2 (Nat.lt_succ_self j)
      | false => exact f2
    · exact I.frm b z h1
end Go.Proofs.YtmjiaahpjjnloaaGreat

set_option linter.unusedVariables false
set_option linter.unusedSimpArgs false
namespace Go.Proofs.YtmjiaahpjjnloaaGreat
open Go Go.CM
theorem upd_to {x : Seen13} {t : T13} {fin : Bool} {j : Nat} (h : x.to = Int.negSucc 0) (h0 : 0 ≤ (x.upd (t, fin) j).to) : fin = true := by
  cases fin with
  | true => rfl
  | false =>
    have : (x.upd (t, false) j).to = x.to := rfl
    rw [this, h] at h0
    exact absurd h0 (by decide)
theorem inv_step {c most : Nat} (hc1 : 1 ≤ c) (hc2 : c ≤ 256) (hm : most ≤ 1099511627776) {g : R13} {j k : Nat} (I : Inv c most g (j + 1)) {th : Th13} {s : P13} (hth : g.ths[k]? = some th) (hnow : th.now = some s) (hok : s.Ok) (hne : th.told ≠ []) :
    Inv c most (g.go j k s th.told th.at_ g.all) (j + 1) := by
  obtain ⟨x, hx, c1, c2, c3, c4, c5, c6⟩ := I.cur k th s hth hnow
  have J := I.pj k th s hth hnow
  have e : g.go j k s th.told th.at_ g.all = { M := (s.step g.M (Int.ofNat k)).2, ths := g.ths.set k ⟨th.told.set (th.told.length - 1) ((s.step g.M (Int.ofNat k)).1.told, (s.step g.M (Int.ofNat k)).1.fin), if (s.step g.M (Int.ofNat k)).1.fin then none else some (s.step g.M (Int.ofNat k)).1, th.at_⟩, all := g.all.set th.at_ (x.upd ((s.step g.M (Int.ofNat k)).1.told, (s.step g.M (Int.ofNat k)).1.fin) j) } := by
    simp only [R13.go, seenUpd, hx]
  rw [e]
  clear e
  have ck : ∀ (t : T13 × Bool), (x.upd t j).call.kind = s.kind := fun t => c2
  cases h0 : s.isS with
  | true =>
    have hk0 : s.kind = 0 := p13_isS h0
    obtain ⟨J', eff⟩ := snap_eff hc1 hc2 hm I.len I.cam (hok.sn h0) (J.sn h0) (Int.ofNat k)
    have hat := (hok.sn h0).1
    rw [p13_stepS h0]
    dsimp only
    generalize hs' : (s.sn.step g.M (Int.ofNat k)).1 = sn' at *
    generalize hM' : (s.sn.step g.M (Int.ofNat k)).2 = M' at *
    have i0 : P13.isS { s with sn := sn' } = true := h0
    have hfin := p13_finS i0
    have htold := p13_toldS i0
    have noR : ∀ t, ¬ FinR (x.upd t j) := fun t h => h.1 ((ck t).trans hk0)
    have PJ' : PJ c most M' { s with sn := sn' } := ⟨fun _ => J', fun q => by rw [i0] at q; cases q⟩
    have f8 : P13.fin { s with sn := sn' } = true → sn'.at_ = 8 := fun h => by
      rw [hfin] at h
      by_cases q : sn'.at_ = 8
      · exact q
      · rw [eqZ_f q] at h; cases h
    have ow : ∀ i, Owns (some { s with sn := sn' }) i → 2 ≤ sn'.at_ ∧ sn'.at_ ≤ 7 ∧ sn'.i = i := fun i ⟨s2, e, q1, q2, q3, q4⟩ => by cases e; exact ⟨q2, q3, q4⟩
    have noS : sn'.err ≠ 0 ∨ sn'.at_ ≠ 8 → ¬ FinS (x.upd (P13.told { s with sn := sn' }, P13.fin { s with sn := sn' }) j) := fun hq hf => by
      have h1 := f8 (upd_to c3 hf.2.1)
      have h2 : (P13.told { s with sn := sn' }).er = 0 := hf.2.2
      rw [htold] at h2
      rcases hq with hq | hq
      · exact hq h2
      · exact hq h1
    rcases eff with ⟨E, o1, o2⟩ | ⟨E, K⟩
    · have nS := noS (if q : sn'.at_ = 8 then .inl (o2 q) else .inr q)
      exact inv_core hc2 I hth hnow E.len E.cam E.camM PJ' rfl rfl hx rfl (fun h => absurd h nS)
        (.none (fun i hi => E.oth i hi (by simp)) (fun i ho => by obtain ⟨w1, w2, w3⟩ := ow i ho; obtain ⟨v1, v2⟩ := o1 w1 w2; exact ⟨s, rfl, h0, v1, by omega, by omega⟩) nS (noR _)) hne
    · have hic := (J.sn h0).i0 (by omega)
      have ot : ∀ i', i' < c → i' ≠ s.sn.i → W M' i' = W g.M i' := fun i' h1 h2 => E.oth i' h1 (by intro q; cases q; exact h2 rfl)
      have own : 2 ≤ s.sn.at_ → Owns (some s) s.sn.i := fun h => ⟨s, rfl, h0, h, by omega, rfl⟩
      cases K with
      | claim k1 k2 k3 k4 k5 k6 k7 =>
        have nS := noS (.inr (by omega))
        exact inv_core hc2 I hth hnow E.len E.cam E.camM PJ' rfl rfl hx rfl (fun h => absurd h nS)
          (.own s.sn.i hic ot k3 (by omega) k5 (.inl k2) (fun i' ho => by have := (ow i' ho).2.2; omega) nS (noR _)) hne
      | ann k1 k2 k3 k4 k5 =>
        have nS := noS (.inr (by omega))
        exact inv_core hc2 I hth hnow E.len E.cam E.camM PJ' rfl rfl hx rfl (fun h => absurd h nS)
          (.own s.sn.i hic ot k2 (by omega) (own_kind J (own (by omega))).2.2 (.inr (own (by omega))) (fun i' ho => by have := (ow i' ho).2.2; omega) nS (noR _)) hne
      | give k1 k2 k3 k4 k5 =>
        have nS := noS (.inl k5)
        exact inv_core hc2 I hth hnow E.len E.cam E.camM PJ' rfl rfl hx rfl (fun h => absurd h nS)
          (.own s.sn.i hic ot k2 (by omega) (own_kind J (own (by omega))).2.2 (.inr (own (by omega))) (fun i' ho => by have := (ow i' ho).2.1; omega) nS (noR _)) hne
      | hold k1 k2 k3 k4 k5 k6 k7 k8 k9 k10 =>
        obtain ⟨a1, a2, a3⟩ := (J.sn h0).a5 (.inr k1)
        have a4 := (J.sn h0).a6 k1
        obtain ⟨w1, w2, w3⟩ := (J.sn h0).own (by omega) (by omega)
        have hf : P13.fin { s with sn := sn' } = true := by rw [hfin]; exact eqZ_t k5
        have hh : (P13.told { s with sn := sn' }).h = hdl s.sn.i (genW (W g.M s.sn.i)) := by
          rw [htold]
          show sn'.handle = _
          unfold SnapS.handle
          rw [if_pos k6, k7, k8, w2]; rfl
        have hst : (P13.told { s with sn := sn' }).st = s.sn.t := by
          rw [htold]
          show sn'.stamp = _
          unfold SnapS.stamp
          rw [if_pos k6, k9]
        have fS : FinS (x.upd (P13.told { s with sn := sn' }, P13.fin { s with sn := sn' }) j) := by
          refine ⟨(ck _).trans hk0, ?_, by show (P13.told { s with sn := sn' }).er = 0; rw [htold]; exact k10⟩
          rw [hf]
          exact Int.natCast_nonneg j
        exact inv_core hc2 I hth hnow E.len E.cam E.camM PJ' rfl rfl hx rfl (fun _ => ⟨by show (P13.told { s with sn := sn' }).st < _; rw [hst]; have := E.cam; omega, by show (P13.told { s with sn := sn' }).st < _; rw [hst]; exact a2⟩)
          (.hold s.sn.i hic ot k2 k3 (own (by omega)) (fun i' ho => by have := (ow i' ho).2.1; omega) hh (hst.trans k4.symm) fS (noR _)) hne
  | false =>
    have nO : ∀ (s2 : P13) i, s2.isS = false → ¬ Owns (some s2) i := fun s2 i h ⟨s3, e, q1, _⟩ => by cases e; rw [h] at q1; cases q1
    have hk0 : s.kind ≠ 0 := fun q => by
      have : s.isS = true := decide_eq_true q
      rw [h0] at this; cases this
    have noS : ∀ t, ¬ FinS (x.upd t j) := fun t h => hk0 ((ck t).symm.trans h.1)
    cases h2 : s.isN with
    | true =>
      have hk2 : s.kind = 2 := p13_isN h2
      have noR : ∀ t, ¬ FinR (x.upd t j) := fun t h => h.2.1 ((ck t).trans hk2)
      rw [p13_stepN h0 h2]
      dsimp only
      have hE : Eff c most g.M (s.sc.step g.M (Int.ofNat k)).2 none := by
        unfold ScanS.step
        split
        · exact .same I.len I.cam fun a => rfl
        · exact .same I.len I.cam fun a => rfl
      exact inv_core hc2 I hth hnow hE.len hE.cam hE.camM ⟨fun q => (by rw [show P13.isS { s with sc := (s.sc.step g.M (Int.ofNat k)).1 } = false from h0] at q; cases q), fun _ q => by rw [show P13.isN { s with sc := (s.sc.step g.M (Int.ofNat k)).1 } = true from h2] at q; cases q⟩ rfl rfl hx rfl (fun h => absurd h (noS _))
        (.none (fun i hi => hE.oth i hi (by simp)) (fun i ho => absurd ho (nO _ i h0)) (noS _) (noR _)) hne
    | false =>
      obtain ⟨J', hh, eff⟩ := let_eff hc1 hc2 I.len I.cam (hok.lt h0 h2).1 (J.lt h0 h2) I.gen (Int.ofNat k)
      rw [p13_stepL h0 h2]
      dsimp only
      generalize (s.lt.step g.M (Int.ofNat k)).1 = lt' at *
      generalize (s.lt.step g.M (Int.ofNat k)).2 = M' at *
      have i0 : P13.isS { s with lt := lt' } = false := h0
      have i2 : P13.isN { s with lt := lt' } = false := h2
      have hfin := p13_finL i0 i2
      have htold := p13_toldL i0 i2
      have PJ' : PJ c most M' { s with lt := lt' } := ⟨fun q => (by rw [i0] at q; cases q), fun _ _ => J'⟩
      rcases eff with ⟨E, o1⟩ | ⟨r1, r2, E, r3, r4, r5, r6, r7⟩
      · have noR : ¬ FinR (x.upd (P13.told { s with lt := lt' }, P13.fin { s with lt := lt' }) j) := fun h => by
          have h1 := upd_to c3 h.2.2.1
          have h3 : (P13.told { s with lt := lt' }).er = 0 := h.2.2.2
          rw [htold] at h3
          rw [hfin] at h1
          by_cases q : lt'.at_ = 2
          · exact o1 q h3
          · rw [eqZ_f q] at h1; cases h1
        exact inv_core hc2 I hth hnow E.len E.cam E.camM PJ' rfl hh hx rfl (fun h => absurd h (noS _))
          (.none (fun i hi => E.oth i hi (by simp)) (fun i ho => absurd ho (nO _ i i0)) (noS _) noR) hne
      · exact inv_core hc2 I hth hnow E.len E.cam E.camM PJ' rfl hh hx rfl (fun h => absurd h (noS _))
          (.rel (s.lt.h % 65536 - 1) r2 (fun i' h1 h3 => E.oth i' h1 (by intro q; cases q; exact h3 rfl)) r3 (by rw [r6, r4]) r5 (fun i' => nO _ i' i0) (by rw [← c5, r4]; exact hdl_of r1) (noS _)) hne
end Go.Proofs.YtmjiaahpjjnloaaGreat

set_option linter.unusedVariables false
set_option linter.unusedSimpArgs false
namespace Go.Proofs.YtmjiaahpjjnloaaGreat
open Go Go.CM
theorem inv_mono {c most : Nat} {g : R13} {j : Nat} (I : Inv c most g j) : Inv c most g (j + 1) :=
  ⟨I.len, I.cam, I.pj, I.own, I.gen, I.held, I.told, I.tldu, I.rel, I.relu, I.lst, I.cur, fun a x h => ⟨Nat.lt_succ_of_lt (I.frm a x h).1, by have := (I.frm a x h).2; omega⟩⟩
theorem inv_begin {c most : Nat} (hc1 : 1 ≤ c) {g : R13} {j k : Nat} (I : Inv c most g (j + 1)) {th : Th13} {cl : C13} (hth : g.ths[k]? = some th) (hnow : th.now = none) :
    Inv c most { M := g.M, ths := g.ths.set k ⟨th.told ++ [(z13T, false)], some (P13.fresh (slO c most) cl.kind (bh cl.kind cl.h (th.told.map fun x => x.1.h))), g.all.length⟩, all := g.all ++ [⟨(z13T, false), j, Int.negSucc 0, k, cl⟩] } (j + 1) := by
  have hkl : k < g.ths.length := (List.getElem?_eq_some_iff.1 hth).1
  have noS : ¬ FinS ⟨(z13T, false), j, Int.negSucc 0, k, cl⟩ := fun h => absurd (show (0 : Int) ≤ Int.negSucc 0 from h.2.1) (by decide)
  have noR : ¬ FinR ⟨(z13T, false), j, Int.negSucc 0, k, cl⟩ := fun h => absurd (show (0 : Int) ≤ Int.negSucc 0 from h.2.2.1) (by decide)
  have noO : ∀ i, ¬ Owns (some (P13.fresh (slO c most) cl.kind (bh cl.kind cl.h (th.told.map fun x => x.1.h)))) i := fun i ⟨s, e, q1, q2, _⟩ => by
    cases e
    exact absurd q2 (by show ¬ 2 ≤ 0; omega)
  have lk : ∀ (b : Nat) z, (g.all ++ [(⟨(z13T, false), j, Int.negSucc 0, k, cl⟩ : Seen13)])[b]? = some z → (g.all[b]? = some z ∧ b < g.all.length) ∨ (b = g.all.length ∧ z = ⟨(z13T, false), j, Int.negSucc 0, k, cl⟩) := fun b z h => by
    by_cases hb : b < g.all.length
    · rw [List.getElem?_append_left hb] at h
      exact .inl ⟨h, hb⟩
    · rw [List.getElem?_append_right (by omega)] at h
      cases e : b - g.all.length with
      | zero => rw [e] at h; cases h; exact .inr ⟨by omega, rfl⟩
      | succ n => rw [e] at h; simp at h
  have kp : ∀ (b : Nat) z, g.all[b]? = some z → (g.all ++ [(⟨(z13T, false), j, Int.negSucc 0, k, cl⟩ : Seen13)])[b]? = some z := fun b z h => by
    rw [List.getElem?_append_left (List.getElem?_eq_some_iff.1 h).1]; exact h
  have lt : ∀ (k2 : Nat) th2, (g.ths.set k ⟨th.told ++ [(z13T, false)], some (P13.fresh (slO c most) cl.kind (bh cl.kind cl.h (th.told.map fun x => x.1.h))), g.all.length⟩)[k2]? = some th2 → (k = k2 ∧ th2 = ⟨th.told ++ [(z13T, false)], some (P13.fresh (slO c most) cl.kind (bh cl.kind cl.h (th.told.map fun x => x.1.h))), g.all.length⟩) ∨ (k ≠ k2 ∧ g.ths[k2]? = some th2) := fun k2 th2 h => by
    rw [List.getElem?_set] at h
    by_cases e : k = k2
    · rw [if_pos e, if_pos hkl] at h; cases h; exact .inl ⟨e, rfl⟩
    · rw [if_neg e] at h; exact .inr ⟨e, h⟩
  refine ⟨I.len, I.cam, ?_, ?_, I.gen, ?_, ?_, ?_, ?_, ?_, ?_, ?_, ?_⟩
  · intro k2 th2 s2 h1 h2
    rcases lt k2 th2 h1 with ⟨rfl, rfl⟩ | ⟨e, h1⟩
    · cases h2
      exact ⟨fun _ => sn0 rfl rfl (by show 0 < c; omega), fun _ _ => ⟨rfl, fun _ => rfl, fun q => by cases q⟩⟩
    · exact I.pj k2 th2 s2 h1 h2
  · intro k1 k2 th1 th2 i h1 h2 hne o1 o2
    rcases lt k1 th1 h1 with ⟨rfl, rfl⟩ | ⟨e1, h1⟩
    · exact noO i o1
    · rcases lt k2 th2 h2 with ⟨rfl, rfl⟩ | ⟨e2, h2⟩
      · exact noO i o2
      · exact I.own k1 k2 th1 th2 i h1 h2 hne o1 o2
  · intro i hi h3
    obtain ⟨b, z, z1, z2⟩ := I.held i hi h3
    exact ⟨b, z, kp b z z1, z2⟩
  · intro b z h1 hf
    rcases lk b z h1 with ⟨h1, _⟩ | ⟨_, rfl⟩
    · exact I.told b z h1 hf
    · exact absurd hf noS
  · intro b1 b2 z1 z2 h1 h2 hne f1 f2
    rcases lk b1 z1 h1 with ⟨h1', _⟩ | ⟨_, rfl⟩
    · rcases lk b2 z2 h2 with ⟨h2', _⟩ | ⟨_, rfl⟩
      · exact I.tldu b1 b2 z1 z2 h1' h2' hne f1 f2
      · exact absurd f2 noS
    · exact absurd f1 noS
  · intro b z h1 hf
    rcases lk b z h1 with ⟨h1', hb⟩ | ⟨_, rfl⟩
    · show ∃ i gn, i < c ∧ nm (g.all ++ _) b = hdl i gn ∧ _
      rw [nm_snoc hb]
      obtain ⟨i, gn, n1, n2, n3, b2, z2, y1, y2⟩ := I.rel b z h1' hf
      exact ⟨i, gn, n1, n2, n3, b2, z2, kp b2 z2 y1, y2⟩
    · exact absurd hf noR
  · intro b1 b2 z1 z2 h1 h2 hne f1 f2
    rcases lk b1 z1 h1 with ⟨h1', hb1⟩ | ⟨_, rfl⟩
    · rcases lk b2 z2 h2 with ⟨h2', hb2⟩ | ⟨_, rfl⟩
      · show nm (g.all ++ _) b1 ≠ nm (g.all ++ _) b2
        rw [nm_snoc hb1, nm_snoc hb2]
        exact I.relu b1 b2 z1 z2 h1' h2' hne f1 f2
      · exact absurd f2 noR
    · exact absurd f1 noR
  · intro k2 th2 h1
    rcases lt k2 th2 h1 with ⟨rfl, rfl⟩ | ⟨e, h1⟩
    · show (th.told ++ [(z13T, false)]).map (fun t => t.1.h) = ((g.all ++ [_]).filter _).map _
      rw [List.filter_append, List.map_append, List.map_append, I.lst k th hth]
      simp
    · show th2.told.map (fun t => t.1.h) = ((g.all ++ [_]).filter _).map _
      rw [List.filter_append, List.map_append, I.lst k2 th2 h1]
      simp [e]
  · intro k2 th2 s2 h1 h2
    rcases lt k2 th2 h1 with ⟨rfl, rfl⟩ | ⟨e, h1⟩
    · cases h2
      refine ⟨⟨(z13T, false), j, Int.negSucc 0, k, cl⟩, by rw [List.getElem?_append_right (Nat.le_refl _)]; simp, rfl, rfl, rfl, ?_, ?_, fun b y h3 h4 => ?_⟩
      · show z13T = P13.told _
        unfold P13.told
        cases (P13.fresh (slO c most) cl.kind (bh cl.kind cl.h (th.told.map fun x => x.1.h))).isS with
        | true => rfl
        | false => cases (P13.fresh (slO c most) cl.kind (bh cl.kind cl.h (th.told.map fun x => x.1.h))).isN <;> rfl
      · rw [nm_last]
        show bh cl.kind cl.h (th.told.map fun x => x.1.h) = bh cl.kind cl.h _
        rw [I.lst k th hth]
      · rcases lk b y h3 with ⟨_, hb⟩ | ⟨hb, _⟩
        · show b ≤ g.all.length; omega
        · show b ≤ g.all.length; omega
    · obtain ⟨z, d1, d2, d3, d4, d5, d6, d7⟩ := I.cur k2 th2 s2 h1 h2
      refine ⟨z, kp _ z d1, d2, d3, d4, d5, ?_, fun b y h3 h4 => ?_⟩
      · show s2.lt.h = nm (g.all ++ _) th2.at_
        rw [nm_snoc (List.getElem?_eq_some_iff.1 d1).1]; exact d6
      · rcases lk b y h3 with ⟨h3', _⟩ | ⟨_, rfl⟩
        · exact d7 b y h3' h4
        · exact absurd h4 e
  · intro b z h1
    rcases lk b z h1 with ⟨h1', _⟩ | ⟨_, rfl⟩
    · exact I.frm b z h1'
    · refine ⟨Nat.lt_succ_self j, ?_⟩
      show (Int.negSucc 0) < ((j + 1 : Nat) : Int)
      have : Int.negSucc 0 < 0 := Int.negSucc_lt_zero 0
      omega
theorem inv_pick {c most : Nat} (hc1 : 1 ≤ c) (hc2 : c ≤ 256) (hm : most ≤ 1099511627776) {calls : List (List C13)} (hc : Calls64 calls) {g : R13} {j : Nat} (W : WF13 calls g) (I : Inv c most g j) (t : Int) : Inv c most (g.pick (slO c most) calls j t) (j + 1) := by
  refine pick_cases (slO c most) calls g j t (fun g' => Inv c most g' (j + 1)) (inv_mono I) (fun k cs th s _ hk ht hs => ?_) (fun k cs th cl _ hk ht hs ec => ?_)
  · obtain ⟨q1, q2, q3⟩ := W.th k cs th hk ht
    obtain ⟨u1, u2, u3, u4⟩ := q3 s hs
    exact inv_step hc1 hc2 hm (inv_mono I) ht hs u1 u3
  · obtain ⟨f1, f2, f3⟩ := wf_fresh hc W hk ht ec (slO c most)
    have hb := inv_begin (cl := cl) hc1 (inv_mono I) ht hs
    have hkl : k < g.ths.length := (List.getElem?_eq_some_iff.1 ht).1
    have h := inv_step hc1 hc2 hm hb (k := k) (th := ⟨th.told ++ [(z13T, false)], some (P13.fresh (slO c most) cl.kind (bh cl.kind cl.h (th.told.map fun x => x.1.h))), g.all.length⟩) (by show (g.ths.set k _)[k]? = _; exact List.getElem?_set_self hkl) rfl f1 (by simp)
    simp only [R13.go, List.set_set] at h ⊢
    exact h
theorem inv_at {c most : Nat} (hc1 : 1 ≤ c) (hc2 : c ≤ 256) (hm : most ≤ 1099511627776) {calls : List (List C13)} (hc : Calls64 calls) {picks : List Int} {g : R13} (W : WF13 calls g) (I : Inv c most g 0) : ∀ j, Inv c most (r13At (slO c most) calls picks g j) j
  | 0 => I
  | j + 1 => by
    have ih := inv_at hc1 hc2 hm hc (picks := picks) W I j
    show Inv c most (match picks[j]? with | some t => (r13At (slO c most) calls picks g j).pick (slO c most) calls j t | none => r13At (slO c most) calls picks g j) (j + 1)
    split
    · exact inv_pick hc1 hc2 hm hc (r13At_wf hc W j) ih _
    · exact inv_mono ih
theorem ovN_lo : ∀ (v cs : List Nat) (o b : Nat), b < o → (ovN v cs o)[b]? = cs[b]?
  | [], cs, o, b, h => rfl
  | x :: r, cs, o, b, h => by
    show (ovN r (cs.set o x) (o + 1))[b]? = _
    rw [ovN_lo r _ _ b (by omega), List.getElem?_set_ne (by omega)]
theorem ovN_zero : ∀ (n : Nat) (cs : List Nat) (o b : Nat), cs.getD b 0 = 0 → (ovN (List.replicate n 0) cs o).getD b 0 = 0
  | 0, cs, o, b, h => h
  | n + 1, cs, o, b, h => by
    show (ovN (List.replicate n 0) (cs.set o 0) (o + 1)).getD b 0 = 0
    refine ovN_zero n _ _ b ?_
    rw [List.getD_eq_getElem?_getD] at h ⊢
    rw [List.getElem?_set]
    by_cases e : o = b
    · subst e
      by_cases h2 : o < cs.length
      · simp [h2]
      · simp [h2]
    · rw [if_neg e]; exact h
theorem mem13_cells {n : Nat} (h : 2 ≤ n) (th : Int) : ((mem0 n).alloc th [1]).cells = (List.replicate n 0).set 1 1 := by
  rw [alloc_t (M := mem0 n) (vals := [1]) (by simp) (by simp [mem0]; omega)]
  rfl
theorem inv0 {c most : Nat} (hc1 : 1 ≤ c) (hc2 : c ≤ 256) (hm : 1 ≤ most) (calls : List (List C13)) : Inv c most (g13 (mem13.alloc (Int.negSucc 0) (List.replicate c 0)) calls) 0 := by
  have hcells : (mem13.alloc (Int.negSucc 0) (List.replicate c 0)).cells = ovN (List.replicate c 0) ((List.replicate 4096 0).set 1 1) 2 := by
    rw [alloc_t (by simp; omega) (by rw [mem13_len, mem13_free]; simp; omega)]
    show ovN (List.replicate c 0) mem13.cells mem13.free = _
    rw [mem13_free, show mem13.cells = (List.replicate 4096 0).set 1 1 from mem13_cells (n := 4096) (by omega) _]
  have hlen : (mem13.alloc (Int.negSucc 0) (List.replicate c 0)).cells.length = 4096 := by
    rw [hcells, ovN_len, List.length_set, List.length_replicate]
  have hp1 : (mem13.alloc (Int.negSucc 0) (List.replicate c 0)).peek 1 = 1 := by
    unfold Mem.peek
    rw [hcells, List.getD_eq_getElem?_getD, ovN_lo _ _ _ 1 (by omega), List.getElem?_set_self (by rw [List.length_replicate]; omega)]
    rfl
  have hW : ∀ i, W (mem13.alloc (Int.negSucc 0) (List.replicate c 0)) i = 0 := fun i => by
    unfold W Mem.peek
    rw [hcells]
    refine ovN_zero _ _ _ _ ?_
    rw [List.getD_eq_getElem?_getD, List.getElem?_set_ne (by omega), List.getElem?_replicate]
    split <;> rfl
  have hn : ∀ (k : Nat) th, (g13 (mem13.alloc (Int.negSucc 0) (List.replicate c 0)) calls).ths[k]? = some th → th = th0 := fun k th h => by
    simp only [g13, List.getElem?_replicate] at h
    split at h
    · cases h; rfl
    · cases h
  have ha : ∀ (b : Nat) z, (g13 (mem13.alloc (Int.negSucc 0) (List.replicate c 0)) calls).all[b]? = some z → False := fun b z h => by
    have : ([] : List Seen13)[b]? = some z := h
    simp at this
  refine ⟨hlen, (by show (mem13.alloc _ _).peek 1 ≤ most; rw [hp1]; exact hm), fun k th s h1 h2 => (by rw [hn k th h1] at h2; cases h2), fun k k' th th' i h1 _ _ ⟨s, e, _⟩ => (by rw [hn k th h1] at e; cases e), fun i hi h => ?_, fun i hi h => ?_, fun b z h => (ha b z h).elim, fun b _ z _ h => (ha b z h).elim, fun b z h => (ha b z h).elim, fun b _ z _ h => (ha b z h).elim, fun k th h => (by rw [hn k th h]; rfl), fun k th s h1 h2 => (by rw [hn k th h1] at h2; cases h2), fun b z h => (ha b z h).elim⟩
  · exact absurd (show kindW (W (mem13.alloc (Int.negSucc 0) (List.replicate c 0)) i) = 0 by rw [hW]; rfl) h
  · have : kindW (W (mem13.alloc (Int.negSucc 0) (List.replicate c 0)) i) = 3 := h
    rw [hW] at this
    cases this
end Go.Proofs.YtmjiaahpjjnloaaGreat

set_option linter.unusedVariables false
set_option linter.unusedSimpArgs false
namespace Go.Proofs.YtmjiaahpjjnloaaGreat
open Go Go.CM
theorem getD_filter {α : Type} {p : α → Bool} {l : List α} {k : Nat} {x : α} (hx : l[k]? = some x) (hp : p x = true) : (l.filter p)[((l.take k).filter p).length]? = some x := by
  conv => lhs; arg 1; rw [split_at' hx]
  rw [List.filter_append, List.filter_cons_of_pos hp, List.getElem?_append_right (Nat.le_refl _), Nat.sub_self]
  rfl
theorem nm_one {all : List Seen13} {i : Nat} {x : Seen13} (hx : all[i]? = some x) (hk : x.call.kind = 1) : nm all i = x.call.h := by
  unfold nm
  rw [hx]
  simp only [hk]
  rfl
theorem nm_oth {all : List Seen13} {i : Nat} {x : Seen13} (hx : all[i]? = some x) (h0 : x.call.kind ≠ 0) (h1 : x.call.kind ≠ 1) (h2 : x.call.kind ≠ 2) : nm all i = (((all.take i).filter fun y => decide (y.th = x.th)).map fun y => y.t.1.h).getD x.call.h 0 := by
  have q : (ltZ x.call.kind (Int.ofNat 0) || ltZ (Int.ofNat 2) x.call.kind) = true := by
    rcases (by omega : x.call.kind < 0 ∨ 2 < x.call.kind) with h | h
    · rw [show ltZ x.call.kind (Int.ofNat 0) = true from decide_eq_true h]; rfl
    · rw [show ltZ (Int.ofNat 2) x.call.kind = true from decide_eq_true h]; simp
  unfold nm bh
  rw [hx]
  simp only [q, if_true]
theorem rd {va : Value} {rowsA : List (List Value)} {all : List Seen13} {pool : Pool} {R : List HP} {H : CH} (hra : Rows2 (RowS pool) all rowsA) (h : Sat (Vec va 47 11 rowsA :: R) H) {i : Nat} {x : Seen13} (hx : all[i]? = some x) : ∃ bv, va = slc bv 0 all.length all.length ∧ ∀ (off j : Nat) (v : Value) (K : Value → Prop), off = i * 11 + j → j < 11 → (∀ w, (sRow x w)[j]? = some v) → K v → Ld H bv off K := by
  obtain ⟨r, hr, w, _, er, _⟩ := hra.at hx
  obtain ⟨bv, ev, _⟩ := (h.has Has.vec).slot hr
  rw [hra.1] at ev
  exact ⟨bv, ev, fun off j v K ho hj hv k => ldVec h Has.vec ev hr ho hj (by rw [er]; exact hv w) k⟩
attribute [local irreducible] AsBool AsWant AsNat AsInt AsCnt AsPtr AsSlc AsLen AsStr AsAgg AsTup AsFn AsIfc Nth Sc NotNil IsNil Must Cd codeW funW Sat SatL wrapN subM mkRow ltZ leZ ltN leN
variable {con : CallT}
set_option maxRecDepth 100000 in
theorem l13named_ok (hc : Con con lives) {R : List HP} {H : CH} {va : Value} {rowsA : List (List Value)} {all : List Seen13} {pool : Pool} {i : Nat} {x : Seen13} {K : KP} (hra : Rows2 (RowS pool) all rowsA) (h : Sat (Vec va 47 11 rowsA :: R) H) (hle : all.length ≤ 1048576) (hx : all[i]? = some x) (h0 : x.call.kind ≠ 0) (h2 : x.call.kind ≠ 2)
    (k : ∀ H1, Sat (Vec va 47 11 rowsA :: R) H1 → K (u64 (nm all i)) H1) : Call1 Tryz.prog con 78 [va, iN i] H K := by
  refine call_of (hc _ _ _ rfl) ?_
  have hi := (List.getElem?_eq_some_iff.1 hx).1
  obtain ⟨bv, ev, hld⟩ := rd hra h hx
  rw [l13named_W]
  refine AsSlc.eq ev ?_
  repeat (refine gO ?_; intros)
  refine Must.mk (ltN_t hi) ?_
  refine hld _ 9 _ _ (by show 0 + i * 11 + 9 + 0 = _; omega) (by omega) (fun w => rfl) ?_
  refine hld _ 10 _ _ (by show 0 + i * 11 + 9 + 1 = _; omega) (by omega) (fun w => rfl) ?_
  refine na fun p8 H9 h9 => ?_
  refine stN (by assumption) (Nat.le_of_ble_eq_true rfl) rfl fun H10 h10 => ?_
  repeat (refine gO ?_; intros)
  have hv : Sat (Vec va 47 11 rowsA :: _) H10 := h10.pull pp
  by_cases hk1 : x.call.kind = 1
  · refine Cd.t (eqZ_int.2 hk1) ?_
    repeat (refine gO ?_; intros)
    have q := k H10 (h10.ent ee)
    rw [nm_one hx hk1] at q
    exact q
  · refine Cd.f (by cases e : eqZ x.call.kind (Int.ofNat 1) with | false => rfl | true => exact absurd (eqZ_int.1 e) hk1) ?_
    have en := nm_oth hx h0 hk1 h2
    refine LoopC.ind (n := 300) (by kernel_rfl) (fun (j : Nat) σ H => j ≤ i ∧ σ 0 = va ∧ σ 1 = iN i ∧ σ 5 = ptr p8 0 ∧ ((all.take j).filter fun y => decide (y.th = x.th)).length ≤ x.call.h ∧ σ 6 = u64 ((all.take j).filter fun y => decide (y.th = x.th)).length ∧ σ 7 = iN j ∧ H = H10) (fun j => i - j) (fun j σ H hI => ?_) 0 _ _ ⟨Nat.zero_le _, rfl, rfl, rfl, Nat.zero_le _, rfl, rfl, rfl⟩
    obtain ⟨hj, a0, a1, a5, hn, a6, a7, rfl⟩ := hI
    have hnl : ((all.take j).filter fun y => decide (y.th = x.th)).length ≤ j := Nat.le_trans (List.length_filter_le _ _) (by rw [List.length_take]; omega)
    rw [l13namedA_W]
    rw [a1, a5, a6, a7]
    repeat (refine gO ?_; intros)
    by_cases hlt : j < i
    · refine Cd.t (ltZ_t hlt) ?_
      obtain ⟨y, hy⟩ : ∃ y, all[j]? = some y := ⟨_, List.getElem?_eq_getElem (by omega)⟩
      obtain ⟨b1, e1, l1⟩ := rd hra hv hx
      obtain ⟨b2, e2, l2⟩ := rd hra hv hy
      have hyt : (all.take i)[j]? = some y := by rw [List.getElem?_take, if_pos hlt]; exact hy
      have htt : (all.take i).take j = all.take j := by rw [List.take_take, Nat.min_eq_left (by omega)]
      refine AsSlc.eq (a0.trans e2) ?_
      repeat (refine gO ?_; intros)
      refine Must.mk (ltN_t (by omega)) ?_
      refine l2 _ 8 _ _ (by show 0 + j * 11 + 8 = _; omega) (by omega) (fun w => rfl) ?_
      refine AsSlc.eq (a0.trans e1) ?_
      repeat (refine gO ?_; intros)
      refine Must.mk (ltN_t hi) ?_
      refine l1 _ 8 _ _ (by show 0 + i * 11 + 8 = _; omega) (by omega) (fun w => rfl) ?_
      repeat (refine gO ?_; intros)
      by_cases ht : y.th = x.th
      · refine Cd.t (eqZ_t ht) ?_
        repeat (refine gO ?_; intros)
        by_cases hc' : ((all.take j).filter fun y => decide (y.th = x.th)).length = x.call.h
        · refine Cd.t (eqN_t hc') ?_
          refine AsSlc.eq (a0.trans e2) ?_
          repeat (refine gO ?_; intros)
          refine Must.mk (ltN_t (by omega)) ?_
          refine l2 _ 0 _ _ (by show 0 + j * 11 + 0 + 0 = _; omega) (by omega) (fun w => rfl) ?_
          have q := k H (h10.ent ee)
          have gd := getD_filter (p := fun z => decide (z.th = x.th)) hyt (decide_eq_true ht)
          rw [htt, hc'] at gd
          rw [en, List.getD_eq_getElem?_getD, List.getElem?_map, gd] at q
          exact q
        · refine Cd.f (eqN_f hc') ?_
          repeat (refine gO ?_; intros)
          have hsn : ((all.take (j + 1)).filter fun y => decide (y.th = x.th)).length = ((all.take j).filter fun y => decide (y.th = x.th)).length + 1 := by
            rw [take_next hy, List.filter_append, List.length_append, List.filter_cons_of_pos (by simp [ht])]
            rfl
          try rw [addInt]
          refine inR_nat (by omega) ?_
          repeat (refine gO ?_; intros)
          show ∃ y, _ ∧ _
          exact ⟨j + 1, by omega, hlt, a0, a1, a5, by omega, by rw [hsn]; exact congrArg (fun n => Value.int .u64 (Int.ofNat n)) (Nat.mod_eq_of_lt (show ((all.take j).filter fun y => decide (y.th = x.th)).length + 1 < 18446744073709551616 by omega)), rfl, rfl⟩
      · refine Cd.f (eqZ_f ht) ?_
        repeat (refine gO ?_; intros)
        have hsn : ((all.take (j + 1)).filter fun y => decide (y.th = x.th)) = ((all.take j).filter fun y => decide (y.th = x.th)) := by
          rw [take_next hy, List.filter_append, List.filter_cons_of_neg (by simp [ht])]
          simp
        try rw [addInt]
        refine inR_nat (by omega) ?_
        repeat (refine gO ?_; intros)
        show ∃ y, _ ∧ _
        exact ⟨j + 1, by omega, hlt, a0, a1, a5, by rw [hsn]; exact hn, by rw [hsn]; exact a6, rfl, rfl⟩
    · refine Cd.f (ltZ_f (by omega)) ?_
      show Cd _ _ _
      refine Cd.t rfl ?_
      have q := k H (h10.ent ee)
      have : j = i := by omega
      subst this
      rw [en, List.getD_eq_getElem?_getD, List.getElem?_eq_none (by rw [List.length_map]; exact hn)] at q
      exact q
end Go.Proofs.YtmjiaahpjjnloaaGreat

set_option linter.unusedVariables false
set_option linter.unusedSimpArgs false
namespace Go.Proofs.YtmjiaahpjjnloaaGreat
open Go Go.CM
/-! ### what a Scan may rely on -/
def FixR (s : P13) (q gn st : Nat) : Prop := s.isS = true ∧ (s.sn.at_ = 5 ∨ s.sn.at_ = 6) ∧ s.sn.i = q ∧ s.sn.gen = gn ∧ s.sn.t = st
def FixA (x : Seen13) (q gn st : Nat) : Prop := FinS x ∧ x.t.1.h = hdl q gn ∧ x.t.1.st = st
/-- A snapshot whose stamp is fixed. -/
def Fix (g : R13) (q gn st : Nat) : Prop := (∃ (a : Nat) (x : Seen13), g.all[a]? = some x ∧ FixA x q gn st) ∨ ∃ (k : Nat) (th : Th13) (s : P13), g.ths[k]? = some th ∧ th.now = some s ∧ FixR s q gn st
/-- A release of it has begun. -/
def RelB (all : List Seen13) (J : Int) (q gn : Nat) : Prop := ∃ (b : Nat) (y : Seen13), all[b]? = some y ∧ y.call.kind ≠ 0 ∧ y.call.kind ≠ 2 ∧ nm all b = hdl q gn ∧ (y.from_ : Int) ≤ J
structure ScJ (c most : Nat) (s : ScanS) : Prop where
  sl : s.sl = slO c most
  a0 : s.at_ = 0 → s.i = 0 ∧ s.told = []
  a1 : s.at_ = 1 → s.i < c
structure Lat (c most : Nat) (g : R13) (j : Nat) : Prop where
  rln : ∀ q gn, q < c → gn < genW (W g.M q) → RelB g.all (j : Int) q gn
  run : ∀ (k : Nat) th s, g.ths[k]? = some th → th.now = some s → s.isS = false → s.isN = true → ScJ c most s.sc ∧ (s.sc.at_ = 1 → s.sc.fl ≤ g.M.peek 1 ∧ ∀ q gn st, q < s.sc.i → Fix g q gn st → st ∈ s.sc.told ∨ s.sc.fl ≤ st ∨ RelB g.all (j : Int) q gn)
  fin : ∀ (a : Nat) x, g.all[a]? = some x → x.call.kind = 2 → 0 ≤ x.to → x.t.1.fl ≤ g.M.peek 1 ∧ ∀ q gn st, q < c → Fix g q gn st → st ∈ x.t.1.need ∨ x.t.1.fl ≤ st ∨ RelB g.all x.to q gn
theorem RelB.mono {all : List Seen13} {J J' : Int} {q gn : Nat} (h : RelB all J q gn) (hJ : J ≤ J') : RelB all J' q gn := by
  obtain ⟨b, y, h1, h2, h3, h4, h5⟩ := h
  exact ⟨b, y, h1, h2, h3, h4, Int.le_trans h5 hJ⟩
theorem lat_mono {c most : Nat} {g : R13} {j : Nat} (L : Lat c most g j) : Lat c most g (j + 1) :=
  ⟨fun q gn h1 h2 => (L.rln q gn h1 h2).mono (by omega), fun k th s h1 h2 h3 h4 => ⟨(L.run k th s h1 h2 h3 h4).1, fun h5 => ⟨((L.run k th s h1 h2 h3 h4).2 h5).1, fun q gn st h6 h7 => by
    rcases ((L.run k th s h1 h2 h3 h4).2 h5).2 q gn st h6 h7 with h | h | h
    · exact .inl h
    · exact .inr (.inl h)
    · exact .inr (.inr (h.mono (by omega)))⟩⟩, L.fin⟩
theorem snap_fix (s : SnapS) (M : Mem) (th : Int) (h : s.Ok) :
    (((s.step M th).1.at_ = 5 ∨ (s.step M th).1.at_ = 6) → ((s.at_ = 5 ∨ s.at_ = 6) ∧ (s.step M th).1.i = s.i ∧ (s.step M th).1.gen = s.gen ∧ (s.step M th).1.t = s.t) ∨ M.peek s.sl.cam ≤ (s.step M th).1.t) ∧
    ((s.step M th).1.ok = true → s.at_ = 6 ∧ (s.step M th).1.i = s.i ∧ (s.step M th).1.gen = s.gen ∧ (s.step M th).1.t = s.t) := by
  obtain ⟨sl, at_, i, w, gen, t, ok, err⟩ := s
  obtain ⟨h1, h2, h3, h4, h5⟩ := h
  simp only at h1 h2 h3 h4 h5
  subst h2 h3
  have on1 : ∀ (s : SnapS), s.on.ok = s.ok := fun s => by unfold SnapS.on; split <;> rfl
  have on2 : ∀ (s : SnapS), ¬ (s.on.at_ = 5 ∨ s.on.at_ = 6) := fun s => by unfold SnapS.on; split <;> simp
  rcases (by omega : at_ = 0 ∨ at_ = 1 ∨ at_ = 2 ∨ at_ = 3 ∨ at_ = 4 ∨ at_ = 5 ∨ at_ = 6 ∨ at_ = 7) with rfl | rfl | rfl | rfl | rfl | rfl | rfl | rfl
  · simp only [SnapS.step]
    by_cases hz : cnt sl.count = 0
    · simp [if_pos hz]
    · simp only [if_neg hz]
      split
      · exact ⟨fun q => absurd q (on2 _), fun q => by rw [on1] at q; cases q⟩
      · simp
  · simp only [SnapS.step]
    split
    · simp
    · exact ⟨fun q => absurd q (on2 _), fun q => by rw [on1] at q; cases q⟩
  · simp [SnapS.step]
  · simp [SnapS.step]
  · simp only [SnapS.step]
    exact ⟨fun _ => .inr (Nat.le_refl _), fun q => by cases q⟩
  · simp [SnapS.step]
  · simp [SnapS.step]
  · simp [SnapS.step]
/-- What is seen in a slot. -/
theorem fix_slot {c most : Nat} (hc256 : c ≤ 256) {g : R13} {j j' : Nat} (I : Inv c most g j') (L : Lat c most g j) {q gn st : Nat} (hq : q < c) (F : Fix g q gn st) :
    RelB g.all (j : Int) q gn ∨ (kindW (W g.M q) = 3 ∧ stampW (W g.M q) = st) ∨ (kindW (W g.M q) = 2 ∧ stampW (W g.M q) ≤ st) := by
  rcases F with ⟨a, x, hx, f1, f2, f3⟩ | ⟨k, th, s, hth, hnow, f0, f1, f2, f3, f4⟩
  · obtain ⟨i, gn', n1, n2, n3, _, _, n6⟩ := I.told a x hx f1
    obtain ⟨rfl, rfl⟩ := hdl_inj (by omega) (by omega) (f2.symm.trans n3)
    rcases n6 with n6 | ⟨n6, n7, n8⟩
    · exact .inl (L.rln _ _ hq n6)
    · exact .inr (.inl ⟨n7, by rw [n8, f3]⟩)
  · have J := (I.pj k th s hth hnow).sn f0
    have hown := (J.own (by omega) (by omega)).2.2
    rw [if_neg (by omega), f2] at hown
    have h5 := (J.a5 f1).1
    rw [f2, f4] at h5
    exact .inr (.inr ⟨hown, h5⟩)
end Go.Proofs.YtmjiaahpjjnloaaGreat

set_option linter.unusedVariables false
set_option linter.unusedSimpArgs false
namespace Go.Proofs.YtmjiaahpjjnloaaGreat
open Go Go.CM
theorem step_facts {c most : Nat} (hc1 : 1 ≤ c) (hc2 : c ≤ 256) (hm : most ≤ 1099511627776) {g : R13} {j k : Nat} (I : Inv c most g j) {th : Th13} {s : P13} (hth : g.ths[k]? = some th) (hnow : th.now = some s) (hok : s.Ok) (t : Int) :
    g.M.peek 1 ≤ (s.step g.M t).2.peek 1 ∧ (∀ q gn, q < c → gn < genW (W (s.step g.M t).2 q) → gn < genW (W g.M q) ∨ (s.kind ≠ 0 ∧ s.kind ≠ 2 ∧ s.lt.h = hdl q gn)) ∧
    (∀ q gn st, FixR (s.step g.M t).1 q gn st → FixR s q gn st ∨ g.M.peek 1 ≤ st) ∧ (∀ q gn st, q < 256 → s.kind = 0 → (s.step g.M t).1.told.h = hdl q gn → (s.step g.M t).1.told.st = st → FixR s q gn st) := by
  have J := I.pj k th s hth hnow
  cases h0 : s.isS with
  | true =>
    have hk0 : s.kind = 0 := p13_isS h0
    obtain ⟨_, eff⟩ := snap_eff hc1 hc2 hm I.len I.cam (hok.sn h0) (J.sn h0) t
    obtain ⟨x1, x2⟩ := snap_fix s.sn g.M t (hok.sn h0)
    have hcm : s.sn.sl.cam = 1 := by rw [(J.sn h0).sl]; rfl
    rw [hcm] at x1
    have i0 : P13.isS { s with sn := (s.sn.step g.M t).1 } = true := h0
    have htold := p13_toldS i0
    rw [p13_stepS h0]
    dsimp only
    rw [htold]
    generalize hs' : (s.sn.step g.M t).1 = sn' at *
    generalize hM' : (s.sn.step g.M t).2 = M' at *
    refine ⟨?_, fun q gn hq hgn => .inl ?_, fun q gn st ⟨f0, f1, f2, f3, f4⟩ => ?_, fun q gn st hq _ f1 f2 => ?_⟩
    · rcases eff with ⟨E, _⟩ | ⟨E, _⟩ <;> exact E.cam
    · rcases eff with ⟨E, _⟩ | ⟨E, K⟩
      · rw [E.oth q hq (by simp)] at hgn; exact hgn
      · by_cases e : q = s.sn.i
        · subst e
          cases K with
          | claim _ _ k3 => omega
          | ann _ k3 => omega
          | give _ k3 => omega
          | hold _ k3 => omega
        · rw [E.oth q hq (by intro r; cases r; exact e rfl)] at hgn; exact hgn
    · rcases x1 f1 with ⟨a1, a2, a3, a4⟩ | a1
      · exact .inl ⟨h0, a1, a2.symm.trans f2, a3.symm.trans f3, a4.symm.trans f4⟩
      · exact .inr (by rw [← f4]; exact a1)
    · have hok' : sn'.ok = true := by
        cases e : sn'.ok with
        | true => rfl
        | false =>
          have f1 : SnapS.handle sn' = hdl q gn := f1
          unfold SnapS.handle at f1
          rw [if_neg (by rw [e]; simp)] at f1
          unfold hdl at f1
          omega
      obtain ⟨a1, a2, a3, a4⟩ := x2 hok'
      have f1 : SnapS.handle sn' = hdl q gn := f1
      have f2 : SnapS.stamp sn' = st := f2
      unfold SnapS.handle at f1
      unfold SnapS.stamp at f2
      rw [if_pos hok'] at f1 f2
      have hlt : sn'.i < 256 := by have := (J.sn h0).i0 (by omega); omega
      obtain ⟨e1, e2⟩ := hdl_inj (g := sn'.gen) hlt hq f1
      exact ⟨h0, .inr a1, a2.symm.trans e1, a3.symm.trans e2, a4.symm.trans f2⟩
  | false =>
    have hk0 : s.kind ≠ 0 := fun q => by
      have : s.isS = true := decide_eq_true q
      rw [h0] at this; cases this
    cases h2 : s.isN with
    | true =>
      rw [p13_stepN h0 h2]
      dsimp only
      have hE : Eff c most g.M (s.sc.step g.M t).2 none := by
        unfold ScanS.step
        split
        · exact .same I.len I.cam fun a => rfl
        · exact .same I.len I.cam fun a => rfl
      refine ⟨hE.cam, fun q gn hq hgn => .inl ?_, fun q gn st f => ?_, fun q gn st _ f => absurd f hk0⟩
      · rw [hE.oth q hq (by simp)] at hgn; exact hgn
      · exact absurd (show s.isS = true from f.1) (by rw [h0]; simp)
    | false =>
      have hk2 : s.kind ≠ 2 := fun q => by
        have : s.isN = true := decide_eq_true q
        rw [h2] at this; cases this
      obtain ⟨_, _, eff⟩ := let_eff hc1 hc2 I.len I.cam (hok.lt h0 h2).1 (J.lt h0 h2) I.gen t
      rw [p13_stepL h0 h2]
      dsimp only
      refine ⟨?_, fun q gn hq hgn => ?_, fun q gn st f => ?_, fun q gn st _ f => absurd f hk0⟩
      · rcases eff with ⟨E, _⟩ | ⟨_, _, E, _⟩ <;> exact E.cam
      · rcases eff with ⟨E, _⟩ | ⟨r1, r2, E, r3, r4, r5, r6, r7⟩
        · rw [E.oth q hq (by simp)] at hgn; exact .inl hgn
        · by_cases e : q = s.lt.h % 65536 - 1
          · subst e
            by_cases hl : gn < genW (W g.M (s.lt.h % 65536 - 1))
            · exact .inl hl
            · rw [r6] at hgn
              rw [r4] at hl
              have : gn = s.lt.h / 65536 := by omega
              subst this
              exact .inr ⟨hk0, hk2, hdl_of r1⟩
          · rw [E.oth q hq (by intro r; cases r; exact e rfl)] at hgn; exact .inl hgn
      · exact absurd (show s.isS = true from f.1) (by rw [h0]; simp)
end Go.Proofs.YtmjiaahpjjnloaaGreat

set_option linter.unusedVariables false
set_option linter.unusedSimpArgs false
namespace Go.Proofs.YtmjiaahpjjnloaaGreat
open Go Go.CM
theorem scan_lat {c : Nat} {most : Nat} (hc1 : 1 ≤ c) (hc2 : c ≤ 256) {s : ScanS} {M : Mem} {t : Int} (hok : s.Ok) (J : ScJ c most s) :
    ScJ c most (s.step M t).1 ∧ ((s.step M t).1.at_ = 1 ∨ (s.step M t).1.at_ = 2) ∧ ((s.step M t).1.at_ = 2 → c ≤ (s.step M t).1.i ∧ (s.step M t).1.need = rise (s.step M t).1.told (s.step M t).1.fl) ∧
    ((s.at_ = 0 ∧ (s.step M t).1.i = 0 ∧ (s.step M t).1.fl = M.peek 1) ∨
     (s.at_ = 1 ∧ s.i < c ∧ (s.step M t).1.i = s.i + 1 ∧ (s.step M t).1.fl ≤ s.fl ∧ (∀ x ∈ s.told, x ∈ (s.step M t).1.told) ∧ (kindW (W M s.i) = 2 → (s.step M t).1.fl ≤ stampW (W M s.i)) ∧ (kindW (W M s.i) = 3 → stampW (W M s.i) ∈ (s.step M t).1.told))) := by
  obtain ⟨sl, at_, i, fl, told, need⟩ := s
  obtain ⟨h1, h2, h3, h4, h5⟩ := hok
  obtain ⟨j1, j2, j3⟩ := J
  simp only at h1 h2 h3 h4 h5 j1 j2 j3
  subst j1
  have hcn := cntO (most := most) hc1 hc2
  rcases (by omega : at_ = 0 ∨ at_ = 1) with rfl | rfl
  · obtain ⟨rfl, rfl⟩ := j2 rfl
    have e : (ScanS.step ⟨slO c most, 0, 0, fl, [], need⟩ M t).1 = ⟨slO c most, 1, 0, M.peek 1, [], need⟩ := by
      simp only [ScanS.step, ScanS.fin]
      rw [hcn, if_pos (by omega)]
      rfl
    rw [e]
    exact ⟨⟨rfl, fun q => (by cases q), fun _ => hc1⟩, .inl rfl, fun q => (by cases q), .inl ⟨rfl, rfl, rfl⟩⟩
  · have hi := j3 rfl
    have hcell : addM (slO c most).first i = 2 + i := addM2 (by omega)
    have e : (ScanS.step ⟨slO c most, 1, i, fl, told, need⟩ M t).1 = ScanS.fin ⟨slO c most, 1, i + 1, if kindW (W M i) = 2 then Nat.min fl (stampW (W M i)) else fl, if kindW (W M i) = 3 then told ++ [stampW (W M i)] else told, need⟩ := by
      simp only [ScanS.step, hcell]
      rfl
    rw [e]
    generalize hf : (if kindW (W M i) = 2 then Nat.min fl (stampW (W M i)) else fl) = fl'
    generalize ht : (if kindW (W M i) = 3 then told ++ [stampW (W M i)] else told) = told'
    have f1 : fl' ≤ fl := by rw [← hf]; split; exact Nat.min_le_left _ _; exact Nat.le_refl _
    have f2 : kindW (W M i) = 2 → fl' ≤ stampW (W M i) := fun q => by rw [← hf, if_pos q]; exact Nat.min_le_right _ _
    have t1 : ∀ x ∈ told, x ∈ told' := fun x hx => by
      rw [← ht]
      split
      · exact List.mem_append_left _ hx
      · exact hx
    have t2 : kindW (W M i) = 3 → stampW (W M i) ∈ told' := fun q => by rw [← ht, if_pos q]; simp
    by_cases hlt : i + 1 < c
    · have e2 : ScanS.fin ⟨slO c most, 1, i + 1, fl', told', need⟩ = ⟨slO c most, 1, i + 1, fl', told', need⟩ := by simp only [ScanS.fin, hcn, if_pos hlt]
      rw [e2]
      exact ⟨⟨rfl, fun q => (by cases q), fun _ => hlt⟩, .inl rfl, fun q => (by cases q), .inr ⟨rfl, hi, rfl, f1, t1, f2, t2⟩⟩
    · have e2 : ScanS.fin ⟨slO c most, 1, i + 1, fl', told', need⟩ = ⟨slO c most, 2, i + 1, fl', told', rise told' fl'⟩ := by simp only [ScanS.fin, hcn, if_neg hlt]
      rw [e2]
      exact ⟨⟨rfl, fun q => (by cases q), fun q => (by cases q)⟩, .inr rfl, fun _ => ⟨(by show c ≤ i + 1; omega), rfl⟩, .inr ⟨rfl, hi, rfl, f1, t1, f2, t2⟩⟩
theorem lat_scan {c most : Nat} (hc1 : 1 ≤ c) (hc2 : c ≤ 256) {g : R13} {j j' k : Nat} (I : Inv c most g j') (L : Lat c most g j) {th : Th13} {s : P13} (hth : g.ths[k]? = some th) (hnow : th.now = some s) (hok : s.Ok) (h0 : s.isS = false) (h2 : s.isN = true) (t : Int) :
    ScJ c most (s.sc.step g.M t).1 ∧ (s.sc.step g.M t).1.fl ≤ g.M.peek 1 ∧ (∀ q gn st, q < c → q < (s.sc.step g.M t).1.i → Fix g q gn st → st ∈ (s.sc.step g.M t).1.told ∨ (s.sc.step g.M t).1.fl ≤ st ∨ RelB g.all (j : Int) q gn) ∧
    ((s.sc.step g.M t).1.at_ = 1 ∨ (s.sc.step g.M t).1.at_ = 2) ∧ ((s.sc.step g.M t).1.at_ = 2 → c ≤ (s.sc.step g.M t).1.i ∧ (s.sc.step g.M t).1.need = rise (s.sc.step g.M t).1.told (s.sc.step g.M t).1.fl) := by
  obtain ⟨J, hr⟩ := L.run k th s hth hnow h0 h2
  obtain ⟨p1, p2, p3, p4⟩ := scan_lat (M := g.M) (t := t) hc1 hc2 (hok.sc h0 h2) J
  refine ⟨p1, ?_, ?_, p2, p3⟩
  · rcases p4 with ⟨_, _, q⟩ | ⟨q1, _, _, q, _⟩
    · omega
    · have := (hr q1).1; omega
  · intro q gn st hq hqi F
    rcases p4 with ⟨_, q2, _⟩ | ⟨q1, q2, q3, q4, q5, q6, q7⟩
    · omega
    · by_cases e : q = s.sc.i
      · subst e
        rcases fix_slot hc2 I L hq F with r | ⟨r1, r2⟩ | ⟨r1, r2⟩
        · exact .inr (.inr r)
        · exact .inl (by rw [← r2]; exact q7 r1)
        · exact .inr (.inl (Nat.le_trans (q6 r1) r2))
      · rcases (hr q1).2 q gn st (by omega) F with r | r | r
        · exact .inl (q5 _ r)
        · exact .inr (.inl (by omega))
        · exact .inr (.inr r)
theorem lat_step {c most : Nat} (hc1 : 1 ≤ c) (hc2 : c ≤ 256) (hm : most ≤ 1099511627776) {g : R13} {j k : Nat} (I : Inv c most g (j + 1)) (L : Lat c most g j) {th : Th13} {s : P13} (hth : g.ths[k]? = some th) (hnow : th.now = some s) (hok : s.Ok) :
    Lat c most (g.go j k s th.told th.at_ g.all) j := by
  obtain ⟨x, hx, c1, c2, c3, c4, c5, c6⟩ := I.cur k th s hth hnow
  have hkl : k < g.ths.length := (List.getElem?_eq_some_iff.1 hth).1
  have hal : th.at_ < g.all.length := (List.getElem?_eq_some_iff.1 hx).1
  have hxf := (I.frm _ _ hx).1
  obtain ⟨s1, s2, s3, s4⟩ := step_facts hc1 hc2 hm I hth hnow hok (Int.ofNat k)
  have hkind := p13_kind s g.M (Int.ofNat k)
  have hsc : s.isS = false → s.isN = true → (s.step g.M (Int.ofNat k)).1.sc = (s.sc.step g.M (Int.ofNat k)).1 := fun h0 h2 => by rw [p13_stepN h0 h2]
  have hLS := fun h0 h2 => lat_scan hc1 hc2 I L hth hnow hok h0 h2 (Int.ofNat k)
  have e : g.go j k s th.told th.at_ g.all = { M := (s.step g.M (Int.ofNat k)).2, ths := g.ths.set k ⟨th.told.set (th.told.length - 1) ((s.step g.M (Int.ofNat k)).1.told, (s.step g.M (Int.ofNat k)).1.fin), if (s.step g.M (Int.ofNat k)).1.fin then none else some (s.step g.M (Int.ofNat k)).1, th.at_⟩, all := g.all.set th.at_ (x.upd ((s.step g.M (Int.ofNat k)).1.told, (s.step g.M (Int.ofNat k)).1.fin) j) } := by
    simp only [R13.go, seenUpd, hx]
  rw [e]
  clear e
  generalize (s.step g.M (Int.ofNat k)).1 = s' at *
  generalize (s.step g.M (Int.ofNat k)).2 = M' at *
  generalize hx' : x.upd (s'.told, s'.fin) j = x'
  have hxth : x'.th = k := by rw [← hx']; exact c1
  have hxca : x'.call = x.call := by rw [← hx']; rfl
  have hxfr : x'.from_ = x.from_ := by rw [← hx']; rfl
  have hS' : s'.isS = s.isS := by unfold P13.isS; rw [hkind]
  have hN' : s'.isN = s.isN := by unfold P13.isN; rw [hkind]
  have lk : ∀ (b : Nat) z, (g.all.set th.at_ x')[b]? = some z → (th.at_ = b ∧ z = x') ∨ (th.at_ ≠ b ∧ g.all[b]? = some z) := fun b z h => by
    rw [List.getElem?_set] at h
    by_cases e : th.at_ = b
    · rw [if_pos e, if_pos hal] at h; cases h; exact .inl ⟨e, rfl⟩
    · rw [if_neg e] at h; exact .inr ⟨e, h⟩
  have lt : ∀ (k2 : Nat) th2, (g.ths.set k ⟨th.told.set (th.told.length - 1) (s'.told, s'.fin), if s'.fin then none else some s', th.at_⟩)[k2]? = some th2 → (k = k2 ∧ th2 = ⟨th.told.set (th.told.length - 1) (s'.told, s'.fin), if s'.fin then none else some s', th.at_⟩) ∨ (k ≠ k2 ∧ g.ths[k2]? = some th2) := fun k2 th2 h => by
    rw [List.getElem?_set] at h
    by_cases e : k = k2
    · rw [if_pos e, if_pos hkl] at h; cases h; exact .inl ⟨e, rfl⟩
    · rw [if_neg e] at h; exact .inr ⟨e, h⟩
  have nmE : ∀ b, nm (g.all.set th.at_ x') b = nm g.all b := nm_set hx c1 hxth hxca c6
  have nw : ∀ s2, (if s'.fin = true then none else some s') = some s2 → s'.fin = false ∧ s2 = s' := fun s2 h => by
    cases hf : s'.fin with
    | true => rw [hf] at h; simp at h
    | false => rw [hf] at h; simp at h; exact ⟨rfl, h.symm⟩
  have fixm : ∀ q gn st, q < c → Fix { M := M', ths := g.ths.set k ⟨th.told.set (th.told.length - 1) (s'.told, s'.fin), if s'.fin then none else some s', th.at_⟩, all := g.all.set th.at_ x' } q gn st → Fix g q gn st ∨ g.M.peek 1 ≤ st := fun q gn st hq F => by
    rcases F with ⟨a, z, hz, hf⟩ | ⟨k2, th2, s2', h1, h2, hf⟩
    · rcases lk a z hz with ⟨_, rfl⟩ | ⟨_, hz⟩
      · obtain ⟨f1, f2, f3⟩ := hf
        have hk0 : s.kind = 0 := by rw [← c2, ← hxca]; exact f1.1
        refine .inl (.inr ⟨k, th, s, hth, hnow, s4 q gn st (by omega) hk0 ?_ ?_⟩)
        · rw [← hx'] at f2; exact f2
        · rw [← hx'] at f3; exact f3
      · exact .inl (.inl ⟨a, z, hz, hf⟩)
    · rcases lt k2 th2 h1 with ⟨_, rfl⟩ | ⟨_, h1⟩
      · obtain ⟨_, rfl⟩ := nw s2' h2
        rcases s3 q gn st hf with h | h
        · exact .inl (.inr ⟨k, th, s, hth, hnow, h⟩)
        · exact .inr h
      · exact .inl (.inr ⟨k2, th2, s2', h1, h2, hf⟩)
  have relm : ∀ J q gn, RelB g.all J q gn → RelB (g.all.set th.at_ x') J q gn := fun J q gn ⟨b, y, h1, h2, h3, h4, h5⟩ => by
    by_cases e : th.at_ = b
    · subst e
      rw [hx] at h1
      cases h1
      exact ⟨th.at_, x', List.getElem?_set_self hal, by rw [hxca]; exact h2, by rw [hxca]; exact h3, by rw [nmE]; exact h4, by rw [hxfr]; exact h5⟩
    · exact ⟨b, y, by rw [List.getElem?_set_ne e]; exact h1, h2, h3, by rw [nmE]; exact h4, h5⟩
  refine ⟨fun q gn hq hgn => ?_, fun k2 th2 s2' h1 h2 h3 h4 => ?_, fun a z hz hk ht => ?_⟩
  · rcases s2 q gn hq hgn with h | ⟨h1, h2, h3⟩
    · exact relm _ _ _ (L.rln q gn hq h)
    · exact ⟨th.at_, x', List.getElem?_set_self hal, by rw [hxca, c2]; exact h1, by rw [hxca, c2]; exact h2, by rw [nmE, ← c5]; exact h3, by rw [hxfr]; omega⟩
  · rcases lt k2 th2 h1 with ⟨_, rfl⟩ | ⟨_, h1⟩
    · obtain ⟨hf, rfl⟩ := nw s2' h2
      obtain ⟨p1, p2, p3, p4, p5⟩ := hLS (hS'.symm.trans h3) (hN'.symm.trans h4)
      rw [hsc (hS'.symm.trans h3) (hN'.symm.trans h4)]
      refine ⟨p1, fun hat => ⟨Nat.le_trans p2 s1, fun q gn st hq F => ?_⟩⟩
      have hqc : q < c := by have := p1.a1 hat; omega
      rcases fixm q gn st hqc F with F | F
      · rcases p3 q gn st hqc hq F with r | r | r
        · exact .inl r
        · exact .inr (.inl r)
        · exact .inr (.inr (relm _ _ _ r))
      · exact .inr (.inl (Nat.le_trans p2 F))
    · obtain ⟨r1, r2⟩ := L.run k2 th2 s2' h1 h2 h3 h4
      refine ⟨r1, fun hat => ?_⟩
      obtain ⟨u1, u2⟩ := r2 hat
      refine ⟨Nat.le_trans u1 s1, fun q gn st hq F => ?_⟩
      have hqc : q < c := by have := r1.a1 hat; omega
      rcases fixm q gn st hqc F with F | F
      · rcases u2 q gn st hq F with r | r | r
        · exact .inl r
        · exact .inr (.inl r)
        · exact .inr (.inr (relm _ _ _ r))
      · exact .inr (.inl (Nat.le_trans u1 F))
  · rcases lk a z hz with ⟨_, rfl⟩ | ⟨_, hz⟩
    · have hk2 : s.kind = 2 := by rw [← c2, ← hxca]; exact hk
      have h2 : s.isN = true := decide_eq_true hk2
      have h0 : s.isS = false := by
        cases h : s.isS with
        | false => rfl
        | true => have := p13_isS h; rw [hk2] at this; cases this
      have hfin : s'.fin = true := by rw [← hx'] at ht; exact upd_to c3 ht
      obtain ⟨p1, p2, p3, p4, p5⟩ := hLS h0 h2
      have hat : s'.sc.at_ = 2 := by
        rw [p13_finN (hS'.trans h0) (hN'.trans h2)] at hfin
        by_cases q : s'.sc.at_ = 2
        · exact q
        · rw [eqZ_f q] at hfin; cases hfin
      have htold := p13_toldN (hS'.trans h0) (hN'.trans h2)
      rw [if_pos hat] at htold
      rw [← hsc h0 h2] at p1 p2 p3 p5
      obtain ⟨p6, p7⟩ := p5 hat
      have e1 : z.t.1.fl = s'.sc.fl := by rw [← hx']; show s'.told.fl = _; rw [htold]
      have e2 : z.t.1.need = rise s'.sc.told s'.sc.fl := by rw [← hx']; show s'.told.need = _; rw [htold]; exact p7
      have e3 : z.to = (j : Int) := by rw [← hx', hfin]; rfl
      rw [e1, e2, e3]
      refine ⟨Nat.le_trans p2 s1, fun q gn st hq F => ?_⟩
      rcases fixm q gn st hq F with F | F
      · rcases p3 q gn st hq (by omega) F with r | r | r
        · by_cases hlt : st < s'.sc.fl
          · exact .inl (rise_mem.2 ⟨r, hlt⟩)
          · exact .inr (.inl (by omega))
        · exact .inr (.inl r)
        · exact .inr (.inr (relm _ _ _ r))
      · exact .inr (.inl (Nat.le_trans p2 F))
    · obtain ⟨u1, u2⟩ := L.fin a z hz hk ht
      refine ⟨Nat.le_trans u1 s1, fun q gn st hq F => ?_⟩
      rcases fixm q gn st hq F with F | F
      · rcases u2 q gn st hq F with r | r | r
        · exact .inl r
        · exact .inr (.inl r)
        · exact .inr (.inr (relm _ _ _ r))
      · exact .inr (.inl (Nat.le_trans u1 F))
end Go.Proofs.YtmjiaahpjjnloaaGreat

set_option linter.unusedVariables false
set_option linter.unusedSimpArgs false
namespace Go.Proofs.YtmjiaahpjjnloaaGreat
open Go Go.CM
theorem lat_begin {c most : Nat} {g : R13} {j k : Nat} (L : Lat c most g j) {th : Th13} {cl : C13} (hth : g.ths[k]? = some th) :
    Lat c most { M := g.M, ths := g.ths.set k ⟨th.told ++ [(z13T, false)], some (P13.fresh (slO c most) cl.kind (bh cl.kind cl.h (th.told.map fun x => x.1.h))), g.all.length⟩, all := g.all ++ [⟨(z13T, false), j, Int.negSucc 0, k, cl⟩] } j := by
  have hkl : k < g.ths.length := (List.getElem?_eq_some_iff.1 hth).1
  have lk : ∀ (b : Nat) z, (g.all ++ [(⟨(z13T, false), j, Int.negSucc 0, k, cl⟩ : Seen13)])[b]? = some z → (g.all[b]? = some z ∧ b < g.all.length) ∨ (b = g.all.length ∧ z = ⟨(z13T, false), j, Int.negSucc 0, k, cl⟩) := fun b z h => by
    by_cases hb : b < g.all.length
    · rw [List.getElem?_append_left hb] at h
      exact .inl ⟨h, hb⟩
    · rw [List.getElem?_append_right (by omega)] at h
      cases e : b - g.all.length with
      | zero => rw [e] at h; cases h; exact .inr ⟨by omega, rfl⟩
      | succ n => rw [e] at h; simp at h
  have lt : ∀ (k2 : Nat) th2, (g.ths.set k ⟨th.told ++ [(z13T, false)], some (P13.fresh (slO c most) cl.kind (bh cl.kind cl.h (th.told.map fun x => x.1.h))), g.all.length⟩)[k2]? = some th2 → (k = k2 ∧ th2 = ⟨th.told ++ [(z13T, false)], some (P13.fresh (slO c most) cl.kind (bh cl.kind cl.h (th.told.map fun x => x.1.h))), g.all.length⟩) ∨ (k ≠ k2 ∧ g.ths[k2]? = some th2) := fun k2 th2 h => by
    rw [List.getElem?_set] at h
    by_cases e : k = k2
    · rw [if_pos e, if_pos hkl] at h; cases h; exact .inl ⟨e, rfl⟩
    · rw [if_neg e] at h; exact .inr ⟨e, h⟩
  have relm : ∀ J q gn, RelB g.all J q gn → RelB (g.all ++ [(⟨(z13T, false), j, Int.negSucc 0, k, cl⟩ : Seen13)]) J q gn := fun J q gn ⟨b, y, h1, h2, h3, h4, h5⟩ => by
    have hb := (List.getElem?_eq_some_iff.1 h1).1
    exact ⟨b, y, by rw [List.getElem?_append_left hb]; exact h1, h2, h3, by rw [nm_snoc hb]; exact h4, h5⟩
  have fixm : ∀ q gn st, Fix { M := g.M, ths := g.ths.set k ⟨th.told ++ [(z13T, false)], some (P13.fresh (slO c most) cl.kind (bh cl.kind cl.h (th.told.map fun x => x.1.h))), g.all.length⟩, all := g.all ++ [⟨(z13T, false), j, Int.negSucc 0, k, cl⟩] } q gn st → Fix g q gn st := fun q gn st F => by
    rcases F with ⟨a, z, hz, hf⟩ | ⟨k2, th2, s2, h1, h2, hf⟩
    · rcases lk a z hz with ⟨hz, _⟩ | ⟨_, rfl⟩
      · exact .inl ⟨a, z, hz, hf⟩
      · exact absurd (show (0 : Int) ≤ Int.negSucc 0 from hf.1.2.1) (by decide)
    · rcases lt k2 th2 h1 with ⟨_, rfl⟩ | ⟨_, h1⟩
      · cases h2
        exact absurd hf.2.1 (by show ¬ (0 = 5 ∨ 0 = 6); omega)
      · exact .inr ⟨k2, th2, s2, h1, h2, hf⟩
  refine ⟨fun q gn h1 h2 => relm _ _ _ (L.rln q gn h1 h2), fun k2 th2 s2 h1 h2 h3 h4 => ?_, fun a z hz hk ht => ?_⟩
  · rcases lt k2 th2 h1 with ⟨_, rfl⟩ | ⟨_, h1⟩
    · cases h2
      exact ⟨⟨rfl, fun _ => ⟨rfl, rfl⟩, fun q => (by cases q)⟩, fun q => (by cases q)⟩
    · obtain ⟨r1, r2⟩ := L.run k2 th2 s2 h1 h2 h3 h4
      refine ⟨r1, fun hat => ⟨(r2 hat).1, fun q gn st hq F => ?_⟩⟩
      rcases (r2 hat).2 q gn st hq (fixm q gn st F) with r | r | r
      · exact .inl r
      · exact .inr (.inl r)
      · exact .inr (.inr (relm _ _ _ r))
  · rcases lk a z hz with ⟨hz, _⟩ | ⟨_, rfl⟩
    · obtain ⟨u1, u2⟩ := L.fin a z hz hk ht
      refine ⟨u1, fun q gn st hq F => ?_⟩
      rcases u2 q gn st hq (fixm q gn st F) with r | r | r
      · exact .inl r
      · exact .inr (.inl r)
      · exact .inr (.inr (relm _ _ _ r))
    · exact absurd ht (by show ¬ (0 : Int) ≤ Int.negSucc 0; decide)
theorem lat_pick {c most : Nat} (hc1 : 1 ≤ c) (hc2 : c ≤ 256) (hm : most ≤ 1099511627776) {calls : List (List C13)} (hc : Calls64 calls) {g : R13} {j : Nat} (Wf : WF13 calls g) (I : Inv c most g j) (L : Lat c most g j) (t : Int) : Lat c most (g.pick (slO c most) calls j t) (j + 1) := by
  refine pick_cases (slO c most) calls g j t (fun g' => Lat c most g' (j + 1)) (lat_mono L) (fun k cs th s _ hk ht hs => ?_) (fun k cs th cl _ hk ht hs ec => ?_)
  · obtain ⟨q1, q2, q3⟩ := Wf.th k cs th hk ht
    obtain ⟨u1, u2, u3, u4⟩ := q3 s hs
    exact lat_mono (lat_step hc1 hc2 hm (inv_mono I) L ht hs u1)
  · obtain ⟨f1, f2, f3⟩ := wf_fresh hc Wf hk ht ec (slO c most)
    have hb := inv_begin (cl := cl) hc1 (inv_mono I) ht hs
    have hl := lat_begin (cl := cl) L ht
    have hkl : k < g.ths.length := (List.getElem?_eq_some_iff.1 ht).1
    have h := lat_mono (lat_step hc1 hc2 hm hb hl (k := k) (th := ⟨th.told ++ [(z13T, false)], some (P13.fresh (slO c most) cl.kind (bh cl.kind cl.h (th.told.map fun x => x.1.h))), g.all.length⟩) (by show (g.ths.set k _)[k]? = _; exact List.getElem?_set_self hkl) rfl f1)
    simp only [R13.go, List.set_set] at h ⊢
    exact h
theorem lat_at {c most : Nat} (hc1 : 1 ≤ c) (hc2 : c ≤ 256) (hm : most ≤ 1099511627776) {calls : List (List C13)} (hc : Calls64 calls) {picks : List Int} {g : R13} (Wf : WF13 calls g) (I : Inv c most g 0) (L : Lat c most g 0) : ∀ j, Lat c most (r13At (slO c most) calls picks g j) j
  | 0 => L
  | j + 1 => by
    have ih := lat_at hc1 hc2 hm hc (picks := picks) Wf I L j
    show Lat c most (match picks[j]? with | some t => (r13At (slO c most) calls picks g j).pick (slO c most) calls j t | none => r13At (slO c most) calls picks g j) (j + 1)
    split
    · exact lat_pick hc1 hc2 hm hc (r13At_wf hc Wf j) (inv_at hc1 hc2 hm hc Wf I j) ih _
    · exact lat_mono ih
/-- What AnnounceLate asks. -/
theorem late_of {c most : Nat} {g : R13} {j j' : Nat} (I : Inv c most g j') (L : Lat c most g j) {a b : Nat} {x y : Seen13} (hx : g.all[a]? = some x) (hk : x.call.kind = 2) (ht : 0 ≤ x.to) (hy : g.all[b]? = some y) (hf : FinS y) :
    y.t.1.st ∈ x.t.1.need ∨ x.t.1.fl ≤ y.t.1.st ∨ ∃ (d : Nat) (z : Seen13), g.all[d]? = some z ∧ z.call.kind ≠ 0 ∧ z.call.kind ≠ 2 ∧ nm g.all d = y.t.1.h ∧ (z.from_ : Int) ≤ x.to := by
  obtain ⟨i, gn, n1, n2, n3, _⟩ := I.told b y hy hf
  rcases (L.fin a x hx hk ht).2 i gn _ n1 (.inl ⟨b, y, hy, hf, n3, rfl⟩) with r | r | r
  · exact .inl r
  · exact .inr (.inl r)
  · obtain ⟨d, z, z1, z2, z3, z4, z5⟩ := r
    exact .inr (.inr ⟨d, z, z1, z2, z3, by rw [n3]; exact z4, z5⟩)
end Go.Proofs.YtmjiaahpjjnloaaGreat

set_option linter.unusedVariables false
set_option linter.unusedSimpArgs false
namespace Go.Proofs.YtmjiaahpjjnloaaGreat
open Go Go.CM
theorem lat0 {c most : Nat} (hc1 : 1 ≤ c) (hc2 : c ≤ 256) (calls : List (List C13)) : Lat c most (g13 (mem13.alloc (Int.negSucc 0) (List.replicate c 0)) calls) 0 := by
  have hcells : (mem13.alloc (Int.negSucc 0) (List.replicate c 0)).cells = ovN (List.replicate c 0) ((List.replicate 4096 0).set 1 1) 2 := by
    rw [alloc_t (by simp; omega) (by rw [mem13_len, mem13_free]; simp; omega)]
    show ovN (List.replicate c 0) mem13.cells mem13.free = _
    rw [mem13_free, show mem13.cells = (List.replicate 4096 0).set 1 1 from mem13_cells (n := 4096) (by omega) _]
  have hW : ∀ i, W (mem13.alloc (Int.negSucc 0) (List.replicate c 0)) i = 0 := fun i => by
    unfold W Mem.peek
    rw [hcells]
    refine ovN_zero _ _ _ _ ?_
    rw [List.getD_eq_getElem?_getD, List.getElem?_set_ne (by omega), List.getElem?_replicate]
    split <;> rfl
  have hn : ∀ (k : Nat) th, (g13 (mem13.alloc (Int.negSucc 0) (List.replicate c 0)) calls).ths[k]? = some th → th = th0 := fun k th h => by
    simp only [g13, List.getElem?_replicate] at h
    split at h
    · cases h; rfl
    · cases h
  have ha : ∀ (b : Nat) z, (g13 (mem13.alloc (Int.negSucc 0) (List.replicate c 0)) calls).all[b]? = some z → False := fun b z h => by
    have : ([] : List Seen13)[b]? = some z := h
    simp at this
  refine ⟨fun q gn hq h => ?_, fun k th s h1 h2 => (by rw [hn k th h1] at h2; cases h2), fun b z h => (ha b z h).elim⟩
  have : gn < genW (W (mem13.alloc (Int.negSucc 0) (List.replicate c 0)) q) := h
  rw [hW] at this
  exact absurd this (by show ¬ gn < 0; omega)
theorem rdp {va : Value} {rowsA : List (List Value)} {all : List Seen13} {pool : Pool} {R : List HP} {H : CH} (hra : Rows2 (RowS pool) all rowsA) (h : Sat (Vec va 47 11 rowsA :: R) H) {i : Nat} {x : Seen13} (hx : all[i]? = some x) : ∃ bv w, va = slc bv 0 all.length all.length ∧ isCell w = true ∧ (w, x.t.1.need) ∈ pool ∧ ∀ (off j : Nat) (v : Value) (K : Value → Prop), off = i * 11 + j → j < 11 → (sRow x w)[j]? = some v → K v → Ld H bv off K := by
  obtain ⟨r, hr, w, hw, er, hpo⟩ := hra.at hx
  obtain ⟨bv, ev, _⟩ := (h.has Has.vec).slot hr
  rw [hra.1] at ev
  exact ⟨bv, w, ev, hw, hpo, fun off j v K ho hj hv k => ldVec h Has.vec ev hr ho hj (by rw [er]; exact hv) k⟩
def NedA (g : R13) : Prop := ∀ (a : Nat) x, g.all[a]? = some x → x.t.1.need.length ≤ 256
theorem ned_go {g : R13} {all : List Seen13} (N : ∀ (a : Nat) x, all[a]? = some x → x.t.1.need.length ≤ 256) {j k b : Nat} {s : P13} {told : List (T13 × Bool)} (hok : s.Ok) (htl : s.Tl) : NedA (g.go j k s told b all) := fun a x h => by
  obtain ⟨p1, p2, p3⟩ := p13_step s g.M (Int.ofNat k) hok htl
  have h : (seenUpd all b ((s.step g.M (Int.ofNat k)).1.told, (s.step g.M (Int.ofNat k)).1.fin) j)[a]? = some x := h
  unfold seenUpd at h
  cases hb : all[b]? with
  | none => rw [hb] at h; exact N a x h
  | some y =>
    rw [hb] at h
    simp only [List.getElem?_set] at h
    by_cases e : b = a
    · subst e
      rw [if_pos rfl, if_pos (List.getElem?_eq_some_iff.1 hb).1] at h
      cases h
      exact p13_need_le p2
    · rw [if_neg e] at h
      exact N a x h
theorem ned_at {c most : Nat} (hc1 : 1 ≤ c) (hc2 : c ≤ 256) (hm : most ≤ 1099511627776) {calls : List (List C13)} (hc : Calls64 calls) {picks : List Int} {g : R13} (W : WF13 calls g) (N : NedA g) : ∀ j, NedA (r13At (slO c most) calls picks g j)
  | 0 => N
  | j + 1 => by
    have ih := ned_at hc1 hc2 hm hc (picks := picks) W N j
    have W' := r13At_wf hc (sl := slO c most) (picks := picks) W j
    show NedA (match picks[j]? with | some t => (r13At (slO c most) calls picks g j).pick (slO c most) calls j t | none => r13At (slO c most) calls picks g j)
    split
    · generalize r13At (slO c most) calls picks g j = g' at *
      refine pick_cases (slO c most) calls g' j _ NedA ih (fun k cs th s _ hk ht hs => ?_) (fun k cs th cl _ hk ht hs ec => ?_)
      · obtain ⟨q1, q2, q3⟩ := W'.th k cs th hk ht
        obtain ⟨u1, u2, u3, u4⟩ := q3 s hs
        exact ned_go ih u1 u2
      · obtain ⟨f1, f2, f3⟩ := wf_fresh hc W' hk ht ec (slO c most)
        refine ned_go (fun a x h => ?_) f1 f2
        by_cases hb : a < g'.all.length
        · rw [List.getElem?_append_left hb] at h
          exact ih a x h
        · rw [List.getElem?_append_right (by omega)] at h
          cases e : a - g'.all.length with
          | zero => rw [e] at h; cases h; exact Nat.zero_le _
          | succ n => rw [e] at h; simp at h
    · exact ih
theorem leZ_i {a b : Int} : leZ a b = true ↔ a ≤ b := ⟨fun h => of_decide_eq_true h, fun h => decide_eq_true h⟩
theorem ltZ_i {a b : Int} : ltZ a b = true ↔ a < b := ⟨fun h => of_decide_eq_true h, fun h => decide_eq_true h⟩
theorem eqZ_no {a b : Int} (h : a ≠ b) : eqZ a b = false := decide_eq_false h
theorem leZ_no {a b : Int} (h : ¬ a ≤ b) : leZ a b = false := decide_eq_false h
theorem ltZ_no {a b : Int} (h : ¬ a < b) : ltZ a b = false := decide_eq_false h
attribute [local irreducible] AsBool AsWant AsNat AsInt AsCnt AsPtr AsSlc AsLen AsStr AsAgg AsTup AsFn AsIfc Nth Sc NotNil IsNil Must Cd codeW funW Sat SatL wrapN subM mkRow ltZ leZ ltN leN
variable {con : CallT}
set_option maxRecDepth 100000 in
theorem l13gone_ok (hc : Con con lives) {R : List HP} {H : CH} {va : Value} {rowsA : List (List Value)} {all : List Seen13} {pool : Pool} {h : Nat} {to : Int} {K : KP} (hra : Rows2 (RowS pool) all rowsA) (hle : all.length ≤ 1048576) (hs : Sat (Vec va 47 11 rowsA :: R) H)
    (k : ∀ b H1, (b = false → ∀ (d : Nat) z, all[d]? = some z → z.call.kind ≠ 0 → z.call.kind ≠ 2 → nm all d = h → (z.from_ : Int) ≤ to → False) → Sat (Vec va 47 11 rowsA :: R) H1 → K (.bool b) H1) : Call1 Tryz.prog con 20 [va, u64 h, i64 to] H K := by
  refine call_of (hc _ _ _ rfl) ?_
  rw [l13gone_W]
  obtain ⟨pva, eva⟩ := (hs.has Has.vec).shape
  rw [hra.1] at eva
  refine LoopC.ind (n := 300) (by kernel_rfl)
    (fun (d : Nat) σ H => d ≤ all.length ∧ σ 0 = va ∧ σ 1 = u64 h ∧ σ 2 = i64 to ∧ σ 7 = iN d ∧ (∀ (e : Nat) z, e < d → all[e]? = some z → z.call.kind ≠ 0 → z.call.kind ≠ 2 → nm all e = h → (z.from_ : Int) ≤ to → False) ∧ Sat (Vec va 47 11 rowsA :: R) H)
    (fun d => all.length - d) (fun d σ H hI => ?_) 0 _ _ ⟨Nat.zero_le _, rfl, rfl, rfl, rfl, fun e z h => absurd h (Nat.not_lt_zero _), hs⟩
  clear hs
  obtain ⟨hd, a0, a1, a2, a7, hno, hS⟩ := hI
  rw [l13goneA_W]
  rw [a0, a1, a2, a7]
  refine AsLen.eq eva ?_
  repeat (refine gO ?_; intros)
  by_cases hlt : d < all.length
  · refine Cd.t (ltZ_t hlt) ?_
    obtain ⟨z, hz⟩ : ∃ z, all[d]? = some z := ⟨_, List.getElem?_eq_getElem hlt⟩
    obtain ⟨bz, e1, l1⟩ := rd hra hS hz
    have hup : ∀ (hn : z.call.kind ≠ 0 → z.call.kind ≠ 2 → nm all d = h → (z.from_ : Int) ≤ to → False), ∀ (e : Nat) y, e < d + 1 → all[e]? = some y → y.call.kind ≠ 0 → y.call.kind ≠ 2 → nm all e = h → (y.from_ : Int) ≤ to → False := fun hn e y he hy => by
      by_cases q : e = d
      · subst q
        rw [hz] at hy
        cases hy
        exact hn
      · exact hno e y (by omega) hy
    refine AsSlc.eq e1 ?_
    repeat (refine gO ?_; intros)
    refine Must.mk (ltN_t hlt) ?_
    refine l1 _ 9 _ _ (by show 0 + d * 11 + 9 + 0 = _; omega) (by omega) (fun w => rfl) ?_
    repeat (refine gO ?_; intros)
    by_cases q0 : z.call.kind = 0
    · refine Cd.f (by rw [show eqZ z.call.kind (Int.ofNat 0) = true from eqZ_int.2 q0]; rfl) ?_
      repeat (refine gO ?_; intros)
      try rw [addInt]
      refine inR_nat (by omega) ?_
      repeat (refine gO ?_; intros)
      show ∃ y, _ ∧ _
      exact ⟨d + 1, by omega, hlt, a0, a1, a2, rfl, hup fun q => absurd q0 q, hS⟩
    · refine Cd.t (by rw [show eqZ z.call.kind (Int.ofNat 0) = false from eqZ_no q0]; rfl) ?_
      refine AsSlc.eq e1 ?_
      repeat (refine gO ?_; intros)
      refine Must.mk (ltN_t hlt) ?_
      refine l1 _ 9 _ _ (by show 0 + d * 11 + 9 + 0 = _; omega) (by omega) (fun w => rfl) ?_
      repeat (refine gO ?_; intros)
      by_cases q2 : z.call.kind = 2
      · refine Cd.f (by rw [show eqZ z.call.kind (Int.ofNat 2) = true from eqZ_int.2 q2]; rfl) ?_
        repeat (refine gO ?_; intros)
        try rw [addInt]
        refine inR_nat (by omega) ?_
        repeat (refine gO ?_; intros)
        show ∃ y, _ ∧ _
        exact ⟨d + 1, by omega, hlt, a0, a1, a2, rfl, hup fun _ q => absurd q2 q, hS⟩
      · refine Cd.t (by rw [show eqZ z.call.kind (Int.ofNat 2) = false from eqZ_no q2]; rfl) ?_
        refine AsSlc.eq e1 ?_
        repeat (refine gO ?_; intros)
        refine Must.mk (ltN_t hlt) ?_
        refine l1 _ 6 _ _ (by show 0 + d * 11 + 6 = _; omega) (by omega) (fun w => rfl) ?_
        repeat (refine gO ?_; intros)
        by_cases qf : (z.from_ : Int) ≤ to
        · refine Cd.t (leZ_i.2 qf) ?_
          refine l13named_ok (x := z) hc hra hS hle hz q0 q2 fun H1 h1 => ?_
          repeat (refine gO ?_; intros)
          by_cases qn : nm all d = h
          · refine Cd.t (eqN_t qn) ?_
            exact k true H1 (fun q => by cases q) h1
          · refine Cd.f (eqN_f qn) ?_
            repeat (refine gO ?_; intros)
            try rw [addInt]
            refine inR_nat (by omega) ?_
            repeat (refine gO ?_; intros)
            show ∃ y, _ ∧ _
            exact ⟨d + 1, by omega, hlt, a0, a1, a2, rfl, hup fun _ _ q => absurd q qn, h1⟩
        · refine Cd.f (leZ_no qf) ?_
          repeat (refine gO ?_; intros)
          try rw [addInt]
          refine inR_nat (by omega) ?_
          repeat (refine gO ?_; intros)
          show ∃ y, _ ∧ _
          exact ⟨d + 1, by omega, hlt, a0, a1, a2, rfl, hup fun _ _ _ q => absurd q qf, hS⟩
  · refine Cd.f (ltZ_f (by omega)) ?_
    show Cd _ _ _
    refine Cd.t rfl ?_
    exact k false H (fun _ e z hz => hno e z (by have := (List.getElem?_eq_some_iff.1 hz).1; omega) hz) hS
theorem l13needed_ok (hc : Con con lives) {fl t : Nat} {v : Value} {l : List Nat} {L : List HP} {H : CH} {K : KP} (hs : Sat L H) (hv : Has L (Nums v l)) (hl : l.length ≤ 1000000) (hn : t ∈ l ∨ fl ≤ t) (k : ∀ H1, Sat L H1 → K (.bool true) H1) : Call1 Tryz.prog con 21 [.agg ⟨[u64 fl, v]⟩, u64 t] H K := by
  refine call_of (hc _ _ _ rfl) ?_
  rw [l13needed_W]
  obtain ⟨pv, cv, rfl⟩ := (hs.has hv).len
  refine na fun p1 H2 h2 => ?_
  refine LoopC.indP (n := 200) (id := 0) (fun σ H => σ 1 = u64 t ∧ σ 2 = ptr p1 0 ∧ (∀ (i : Nat) x, l[i]? = some x → x ≠ t) ∧ H = H2) (by kernel_rfl)
    (fun (i : Nat) σ H => i ≤ l.length ∧ σ 1 = u64 t ∧ σ 2 = ptr p1 0 ∧ σ 5 = iN i ∧ (∀ (j : Nat) x, j < i → l[j]? = some x → x ≠ t) ∧ H = H2)
    (fun i => l.length - i) (fun i σ H hI => ?_) (fun σ H hP => ?_) 0 _ _ ⟨Nat.zero_le _, rfl, rfl, rfl, fun j x h => absurd h (Nat.not_lt_zero _), rfl⟩
  · obtain ⟨hi, a1, a2, a5, hno, rfl⟩ := hI
    rw [l13neededA_W]
    rw [a1, a2, a5]
    repeat (refine gO ?_; intros)
    by_cases h : i < l.length
    · refine Cd.t (ltZ_t h) ?_
      rcases (hs.has hv).shape with ⟨_, e⟩ | ⟨bv, ov, cv', ev⟩
      · rw [e] at h; simp at h
      injection ev with ev _ _
      subst ev
      repeat (refine gO ?_; intros)
      refine Must.mk (ltN_t h) ?_
      refine ldSrc h2 ((Has.skip hv).src rfl) (by rw [show Nat.mul i 1 = i from Nat.mul_one i]; rfl) (map_get _ h) ?_
      repeat (refine gO ?_; intros)
      by_cases e : l.getD i 0 = t
      · refine Cd.t (eqN_t e) ?_
        exact k _ (h2.ent ee)
      · refine Cd.f (eqN_f e) ?_
        repeat (refine gO ?_; intros)
        try rw [addInt]
        refine inR_nat (by omega) ?_
        repeat (refine gO ?_; intros)
        show ∃ y, _ ∧ _
        refine ⟨i + 1, by omega, h, a1, a2, rfl, fun j x hj hx => ?_, rfl⟩
        by_cases q : j = i
        · subst q
          rw [List.getD_eq_getElem?_getD, hx] at e
          exact e
        · exact hno j x (by omega) hx
    · refine Cd.f (ltZ_f (by omega)) ?_
      show _ = _ ∧ _
      exact ⟨rfl, a1, a2, fun j x hx => hno j x (by have := (List.getElem?_eq_some_iff.1 hx).1; omega) hx, rfl⟩
  · obtain ⟨a1, a2, hno, rfl⟩ := hP
    have hft : fl ≤ t := by
      rcases hn with hn | hn
      · obtain ⟨i, hi⟩ := List.mem_iff_getElem?.1 hn
        exact absurd rfl (hno i t hi)
      · exact hn
    show Cd _ _ _
    refine Cd.t rfl ?_
    rw [a1, a2]
    repeat (refine gO ?_; intros)
    rw [leN_t hft]
    exact k _ (h2.ent ee)
set_option maxRecDepth 100000 in
theorem annLate_ok (hc : Con con lives) (hlive : ∀ H, con 15 ⟨[]⟩ H = some (.bool true, H)) {R : List HP} {H : CH} {n : Int} {most : Nat} {xv xw : Value} {calls : List (List C13)} {picks : List Int} (hc64 : Calls64 calls)
    (hl1 : calls.length ≤ 1048576) (hl2 : ∀ cs ∈ calls, cs.length ≤ 1048576) (hpc : picks.length ≤ 1048576) (hs : Sat (Thr13 xv calls :: IntsR xw picks :: R) H) :
    Call1 Tryz.prog con 4 [.agg ⟨[i64 n, u64 most, xv, xw]⟩] H (fun v _ => v = .bool true) := by
  refine call_of (hc _ _ _ rfl) ?_
  rw [annLate_W]
  refine na fun p1 H1 h1 => ?_
  refine la rfl (la rfl (la rfl (la rfl ?_)))
  refine l13memory_ok hc h1 fun m H8 h8 => ?_
  obtain ⟨hfine, htr⟩ := slots13_fine n most
  cases hr : right13 n most with
  | false =>
    rw [slots13_no hr] at h8 hfine htr ⊢
    repeat (refine gO ?_; intros)
    refine stN (by assumption) (Nat.le_of_ble_eq_true rfl) rfl fun H22 h22 => ?_
    refine call_yes (hlive _) ?_
    repeat (refine gO ?_; intros)
    refine l13right_ok hc h22 fun H31 h31 => ?_
    rw [hr]
    repeat (refine gO ?_; intros)
    rfl
  | true =>
    obtain ⟨c, rfl, c1, c2, c3, c4, es⟩ := slots13_yes hr
    rw [es] at h8 hfine htr ⊢
    have I0 := inv0 (c := c) (most := most) c1 c2 c3 calls
    have L0 := lat0 (c := c) (most := most) c1 c2 calls
    generalize hM1 : mem13.alloc (Int.negSucc 0) (List.replicate c 0) = M1 at h8 hfine htr I0 L0
    repeat (refine gO ?_; intros)
    rename_i p15 H16 h16
    refine stN (by assumption) (Nat.le_of_ble_eq_true rfl) rfl fun H22 h22 => ?_
    refine call_yes (hlive _) ?_
    repeat (refine gO ?_; intros)
    refine l13right_ok hc h22 fun H31 h31 => ?_
    rw [hr]
    repeat (refine gO ?_; intros)
    refine run13_ok (sl := ⟨1, 2, Int.ofNat c, most⟩) (R := Own p1 [i64 (Int.ofNat c), u64 most, xv, xw] :: Own p15 [u64 1, u64 2, i64 (Int.ofNat c), u64 most] :: R) hc hc64 hfine hl1 hl2 hpc htr (h31.ent ee) fun bo eo va phs pool rowsA g H47 hg hpl hra h47 => ?_
    have W0 := wf0 hfine calls
    have N0 : NedA (g13 M1 calls) := fun a x h => by
      have h : ([] : List Seen13)[a]? = some x := h
      simp at h
    have I := inv_at c1 c2 c4 hc64 (picks := picks) W0 I0 picks.length
    have L := lat_at c1 c2 c4 hc64 (picks := picks) W0 I0 L0 picks.length
    have hned := ned_at c1 c2 c4 hc64 (most := most) (picks := picks) W0 N0 picks.length
    have hz := r13At_sz (sl := ⟨1, 2, Int.ofNat c, most⟩) (calls := calls) (picks := picks) (g := g13 M1 calls) picks.length
    rw [← hg] at hz
    rw [show r13At (slO c most) calls picks (g13 M1 calls) picks.length = g from hg.symm] at I L hned
    have hz1 : (g13 M1 calls).all.length = 0 := rfl
    have hle : g.all.length ≤ 1048576 := by omega
    clear hg hz hz1
    have hS0 : Sat (Vec va 47 11 rowsA :: SatL (poolL pool) :: Own p1 [i64 (Int.ofNat c), u64 most, xv, xw] :: Own p15 [u64 1, u64 2, i64 (Int.ofNat c), u64 most] :: R) H47 := h47.ent ee
    obtain ⟨pva, eva⟩ := (hS0.has Has.vec).shape
    rw [hra.1] at eva
    clear h47
    repeat (refine gO ?_; intros)
    refine LoopC.indP (n := 300) (id := 0) (fun σ H => True) (by kernel_rfl)
      (fun (i : Nat) σ H => i ≤ g.all.length ∧ σ 7 = va ∧ σ 8 = iN i ∧ Sat (Vec va 47 11 rowsA :: SatL (poolL pool) :: Own p1 [i64 (Int.ofNat c), u64 most, xv, xw] :: Own p15 [u64 1, u64 2, i64 (Int.ofNat c), u64 most] :: R) H)
      (fun i => g.all.length - i) (fun i σ H hI => ?_) (fun σ H hP => ?_) 0 _ _ ⟨Nat.zero_le _, rfl, rfl, hS0⟩
    · clear hS0 h31 h22 h8 h1
      obtain ⟨hi, b7, b8, hS⟩ := hI
      rw [annLateA_W]
      rw [b7, b8]
      refine AsLen.eq eva ?_
      repeat (refine gO ?_; intros)
      by_cases hil : i < g.all.length
      · refine Cd.t (ltZ_t hil) ?_
        obtain ⟨x, hx⟩ : ∃ x, g.all[i]? = some x := ⟨_, List.getElem?_eq_getElem hil⟩
        obtain ⟨bx, e1, l1⟩ := rd hra hS hx
        refine AsSlc.eq e1 ?_
        repeat (refine gO ?_; intros)
        refine Must.mk (ltN_t hil) ?_
        refine l1 _ 9 _ _ (by show 0 + i * 11 + 9 + 0 = _; omega) (by omega) (fun w => rfl) ?_
        repeat (refine gO ?_; intros)
        by_cases q2 : x.call.kind = 2
        · refine Cd.f (by rw [show eqZ x.call.kind (Int.ofNat 2) = true from eqZ_int.2 q2]; rfl) ?_
          refine AsSlc.eq e1 ?_
          repeat (refine gO ?_; intros)
          refine Must.mk (ltN_t hil) ?_
          refine l1 _ 7 _ _ (by show 0 + i * 11 + 7 = _; omega) (by omega) (fun w => rfl) ?_
          repeat (refine gO ?_; intros)
          by_cases qt : x.to < 0
          · refine Cd.t (ltZ_i.2 qt) ?_
            repeat (refine gO ?_; intros)
            try rw [addInt]
            refine inR_nat (by omega) ?_
            repeat (refine gO ?_; intros)
            show ∃ y, _ ∧ _
            exact ⟨i + 1, by omega, hil, b7, rfl, hS⟩
          · refine Cd.f (ltZ_no qt) ?_
            refine LoopC.indP (n := 300) (id := 2) (fun σ H => σ 7 = va ∧ σ 8 = iN i ∧ Sat (Vec va 47 11 rowsA :: SatL (poolL pool) :: Own p1 [i64 (Int.ofNat c), u64 most, xv, xw] :: Own p15 [u64 1, u64 2, i64 (Int.ofNat c), u64 most] :: R) H) (by kernel_rfl)
              (fun (k : Nat) σ H => k ≤ g.all.length ∧ σ 7 = va ∧ σ 8 = iN i ∧ σ 9 = iN k ∧ Sat (Vec va 47 11 rowsA :: SatL (poolL pool) :: Own p1 [i64 (Int.ofNat c), u64 most, xv, xw] :: Own p15 [u64 1, u64 2, i64 (Int.ofNat c), u64 most] :: R) H)
              (fun k => g.all.length - k) (fun k σ H hI => ?_) (fun σ H hP => ?_) 0 _ _ ⟨Nat.zero_le _, b7, b8, rfl, hS⟩
            · clear hS b7 b8
              obtain ⟨hk, a7, a8, a9, hS⟩ := hI
              rw [annLateB_W]
              rw [a7, a8, a9]
              refine AsLen.eq eva ?_
              repeat (refine gO ?_; intros)
              by_cases hlt : k < g.all.length
              · refine Cd.t (ltZ_t hlt) ?_
                obtain ⟨y, hy⟩ : ∃ y, g.all[k]? = some y := ⟨_, List.getElem?_eq_getElem hlt⟩
                obtain ⟨bY, wY, e2, hwY, _, l2⟩ := rdp hra hS hy
                refine AsSlc.eq e2 ?_
                repeat (refine gO ?_; intros)
                refine Must.mk (ltN_t hlt) ?_
                refine l2 _ 0 _ _ (by show 0 + k * 11 + 0 = _; omega) (by omega) rfl ?_
                refine l2 _ 1 _ _ (by show 0 + k * 11 + 1 = _; omega) (by omega) rfl ?_
                refine l2 _ 2 _ _ (by show 0 + k * 11 + 2 = _; omega) (by omega) rfl ?_
                refine l2 _ 3 _ _ (by show 0 + k * 11 + 3 = _; omega) (by omega) rfl ?_
                refine l2 _ 4 _ _ (by show 0 + k * 11 + 4 = _; omega) (by omega) rfl ?_
                refine l2 _ 5 _ _ (by show 0 + k * 11 + 5 = _; omega) (by omega) rfl ?_
                refine l2 _ 6 _ _ (by show 0 + k * 11 + 6 = _; omega) (by omega) rfl ?_
                refine l2 _ 7 _ _ (by show 0 + k * 11 + 7 = _; omega) (by omega) rfl ?_
                refine l2 _ 8 _ _ (by show 0 + k * 11 + 8 = _; omega) (by omega) rfl ?_
                refine l2 _ 9 _ _ (by show 0 + k * 11 + 9 = _; omega) (by omega) rfl ?_
                refine l2 _ 10 _ _ (by show 0 + k * 11 + 10 = _; omega) (by omega) rfl ?_
                refine na fun p19 H20 h20 => ?_
                refine stN h20 (Nat.le_of_ble_eq_true rfl) (by simp only [List.all_cons, List.all_nil, hwY]; rfl) fun H21 h21 => ?_
                clear h20
                repeat (refine gO ?_; intros)
                by_cases p0 : y.call.kind = 0
                · refine Cd.f (by rw [show eqZ y.call.kind (Int.ofNat 0) = true from eqZ_int.2 p0]; rfl) ?_
                  repeat (refine gO ?_; intros)
                  by_cases pt : y.to < 0
                  · refine Cd.t (ltZ_i.2 pt) ?_
                    repeat (refine gO ?_; intros)
                    try rw [addInt]
                    refine inR_nat (by omega) ?_
                    repeat (refine gO ?_; intros)
                    show ∃ y, _ ∧ _
                    exact ⟨k + 1, by omega, hlt, a7, a8, rfl, h21.ent ee⟩
                  · refine Cd.f (ltZ_no pt) ?_
                    repeat (refine gO ?_; intros)
                    by_cases pe : y.t.1.er = 0
                    · refine Cd.f (by rw [eqZ_t pe]; rfl) ?_
                      have hf : FinS y := ⟨p0, by omega, pe⟩
                      have hlate := late_of I L hx q2 (by omega) hy hf
                      repeat (refine gO ?_; intros)
                      have hv : Sat (Vec va 47 11 rowsA :: _) H21 := h21.pull pp
                      obtain ⟨b3, e3, l3⟩ := rd hra hv hx
                      refine AsSlc.eq e3 ?_
                      repeat (refine gO ?_; intros)
                      refine Must.mk (ltN_t hil) ?_
                      refine l3 _ 7 _ _ (by show 0 + i * 11 + 7 = _; omega) (by omega) (fun w => rfl) ?_
                      refine l13gone_ok hc hra hle hv fun b H39 hb h39 => ?_
                      repeat (refine gO ?_; intros)
                      cases b with
                      | true =>
                        refine Cd.t rfl ?_
                        repeat (refine gO ?_; intros)
                        try rw [addInt]
                        refine inR_nat (by omega) ?_
                        repeat (refine gO ?_; intros)
                        show ∃ y, _ ∧ _
                        exact ⟨k + 1, by omega, hlt, a7, a8, rfl, h39.ent ee⟩
                      | false =>
                        refine Cd.f rfl ?_
                        have hn : y.t.1.st ∈ x.t.1.need ∨ x.t.1.fl ≤ y.t.1.st := by
                          rcases hlate with h | h | ⟨d, z, z1, z2, z3, z4, z5⟩
                          · exact .inl h
                          · exact .inr h
                          · exact (hb rfl d z z1 z2 z3 z4 z5).elim
                        obtain ⟨b4, w4, e4, _, hpo, l4⟩ := rdp hra h39 hx
                        refine AsSlc.eq e4 ?_
                        repeat (refine gO ?_; intros)
                        refine Must.mk (ltN_t hil) ?_
                        refine l4 _ 3 _ _ (by show 0 + i * 11 + 0 + 3 + 0 = _; omega) (by omega) rfl ?_
                        refine l4 _ 4 _ _ (by show 0 + i * 11 + 0 + 3 + 1 = _; omega) (by omega) rfl ?_
                        repeat (refine gO ?_; intros)
                        obtain ⟨i1, hi1⟩ := List.mem_iff_getElem?.1 hpo
                        have hnl := hned _ _ hx
                        refine l13needed_ok hc h39 (Has.all (has_pull (A := SatL (poolL pool)) (by repeat (first | exact pH | apply pT)) fun a s => SatL.mono s a) (i := i1) (by unfold poolL; rw [List.getElem?_map, hi1]; rfl) fun a s => a.mono s) (by omega) hn fun H51 h51 => ?_
                        repeat (refine gO ?_; intros)
                        try rw [addInt]
                        refine inR_nat (by omega) ?_
                        repeat (refine gO ?_; intros)
                        show ∃ y, _ ∧ _
                        exact ⟨k + 1, by omega, hlt, a7, a8, rfl, h51.ent ee⟩
                    · refine Cd.t (by rw [eqZ_f pe]; rfl) ?_
                      repeat (refine gO ?_; intros)
                      try rw [addInt]
                      refine inR_nat (by omega) ?_
                      repeat (refine gO ?_; intros)
                      show ∃ y, _ ∧ _
                      exact ⟨k + 1, by omega, hlt, a7, a8, rfl, h21.ent ee⟩
                · refine Cd.t (by rw [show eqZ y.call.kind (Int.ofNat 0) = false from eqZ_no p0]; rfl) ?_
                  repeat (refine gO ?_; intros)
                  try rw [addInt]
                  refine inR_nat (by omega) ?_
                  repeat (refine gO ?_; intros)
                  show ∃ y, _ ∧ _
                  exact ⟨k + 1, by omega, hlt, a7, a8, rfl, h21.ent ee⟩
              · refine Cd.f (ltZ_f (by omega)) ?_
                show _ = _ ∧ _
                exact ⟨rfl, a7, a8, hS⟩
            · obtain ⟨a7, a8, hS⟩ := hP
              show Cd _ _ _
              refine Cd.t rfl ?_
              rw [a8]
              repeat (refine gO ?_; intros)
              try rw [addInt]
              refine inR_nat (by omega) ?_
              repeat (refine gO ?_; intros)
              show ∃ y, _ ∧ _
              exact ⟨i + 1, by omega, hil, a7, rfl, hS⟩
        · refine Cd.t (by rw [show eqZ x.call.kind (Int.ofNat 2) = false from eqZ_no q2]; rfl) ?_
          repeat (refine gO ?_; intros)
          try rw [addInt]
          refine inR_nat (by omega) ?_
          repeat (refine gO ?_; intros)
          show ∃ y, _ ∧ _
          exact ⟨i + 1, by omega, hil, b7, rfl, hS⟩
      · refine Cd.f (ltZ_f (by omega)) ?_
        show _ = _ ∧ _
        exact ⟨rfl, trivial⟩
    · show Cd _ _ _
      refine Cd.t rfl ?_
      rfl
end Go.Proofs.YtmjiaahpjjnloaaGreat

