/- What the functions do to the memories and procs that they are given: their contracts. The conditions stand in each. -/
import Derived.Test.YtocphcgcpjcfjaaGreatSpA
import Derived.Sort.AssemblyPlain
set_option linter.unusedVariables false
set_option linter.unusedSimpArgs false

set_option linter.unusedVariables false
set_option linter.unusedSimpArgs false
namespace Go.Proofs.YtocphcgcpjcfjaaGreat
open Go Go.CM
theorem ltZ_z {a b : Int} : ltZ a b = true ↔ a < b := ⟨fun h => of_decide_eq_true h, fun h => decide_eq_true h⟩
theorem ltZ_zf {a b : Int} (h : ¬ a < b) : ltZ a b = false := decide_eq_false h
theorem leZ_zt {a b : Int} (h : a ≤ b) : leZ a b = true := decide_eq_true h
theorem leZ_zf {a b : Int} (h : ¬ a ≤ b) : leZ a b = false := decide_eq_false h
theorem cnt_hi {z : Int} (h : (256 : Int) < z) : cnt z = 256 := by
  cases z with
  | ofNat k => exact if_pos (by have := Int.ofNat_lt.1 h; omega)
  | negSucc k => exact absurd h (by have : Int.negSucc k < 0 := Int.negSucc_lt_zero k; omega)
theorem cnt_lo {z : Int} (h : ¬ (256 : Int) < z) (i : Nat) : cnt z ≤ i ↔ z ≤ (Int.ofNat i) := by
  cases z with
  | ofNat k =>
    have hk : ¬ 256 < k := fun q => h (Int.ofNat_lt.2 q)
    show (if 256 < k then 256 else k) ≤ i ↔ _
    rw [if_neg hk]
    exact Int.ofNat_le.symm
  | negSucc k =>
    refine ⟨fun _ => ?_, fun _ => Nat.zero_le _⟩
    have : Int.negSucc k < 0 := Int.negSucc_lt_zero k
    have : (0 : Int) ≤ Int.ofNat i := Int.natCast_nonneg i
    omega
attribute [local irreducible] AsBool AsWant AsNat AsInt AsCnt AsPtr AsSlc AsLen AsStr AsAgg AsTup AsFn AsIfc Nth Sc NotNil IsNil Must Cd codeW funW Sat SatL wrapN subM mkRow ltZ leZ ltN leN
variable {con : CallT}
structure AskS where
  sl : SlotsS
  h : Nat
  dn : Bool
  k : Nat
  g : Nat
  t : Nat
  hd : Bool
def askC (s : AskS) (ex : List Value) : List Value := [u64 s.sl.cam, u64 s.sl.first, i64 s.sl.count, u64 s.sl.most, u64 s.h, .bool s.dn, u8 s.k, u64 s.g, u64 s.t, .bool s.hd] ++ ex
def hThere (sl : SlotsS) (h : Nat) : Bool := hOk h && decide (h % 65536 - 1 < cnt sl.count)
def hWord (sl : SlotsS) (h : Nat) (M : Mem) : Nat := M.peek (addM sl.first (h % 65536 - 1))
def hHolds (sl : SlotsS) (h : Nat) (M : Mem) : Bool := hThere sl h && (eqN (kindW (hWord sl h M)) 3 && eqN (genW (hWord sl h M)) (h / 65536))
def AskS.look (s : AskS) (M : Mem) (th : Int) : AskS × Mem :=
  bif hThere s.sl s.h then (⟨s.sl, s.h, true, kindW (hWord s.sl s.h M), genW (hWord s.sl s.h M), stampW (hWord s.sl s.h M), eqN (kindW (hWord s.sl s.h M)) 3 && eqN (genW (hWord s.sl s.h M)) (s.h / 65536)⟩, M.load th (addM s.sl.first (s.h % 65536 - 1)))
  else ({ s with dn := true }, M)
def ask0 (sl : SlotsS) (h : Nat) : AskS := ⟨sl, h, false, 0, 0, 0, false⟩
theorem hOpen_ok (hc : Con con lives) (sl : SlotsS) {h : Nat} {L : List HP} {H : CH} {K : KP} (hs : Sat L H) (k : ∀ p H1, Sat (Own p (askC (ask0 sl h) []) :: L) H1 → K (ptr p 0) H1) : Call1 Tryz.prog con 25 [.agg ⟨[u64 sl.cam, u64 sl.first, i64 sl.count, u64 sl.most]⟩, u64 h] H K := by
  refine call_of (hc _ _ _ rfl) ?_
  rw [hOpen_W]
  repeat (refine gO ?_; intros)
  exact k _ _ (Sat.ent (by assumption) ee)
theorem hClose_ok (hc : Con con lives) (sl : SlotsS) {h st : Nat} {L : List HP} {H : CH} {K : KP} (hs : Sat L H) (k : ∀ p H1, Sat (Own p (askC (ask0 sl h) [u64 st]) :: L) H1 → K (ptr p 0) H1) : Call1 Tryz.prog con 67 [.agg ⟨[u64 sl.cam, u64 sl.first, i64 sl.count, u64 sl.most]⟩, u64 h, u64 st] H K := by
  refine call_of (hc _ _ _ rfl) ?_
  rw [hClose_W]
  repeat (refine gO ?_; intros)
  exact k _ _ (Sat.ent (by assumption) ee)
theorem hOpenErr_ok (hc : Con con lives) (s : AskS) {ex : List Value} {L : List HP} {H : CH} {p : Nat} {K : KP} (hs : Sat L H) [HasCell L p (askC s ex)] (k : K (iN (if s.dn && !s.hd then 33 else 0)) H) : Call1 Tryz.prog con 27 [ptr p 0] H K := by
  refine call_of (hc _ _ _ rfl) ?_
  rw [hOpenErr_W]
  obtain ⟨sl, h, dn, kk, g, t, hd⟩ := s
  cases dn <;> cases hd
  all_goals
    repeat (refine gO ?_; intros)
    exact k
theorem hOpenStamp_ok (hc : Con con lives) (s : AskS) {ex : List Value} {L : List HP} {H : CH} {p : Nat} {K : KP} (hs : Sat L H) [HasCell L p (askC s ex)] (k : K (u64 (if s.hd then s.t else 0)) H) : Call1 Tryz.prog con 33 [ptr p 0] H K := by
  refine call_of (hc _ _ _ rfl) ?_
  rw [hOpenStamp_W]
  obtain ⟨sl, h, dn, kk, g, t, hd⟩ := s
  cases hd
  all_goals
    repeat (refine gO ?_; intros)
    exact k
theorem hCloseErr_ok (hc : Con con lives) (s : AskS) {st : Nat} {L : List HP} {H : CH} {p : Nat} {K : KP} (hs : Sat L H) [HasCell L p (askC s [u64 st])] (k : K (iN (if s.dn && !(s.hd && eqN s.t st) then 34 else 0)) H) : Call1 Tryz.prog con 34 [ptr p 0] H K := by
  refine call_of (hc _ _ _ rfl) ?_
  rw [hCloseErr_W]
  obtain ⟨sl, h, dn, kk, g, t, hd⟩ := s
  cases dn <;> cases hd
  · repeat (refine gO ?_; intros)
    exact k
  · repeat (refine gO ?_; intros)
    exact k
  · repeat (refine gO ?_; intros)
    exact k
  · repeat (refine gO ?_; intros)
    simp only [Bool.true_and] at k
    cases e : eqN t st with
    | true =>
      refine Cd.f (by rfl) ?_
      rw [e] at k
      exact k
    | false =>
      refine Cd.t (by rfl) ?_
      rw [e] at k
      exact k
theorem hLook_ok (hc : Con con lives) (s : AskS) {ex : List Value} {L R1 R2 R3 : List HP} {H : CH} {p q m n : Nat} {th : Int} {M : Mem} {K : KP} (hs : Sat L H) (hm : Pull L (MemP m M) R1) (hv : Pull R1 (ViewAt q m th n) R2) (hp : Pull R2 (Own p (askC s ex)) R3)
    (hn : n < 1000000000) (ht : M.tr.length < 1000000000) (hb : M.Bd) (hh : s.h < 18446744073709551616)
    (k : ∀ n' H1, n' ≤ n + 1 → Sat (Own p (askC (s.look M th).1 ex) :: MemP m (s.look M th).2 :: ViewAt q m th n' :: R3) H1 → K (.tuple ⟨[]⟩) H1) :
    Call1 Tryz.prog con 80 [ptr p 0, ptr q 0] H K := by
  refine call_of (hc _ _ _ rfl) ?_
  rw [hLook_W]
  have hs0 := hs.takes (.cons hm (.cons hv (.cons hp .nil)))
  simp only [List.cons_append, List.nil_append] at hs0
  clear hs hm hv hp
  obtain ⟨sl, h, dn, kk, g, t, hd⟩ := s
  simp only at hh
  refine stN hs0 (by simp [askC]) rfl fun H1 h1 => ?_
  repeat (refine gO ?_; intros)
  refine wordUnhandle_ok hc hh (fun hf => ?_) (fun htr => ?_)
  · have hth : hThere sl h = false := by unfold hThere; rw [hf]; rfl
    repeat (refine gO ?_; intros)
    have q := k n H1 (Nat.le_succ _)
    simp only [AskS.look, hth, cond_false] at q
    exact q (h1.ent ee)
  · repeat (refine gO ?_; intros)
    by_cases hbig : (256 : Int) < sl.count
    · refine Cd.t (ltZ_z.2 hbig) ?_
      repeat (refine gO ?_; intros)
      by_cases hlt : 256 ≤ h % 65536 - 1
      · have hth : hThere sl h = false := by unfold hThere; rw [cnt_hi hbig, decide_eq_false (by omega), Bool.and_false]
        refine Cd.t (leZ_t hlt) ?_
        have q := k n H1 (Nat.le_succ _)
        simp only [AskS.look, hth, cond_false] at q
        exact q (h1.ent ee)
      · have hth : hThere sl h = true := by unfold hThere; rw [cnt_hi hbig, htr, decide_eq_true (by omega)]; rfl
        refine Cd.f (leZ_f (show h % 65536 - 1 < 256 by omega)) ?_
        refine la rfl ?_
        repeat (refine gO ?_; intros)
        refine Must.mk (cv_small (show h % 65536 - 1 < _ by omega)) ?_
        repeat (refine gO ?_; intros)
        rw [wrapN_small (show h % 65536 - 1 < _ by omega)]
        refine viewLoad_ok (a := addM sl.first (h % 65536 - 1)) hc h1 pp pp hn ht fun H52 h52 => ?_
        have hbp := hb.peek (addM sl.first (h % 65536 - 1))
        generalize hx : M.peek (addM sl.first (h % 65536 - 1)) = x at *
        repeat (refine gO ?_; intros)
        refine wordUnpack_ok hc h52 hbp fun H56 h56 => ?_
        repeat (refine gO ?_; intros)
        refine stN h56 (by show 9 ≤ ex.length + 10; omega) rfl fun H63 h63 => ?_
        repeat (refine gO ?_; intros)
        refine OpN.eqAgg (a := ⟨[u8 (kindW x), u64 (genW x), u64 (stampW x)]⟩) (c := ⟨[u8 3, u64 (h / 65536), u64 (stampW x)]⟩) rfl rfl slot_guard (slot_eq _ _ _ _ _ _ _) ?_
        rw [eqN_self]
        repeat (refine gO ?_; intros)
        rename_i H64 h64
        have q := k (n + 1) H64 (Nat.le_refl _)
        simp only [AskS.look, hth, cond_true, hWord, hx] at q
        refine q ?_
        rw [show (true && true) = true from rfl, Bool.and_true] at h64
        exact h64.ent ee
    · refine Cd.f (ltZ_zf hbig) ?_
      repeat (refine gO ?_; intros)
      have hcl := cnt_lo hbig (h % 65536 - 1)
      have hc256 := cnt_le sl.count
      by_cases hlt : cnt sl.count ≤ h % 65536 - 1
      · have hth : hThere sl h = false := by unfold hThere; rw [decide_eq_false (by omega), Bool.and_false]
        refine Cd.t (leZ_zt (hcl.1 hlt)) ?_
        have q := k n H1 (Nat.le_succ _)
        simp only [AskS.look, hth, cond_false] at q
        exact q (h1.ent ee)
      · have hth : hThere sl h = true := by unfold hThere; rw [htr, decide_eq_true (by omega)]; rfl
        refine Cd.f (leZ_zf fun q => hlt (hcl.2 q)) ?_
        refine la rfl ?_
        repeat (refine gO ?_; intros)
        refine Must.mk (cv_small (show h % 65536 - 1 < _ by omega)) ?_
        repeat (refine gO ?_; intros)
        rw [wrapN_small (show h % 65536 - 1 < _ by omega)]
        refine viewLoad_ok (a := addM sl.first (h % 65536 - 1)) hc h1 pp pp hn ht fun H52 h52 => ?_
        have hbp := hb.peek (addM sl.first (h % 65536 - 1))
        generalize hx : M.peek (addM sl.first (h % 65536 - 1)) = x at *
        repeat (refine gO ?_; intros)
        refine wordUnpack_ok hc h52 hbp fun H56 h56 => ?_
        repeat (refine gO ?_; intros)
        refine stN h56 (by show 9 ≤ ex.length + 10; omega) rfl fun H63 h63 => ?_
        repeat (refine gO ?_; intros)
        refine OpN.eqAgg (a := ⟨[u8 (kindW x), u64 (genW x), u64 (stampW x)]⟩) (c := ⟨[u8 3, u64 (h / 65536), u64 (stampW x)]⟩) rfl rfl slot_guard (slot_eq _ _ _ _ _ _ _) ?_
        rw [eqN_self]
        repeat (refine gO ?_; intros)
        rename_i H64 h64
        have q := k (n + 1) H64 (Nat.le_refl _)
        simp only [AskS.look, hth, cond_true, hWord, hx] at q
        refine q ?_
        rw [show (true && true) = true from rfl, Bool.and_true] at h64
        exact h64.ent ee
end Go.Proofs.YtocphcgcpjcfjaaGreat

set_option linter.unusedVariables false
set_option linter.unusedSimpArgs false
namespace Go.Proofs.YtocphcgcpjcfjaaGreat
open Go Go.CM
attribute [local irreducible] AsBool AsWant AsNat AsInt AsCnt AsPtr AsSlc AsLen AsStr AsAgg AsTup AsFn AsIfc Nth Sc NotNil IsNil Must Cd codeW funW Sat SatL wrapN subM mkRow ltZ leZ ltN leN
variable {con : CallT}
theorem rWhere_ok (hc : Con con lives) (sl : SlotsS) {h : Nat} {L : List HP} {H : CH} {K : KP} (hs : Sat L H) (hh : h < 18446744073709551616)
    (kf : hThere sl h = false → ∀ H1, Sat L H1 → K (.tuple ⟨[u64 0, u64 0, .bool false]⟩) H1) (kt : hThere sl h = true → h % 65536 - 1 < 256 → ∀ H1, Sat L H1 → K (.tuple ⟨[u64 (addM sl.first (h % 65536 - 1)), u64 (h / 65536), .bool true]⟩) H1) :
    Call1 Tryz.prog con 116 [.agg ⟨[u64 sl.cam, u64 sl.first, i64 sl.count, u64 sl.most]⟩, u64 h] H K := by
  refine call_of (hc _ _ _ rfl) ?_
  rw [rWhere_W]
  refine na fun p1 H1 h1 => ?_
  repeat (refine gO ?_; intros)
  have hc256 := cnt_le sl.count
  by_cases hbig : (256 : Int) < sl.count
  · refine Cd.t (ltZ_z.2 hbig) ?_
    refine rUnhandle_ok hc hh (fun hf => ?_) (fun htr => ?_)
    · repeat (refine gO ?_; intros)
      exact kf (by unfold hThere; rw [hf]; rfl) _ (h1.ent ee)
    · repeat (refine gO ?_; intros)
      by_cases hlt : 256 ≤ h % 65536 - 1
      · refine Cd.t (leZ_t hlt) ?_
        repeat (refine gO ?_; intros)
        exact kf (by unfold hThere; rw [cnt_hi hbig, decide_eq_false (by omega), Bool.and_false]) _ (h1.ent ee)
      · refine Cd.f (leZ_f (show h % 65536 - 1 < 256 by omega)) ?_
        repeat (refine gO ?_; intros)
        refine Must.mk (cv_small (show h % 65536 - 1 < _ by omega)) ?_
        repeat (refine gO ?_; intros)
        rw [wrapN_small (show h % 65536 - 1 < _ by omega)]
        exact kt (by unfold hThere; rw [cnt_hi hbig, htr, decide_eq_true (by omega)]; rfl) (by omega) _ (h1.ent ee)
  · refine Cd.f (ltZ_zf hbig) ?_
    have hcl := cnt_lo hbig (h % 65536 - 1)
    refine rUnhandle_ok hc hh (fun hf => ?_) (fun htr => ?_)
    · repeat (refine gO ?_; intros)
      exact kf (by unfold hThere; rw [hf]; rfl) _ (h1.ent ee)
    · repeat (refine gO ?_; intros)
      by_cases hlt : cnt sl.count ≤ h % 65536 - 1
      · refine Cd.t (leZ_zt (hcl.1 hlt)) ?_
        repeat (refine gO ?_; intros)
        exact kf (by unfold hThere; rw [decide_eq_false (by omega), Bool.and_false]) _ (h1.ent ee)
      · refine Cd.f (leZ_zf fun q => hlt (hcl.2 q)) ?_
        repeat (refine gO ?_; intros)
        refine Must.mk (cv_small (show h % 65536 - 1 < _ by omega)) ?_
        repeat (refine gO ?_; intros)
        rw [wrapN_small (show h % 65536 - 1 < _ by omega)]
        exact kt (by unfold hThere; rw [htr, decide_eq_true (by omega)]; rfl) (by omega) _ (h1.ent ee)
def AskS.step (s : AskS) (M : Mem) (th : Int) : AskS × Mem := bif s.dn then (s, M) else s.look M th
theorem hOpenStep_ok (hc : Con con lives) (s : AskS) {ex : List Value} {L R1 R2 R3 : List HP} {H : CH} {p q m n : Nat} {th : Int} {M : Mem} {K : KP} (hs : Sat L H) (hm : Pull L (MemP m M) R1) (hv : Pull R1 (ViewAt q m th n) R2) (hp : Pull R2 (Own p (askC s ex)) R3)
    (hn : n < 1000000000) (ht : M.tr.length < 1000000000) (hb : M.Bd) (hh : s.h < 18446744073709551616)
    (k : ∀ n' H1, n' ≤ n + 1 → Sat (Own p (askC (s.step M th).1 ex) :: MemP m (s.step M th).2 :: ViewAt q m th n' :: R3) H1 → K (.bool true) H1) :
    Call1 Tryz.prog con 26 [ptr p 0, ptr q 0] H K := by
  refine call_of (hc _ _ _ rfl) ?_
  rw [hOpenStep_W]
  have hs0 := hs.takes (.cons hm (.cons hv (.cons hp .nil)))
  simp only [List.cons_append, List.nil_append] at hs0
  clear hs hm hv hp
  obtain ⟨sl, h, dn, kk, g, t, hd⟩ := s
  cases dn with
  | true =>
    repeat (refine gO ?_; intros)
    exact k n H (Nat.le_succ _) (hs0.ent ee)
  | false =>
    repeat (refine gO ?_; intros)
    refine hLook_ok hc ⟨sl, h, false, kk, g, t, hd⟩ hs0 pp pp pp hn ht hb hh fun n' H1 hn' h1 => ?_
    exact k n' H1 hn' (h1.ent ee)
theorem hCloseStep_ok (hc : Con con lives) (s : AskS) {ex : List Value} {L R1 R2 R3 : List HP} {H : CH} {p q m n : Nat} {th : Int} {M : Mem} {K : KP} (hs : Sat L H) (hm : Pull L (MemP m M) R1) (hv : Pull R1 (ViewAt q m th n) R2) (hp : Pull R2 (Own p (askC s ex)) R3)
    (hn : n < 1000000000) (ht : M.tr.length < 1000000000) (hb : M.Bd) (hh : s.h < 18446744073709551616)
    (k : ∀ n' H1, n' ≤ n + 1 → Sat (Own p (askC (s.step M th).1 ex) :: MemP m (s.step M th).2 :: ViewAt q m th n' :: R3) H1 → K (.bool true) H1) :
    Call1 Tryz.prog con 68 [ptr p 0, ptr q 0] H K := by
  refine call_of (hc _ _ _ rfl) ?_
  rw [hCloseStep_W]
  have hs0 := hs.takes (.cons hm (.cons hv (.cons hp .nil)))
  simp only [List.cons_append, List.nil_append] at hs0
  clear hs hm hv hp
  obtain ⟨sl, h, dn, kk, g, t, hd⟩ := s
  cases dn with
  | true =>
    repeat (refine gO ?_; intros)
    exact k n H (Nat.le_succ _) (hs0.ent ee)
  | false =>
    repeat (refine gO ?_; intros)
    refine hLook_ok hc ⟨sl, h, false, kk, g, t, hd⟩ hs0 pp pp pp hn ht hb hh fun n' H1 hn' h1 => ?_
    exact k n' H1 hn' (h1.ent ee)
end Go.Proofs.YtocphcgcpjcfjaaGreat

set_option linter.unusedVariables false
set_option linter.unusedSimpArgs false
namespace Go.Proofs.YtocphcgcpjcfjaaGreat
open Go Go.CM
attribute [local irreducible] AsBool AsWant AsNat AsInt AsCnt AsPtr AsSlc AsLen AsStr AsAgg AsTup AsFn AsIfc Nth Sc NotNil IsNil Must Cd codeW funW Sat SatL wrapN subM mkRow ltZ leZ ltN leN
variable {con : CallT}
theorem rOpenStep_ok (hc : Con con lives) (sl : SlotsS) {h : Nat} {c : Nat → Value} {rest : List Value} {L R1 R2 : List HP} {H : CH} {p m : Nat} {th : Int} {M : Mem} {K : KP} (hs : Sat L H) (hm : Pull L (RefP m M) R1) (hp : Pull R1 (Own p ([c 0, c 1, c 2, c 3, c 4, c 5, c 6, c 7, iN 0, u64 sl.cam, u64 sl.first, i64 sl.count, u64 sl.most, u64 h, u64 0, iN 0] ++ rest)) R2)
    (ht : M.tr.length < 1000000000) (hb : M.Bd) (hh : h < 18446744073709551616)
    (k : ∀ H1, Sat (Own p ([c 0, c 1, c 2, c 3, c 4, c 5, c 6, c 7, iN 1, u64 sl.cam, u64 sl.first, i64 sl.count, u64 sl.most, u64 h, u64 (bif hHolds sl h M then stampW (hWord sl h M) else 0), iN (bif hHolds sl h M then 0 else 33)] ++ rest) :: RefP m (bif hThere sl h then M.load th (addM sl.first (h % 65536 - 1)) else M) :: R2) H1 → K (.bool true) H1) :
    Call1 Tryz.prog con 93 [ptr p 8, ptr m 0, i64 th] H K := by
  refine call_of (hc _ _ _ rfl) ?_
  rw [rOpenStep_W]
  have hs0 := hs.takes (.cons hm (.cons hp .nil))
  simp only [List.cons_append, List.nil_append] at hs0
  clear hs hm hp
  repeat (refine gO ?_; intros)
  rename_i H4 h4
  refine rWhere_ok hc sl h4 hh (fun hth H5 h5 => ?_) (fun hth hlt H5 h5 => ?_)
  · have hno : hHolds sl h M = false := by unfold hHolds; rw [hth]; rfl
    simp only [hth, hno, cond_false, Bool.false_and] at k
    repeat (refine gO ?_; intros)
    exact k _ (h5.ent ee)
  · repeat (refine gO ?_; intros)
    refine refLoad_ok (a := addM sl.first (h % 65536 - 1)) hc h5 pp ht fun H32 h32 => ?_
    have hbp := hb.peek (addM sl.first (h % 65536 - 1))
    have hHo : hHolds sl h M = (eqN (kindW (M.peek (addM sl.first (h % 65536 - 1)))) 3 && eqN (genW (M.peek (addM sl.first (h % 65536 - 1)))) (h / 65536)) := by unfold hHolds hWord; rw [hth]; rfl
    have hW : hWord sl h M = M.peek (addM sl.first (h % 65536 - 1)) := rfl
    rw [hHo, hW] at k
    simp only [hth, cond_true] at k
    generalize M.peek (addM sl.first (h % 65536 - 1)) = x at *
    repeat (refine gO ?_; intros)
    refine rUnpack_ok hc h32 hbp fun H36 h36 => ?_
    repeat (refine gO ?_; intros)
    refine stN (by assumption) (Nat.le_of_ble_eq_true rfl) rfl fun H43 h43 => ?_
    repeat (refine gO ?_; intros)
    cases e1 : eqN (kindW x) 3 with
    | false =>
      rw [e1] at k
      refine Cd.f rfl ?_
      repeat (refine gO ?_; intros)
      exact k _ (h43.ent ee)
    | true =>
      rw [e1] at k
      refine Cd.t rfl ?_
      repeat (refine gO ?_; intros)
      cases e2 : eqN (genW x) (h / 65536) with
      | false =>
        rw [e2] at k
        refine Cd.f rfl ?_
        repeat (refine gO ?_; intros)
        exact k _ (h43.ent ee)
      | true =>
        rw [e2] at k
        refine Cd.t rfl ?_
        repeat (refine gO ?_; intros)
        exact k _ (Sat.ent (by assumption) ee)
theorem rCloseStep_ok (hc : Con con lives) (sl : SlotsS) {h st : Nat} {c : Nat → Value} {rest : List Value} {L R1 R2 : List HP} {H : CH} {p m : Nat} {th : Int} {M : Mem} {K : KP} (hs : Sat L H) (hm : Pull L (RefP m M) R1) (hp : Pull R1 (Own p ([c 0, c 1, c 2, c 3, c 4, c 5, c 6, c 7, c 8, c 9, c 10, c 11, c 12, c 13, c 14, c 15, iN 0, u64 sl.cam, u64 sl.first, i64 sl.count, u64 sl.most, u64 h, u64 st, iN 0] ++ rest)) R2)
    (ht : M.tr.length < 1000000000) (hb : M.Bd) (hh : h < 18446744073709551616)
    (k : ∀ H1, Sat (Own p ([c 0, c 1, c 2, c 3, c 4, c 5, c 6, c 7, c 8, c 9, c 10, c 11, c 12, c 13, c 14, c 15, iN 1, u64 sl.cam, u64 sl.first, i64 sl.count, u64 sl.most, u64 h, u64 st, iN (bif hHolds sl h M && eqN (stampW (hWord sl h M)) st then 0 else 34)] ++ rest) :: RefP m (bif hThere sl h then M.load th (addM sl.first (h % 65536 - 1)) else M) :: R2) H1 → K (.bool true) H1) :
    Call1 Tryz.prog con 94 [ptr p 16, ptr m 0, i64 th] H K := by
  refine call_of (hc _ _ _ rfl) ?_
  rw [rCloseStep_W]
  have hs0 := hs.takes (.cons hm (.cons hp .nil))
  simp only [List.cons_append, List.nil_append] at hs0
  clear hs hm hp
  repeat (refine gO ?_; intros)
  rename_i H4 h4
  refine rWhere_ok hc sl h4 hh (fun hth H5 h5 => ?_) (fun hth hlt H5 h5 => ?_)
  · have hno : hHolds sl h M = false := by unfold hHolds; rw [hth]; rfl
    simp only [hth, hno, cond_false, Bool.false_and] at k
    repeat (refine gO ?_; intros)
    exact k _ (h5.ent ee)
  · repeat (refine gO ?_; intros)
    refine refLoad_ok (a := addM sl.first (h % 65536 - 1)) hc h5 pp ht fun H32 h32 => ?_
    have hbp := hb.peek (addM sl.first (h % 65536 - 1))
    have hHo : hHolds sl h M = (eqN (kindW (M.peek (addM sl.first (h % 65536 - 1)))) 3 && eqN (genW (M.peek (addM sl.first (h % 65536 - 1)))) (h / 65536)) := by unfold hHolds hWord; rw [hth]; rfl
    have hW : hWord sl h M = M.peek (addM sl.first (h % 65536 - 1)) := rfl
    rw [hHo, hW] at k
    simp only [hth, cond_true] at k
    generalize M.peek (addM sl.first (h % 65536 - 1)) = x at *
    repeat (refine gO ?_; intros)
    refine rUnpack_ok hc h32 hbp fun H36 h36 => ?_
    repeat (refine gO ?_; intros)
    refine stN (by assumption) (Nat.le_of_ble_eq_true rfl) rfl fun H43 h43 => ?_
    repeat (refine gO ?_; intros)
    cases e1 : eqN (kindW x) 3 with
    | false =>
      rw [e1] at k
      refine Cd.f rfl ?_
      repeat (refine gO ?_; intros)
      exact k _ (h43.ent ee)
    | true =>
      rw [e1] at k
      refine Cd.t rfl ?_
      repeat (refine gO ?_; intros)
      cases e2 : eqN (genW x) (h / 65536) with
      | false =>
        rw [e2] at k
        refine Cd.f rfl ?_
        repeat (refine gO ?_; intros)
        exact k _ (h43.ent ee)
      | true =>
        rw [e2] at k
        refine Cd.t rfl ?_
        repeat (refine gO ?_; intros)
        cases e3 : eqN (stampW x) st with
        | false =>
          rw [e3] at k
          refine Cd.f rfl ?_
          repeat (refine gO ?_; intros)
          exact k _ (h43.ent ee)
        | true =>
          rw [e3] at k
          refine Cd.t rfl ?_
          repeat (refine gO ?_; intros)
          exact k _ (Sat.ent (by assumption) ee)
end Go.Proofs.YtocphcgcpjcfjaaGreat

set_option linter.unusedVariables false
set_option linter.unusedSimpArgs false
namespace Go.Proofs.YtocphcgcpjcfjaaGreat
open Go Go.CM
def hnd (i g : Nat) : Nat := i + 1 + g * 65536
def hdsN (sl : SlotsS) (M : Mem) : Nat → List Nat
  | 0 => []
  | n + 1 => if kindW (M.peek (addM sl.first n)) = 3 then hdsN sl M n ++ [hnd n (genW (M.peek (addM sl.first n)))] else hdsN sl M n
theorem hdsN_yes {sl : SlotsS} {M : Mem} {n : Nat} (h : kindW (M.peek (addM sl.first n)) = 3) : hdsN sl M (n + 1) = hdsN sl M n ++ [hnd n (genW (M.peek (addM sl.first n)))] := if_pos h
theorem hdsN_no {sl : SlotsS} {M : Mem} {n : Nat} (h : ¬ kindW (M.peek (addM sl.first n)) = 3) : hdsN sl M (n + 1) = hdsN sl M n := if_neg h
theorem hdsN_mem {sl : SlotsS} {M : Mem} {x : Nat} : ∀ {n : Nat}, x ∈ hdsN sl M n ↔ ∃ i, i < n ∧ kindW (M.peek (addM sl.first i)) = 3 ∧ x = hnd i (genW (M.peek (addM sl.first i)))
  | 0 => ⟨fun h => absurd h (by simp [hdsN]), fun ⟨i, h, _⟩ => absurd h (Nat.not_lt_zero i)⟩
  | n + 1 => by
    by_cases h : kindW (M.peek (addM sl.first n)) = 3
    · rw [hdsN_yes h, List.mem_append, hdsN_mem, List.mem_singleton]
      constructor
      · rintro (⟨i, h1, h2⟩ | rfl)
        · exact ⟨i, by omega, h2⟩
        · exact ⟨n, Nat.lt_succ_self n, h, rfl⟩
      · rintro ⟨i, h1, h2, h3⟩
        by_cases e : i = n
        · subst e; exact .inr h3
        · exact .inl ⟨i, by omega, h2, h3⟩
    · rw [hdsN_no h, hdsN_mem]
      constructor
      · rintro ⟨i, h1, h2⟩; exact ⟨i, by omega, h2⟩
      · rintro ⟨i, h1, h2, h3⟩
        by_cases e : i = n
        · subst e; exact absurd h2 h
        · exact ⟨i, by omega, h2, h3⟩
theorem hnd_inj {i j g g' : Nat} (hi : i < 256) (hj : j < 256) (h : hnd i g = hnd j g') : i = j ∧ g = g' := by unfold hnd at h; omega
theorem hnd_lt {i g : Nat} (hi : i < 256) (hg : g < 1048576) : hnd i g < 18446744073709551616 := by unfold hnd; omega
theorem hdsN_lt {sl : SlotsS} {M : Mem} {n x : Nat} (hn : n ≤ 256) (h : x ∈ hdsN sl M n) : x < 18446744073709551616 := by
  obtain ⟨i, h1, _, rfl⟩ := hdsN_mem.1 h
  exact hnd_lt (by omega) (genW_lt _)
theorem hdsN_len (sl : SlotsS) (M : Mem) : ∀ n, (hdsN sl M n).length ≤ n
  | 0 => Nat.le_refl _
  | n + 1 => by
    have ih := hdsN_len sl M n
    by_cases h : kindW (M.peek (addM sl.first n)) = 3
    · rw [hdsN_yes h, List.length_append]; simp; omega
    · rw [hdsN_no h]; omega
theorem hdsN_nodup (sl : SlotsS) (M : Mem) : ∀ n, n ≤ 256 → (hdsN sl M n).Nodup
  | 0, _ => List.nodup_nil
  | n + 1, hn => by
    have ih := hdsN_nodup sl M n (by omega)
    by_cases h : kindW (M.peek (addM sl.first n)) = 3
    · rw [hdsN_yes h]
      refine List.nodup_append.2 ⟨ih, by simp, fun a ha b hb e => ?_⟩
      rw [List.mem_singleton] at hb
      obtain ⟨i, h1, _, h3⟩ := hdsN_mem.1 ha
      have := (hnd_inj (by omega) (by omega) (h3.symm.trans (e.trans hb))).1
      omega
    · rw [hdsN_no h]; exact ih
def srt (l : List Nat) : List Nat := rise l 18446744073709551616
def liveL (sl : SlotsS) (M : Mem) : List Nat := srt (hdsN sl M (cnt sl.count))
theorem srt_mem {l : List Nat} (hl : ∀ x ∈ l, x < 18446744073709551616) {x : Nat} : x ∈ srt l ↔ x ∈ l := by
  unfold srt
  rw [rise_mem]
  exact ⟨fun h => h.1, fun h => ⟨h, hl x h⟩⟩
theorem srt_len (l : List Nat) : (srt l).length ≤ l.length := rise_le _ l
theorem liveL_len (sl : SlotsS) (M : Mem) : (liveL sl M).length ≤ 256 := by
  have h1 := srt_len (hdsN sl M (cnt sl.count))
  have h2 := hdsN_len sl M (cnt sl.count)
  have h3 := cnt_le sl.count
  show (srt (hdsN sl M (cnt sl.count))).length ≤ 256
  omega
theorem srt_perm {l : List Nat} {n : Nat} {d : Array Nat} (hl : ∀ x ∈ l, x < 18446744073709551616) (hn : l.Nodup) (hp : l.Perm d.toList) (hs : Sort.SortedIn ltU 0 n d) (hd : d.size = n) : d.toList = srt l := by
  refine inc_unique ?_ (rise_inc _ _) fun x => ?_
  · have nd : d.toList.Nodup := hp.nodup_iff.1 hn
    refine List.pairwise_iff_getElem.2 fun i j hi hj hij => ?_
    have h1 := hs i j (Nat.zero_le _) hij (by rw [Array.length_toList] at hj; omega)
    rw [Array.length_toList] at hi hj
    rw [Array.getElem_toList, Array.getElem_toList, ← getElem!_pos d i (by omega), ← getElem!_pos d j (by omega)]
    have h2 := ltN_n h1
    have h3 : d[i]! ≠ d[j]! := fun e => by
      rw [getElem!_pos d i (by omega), getElem!_pos d j (by omega), ← Array.getElem_toList, ← Array.getElem_toList] at e
      exact absurd ((List.getElem_inj nd).1 e) (by omega)
    omega
  · rw [← hp.mem_iff]
    exact (srt_mem hl).symm
theorem ins_at {s : List Nat} {x k : Nat} (hs : IncL s) (hx : x ∉ s) (h1 : ∀ y ∈ s.take k, y < x) (h2 : ∀ y, s[k]? = some y → x ≤ y) : IncL (s.take k ++ x :: s.drop k) := by
  have hd : IncL (s.drop k) := hs.sublist (List.drop_sublist k s)
  have hgt : ∀ y ∈ s.drop k, x < y := by
    cases e : s.drop k with
    | nil => intro y hy; cases hy
    | cons z r =>
      have ez : s[k]? = some z := by
        have := List.getElem?_drop (xs := s) (i := k) (j := 0)
        rw [e] at this
        simpa using this.symm
      have hz := h2 z ez
      have hne : x ≠ z := fun q => hx (q ▸ List.mem_of_getElem? ez)
      rw [e] at hd
      intro y hy
      rcases List.mem_cons.1 hy with rfl | hy
      · omega
      · have := (List.pairwise_cons.1 hd).1 y hy; omega
  refine List.pairwise_append.2 ⟨hs.sublist (List.take_sublist k s), List.pairwise_cons.2 ⟨hgt, hd⟩, fun a ha b hb => ?_⟩
  have := h1 a ha
  rcases List.mem_cons.1 hb with rfl | hb
  · exact this
  · have := hgt b hb; omega
theorem srt_snoc {l : List Nat} {x k : Nat} (hl : ∀ y ∈ l, y < 18446744073709551616) (hx0 : x < 18446744073709551616) (hx : x ∉ l) (h1 : ∀ y ∈ (srt l).take k, y < x) (h2 : ∀ y, (srt l)[k]? = some y → x ≤ y) : (srt l).take k ++ x :: (srt l).drop k = srt (l ++ [x]) := by
  have hl2 : ∀ y ∈ l ++ [x], y < 18446744073709551616 := fun y hy => by
    rcases List.mem_append.1 hy with h | h
    · exact hl y h
    · rw [List.mem_singleton.1 h]; exact hx0
  refine inc_unique (ins_at (rise_inc _ _) (fun h => hx ((srt_mem hl).1 h)) h1 h2) (rise_inc _ _) fun y => ?_
  refine Iff.trans ?_ (srt_mem hl2).symm
  rw [List.mem_append, List.mem_append, List.mem_cons, List.mem_singleton, ← srt_mem hl]
  conv => rhs; rw [← List.take_append_drop k (srt l), List.mem_append]
  constructor
  · rintro (h | h | h)
    · exact .inl (.inl h)
    · exact .inr h
    · exact .inl (.inr h)
  · rintro ((h | h) | h)
    · exact .inl h
    · exact .inr (.inr h)
    · exact .inr (.inl h)
end Go.Proofs.YtocphcgcpjcfjaaGreat

set_option linter.unusedVariables false
set_option linter.unusedSimpArgs false
namespace Go.Proofs.YtocphcgcpjcfjaaGreat
open Go Go.CM
attribute [local irreducible] AsBool AsWant AsNat AsInt AsCnt AsPtr AsSlc AsLen AsStr AsAgg AsTup AsFn AsIfc Nth Sc NotNil IsNil Must Cd codeW funW Sat SatL wrapN subM mkRow ltZ leZ ltN leN
theorem app_zero {P : Program} {H : CH} {st xt e s by_ b n xc : Nat} {q : Option Addr} {K : KP} (ht : elemOk P st e s by_ = true) (hxt : ∃ e', P.underlying xt = some (.slice e'))
    (hx : srcCells H s 0 (.slice q 0 xc) = some []) (k : K (slc b 0 n n) H) : App P st xt H (slc b 0 n n) (.slice q 0 xc) K := by
  obtain ⟨hu, ⟨i, z, hi, hz, h1, h2, h3⟩, hs0⟩ := elemOk.out ht
  obtain ⟨e', hu'⟩ := hxt
  obtain ⟨s, rfl⟩ : ∃ m, s = m + 1 := ⟨s - 1, by omega⟩
  have hbeq : Nat.beq ([] : List Value).length (0 * (s + 1)) = true := by rw [Nat.zero_mul]; rfl
  have hble : Nat.ble (n + 0) n = true := Nat.ble_eq_true_of_le (Nat.le_refl n)
  refine App.of (v := slc b 0 n n) (H1 := H) ?_ k
  simp only [cappend, hu, hu', hi, hz, h1, hx, hbeq, hble, cond_true, List.getElem?_toArray, List.getElem?_cons_zero, List.getElem?_cons_succ]
theorem slcNil {P : Program} {H : CH} {t e s by_ : Nat} {k' : IntKind} {K : Value → Prop} (ht : elemOk P t e (s + 1) by_ = true) (k : K snil) : Slc P H t snil (some (.int k' (Int.ofNat 0))) none none K := by
  obtain ⟨hu, ⟨i, z, hi, hz, g1, g2, g3⟩, hs0⟩ := elemOk.out ht
  have hsz : szOf P e = some (s + 1) := by unfold szOf; rw [hi]; simp [g1]
  have hbd : cbounds 0 0 (some (.int k' (Int.ofNat 0))) none none = some (0, 0, 0) := rfl
  refine ⟨?_⟩
  show match cslice P H t (.slice none 0 0) _ _ _ with | some v => K v | none => False
  unfold cslice
  simp only [hu, hbd, hsz]
  exact k
variable {con : CallT}
theorem sameU_ok (hc : Con con lives) {L : List HP} {H : CH} {v w : Value} {l : List Nat} {K : KP} (hs : Sat L H) (hv : Has L (Nums v l)) (hw : Has L (Nums w l)) (hl : l.length ≤ 1000000000) (k : K (.bool true) H) :
    Call1 Tryz.prog con 28 [v, w] H K := by
  refine call_of (hc _ _ _ rfl) ?_
  rw [sameU_W]
  obtain ⟨pv, cv, rfl⟩ := (hs.has hv).len
  obtain ⟨pw, cw, rfl⟩ := (hs.has hw).len
  repeat (refine gO ?_; intros)
  refine Cd.f (by rw [eqZ_self]; rfl) ?_
  refine LoopC.ind (n := 100) (by kernel_rfl) (fun (i : Nat) σ H1 => σ 0 = .slice pv l.length cv ∧ σ 1 = .slice pw l.length cw ∧ σ 5 = iN i ∧ i ≤ l.length ∧ H1 = H) (fun i => l.length - i) (fun i σ H1 hI => ?_) 0 _ _ ⟨rfl, rfl, rfl, Nat.zero_le _, rfl⟩
  obtain ⟨e0, e1, e5, hi, rfl⟩ := hI
  rw [sameUL_W]
  simp only [e0, e1, e5]
  repeat (refine gO ?_; intros)
  rcases Nat.lt_or_ge i l.length with hlt | hge
  · refine Cd.t (ltZ_t (by omega)) ?_
    rcases (hs.has hv).shape with ⟨h3, h4⟩ | ⟨b, o, c', h3⟩
    · rw [h4] at hlt; simp at hlt
    rcases (hs.has hw).shape with ⟨h5, h6⟩ | ⟨b', o', c'', h5⟩
    · rw [h6] at hlt; simp at hlt
    cases h3
    cases h5
    repeat (refine gO ?_; intros)
    refine Must.mk (ltN_t hlt) ?_
    refine ldSrc hs (hv.src rfl) (by rw [show Nat.mul i 1 = i from Nat.mul_one i]; rfl) (map_get _ hlt) ?_
    repeat (refine gO ?_; intros)
    refine Must.mk (ltN_t hlt) ?_
    refine ldSrc hs (hw.src rfl) (by rw [show Nat.mul i 1 = i from Nat.mul_one i]; rfl) (map_get _ hlt) ?_
    repeat (refine gO ?_; intros)
    refine Cd.f (by rw [eqN_self]; rfl) ?_
    repeat (refine gO ?_; intros)
    refine inR_nat (n := i + 1) (by omega) ?_
    show ∃ y, _ ∧ _
    exact ⟨i + 1, by omega, e0, e1, rfl, hlt, rfl⟩
  · refine Cd.f (ltZ_f (by omega)) ?_
    show Cd _ _ _
    refine Cd.t (eqN_self 0) ?_
    exact k
theorem rowsU_len (l : List Nat) : (rowsU l).length = l.length := by simp
theorem rowsU_one (l : List Nat) : ∀ r ∈ rowsU l, r.length = 1 := fun r hr => by
  obtain ⟨x, _, rfl⟩ := List.mem_map.1 hr
  rfl
theorem rowsU_app (a b : List Nat) : rowsU (a ++ b) = rowsU a ++ rowsU b := List.map_append
theorem app_rest {L : List HP} {H : CH} {v w : Value} {a s : List Nat} {k : Nat} {K : Value → KP} (hs : Sat (Vec w tU 1 (rowsU a) :: Vec v tU 1 (rowsU s) :: L) H) (ha : a ≠ []) (hk : k ≤ s.length) (hl : a.length + s.length ≤ 1000000)
    (kk : ∀ v16 v' H1, Sat (Vec v' tU 1 (rowsU (a ++ s.drop k)) :: L) H1 → K v16 v' H1) : Slc Tryz.prog H tUS v (some (iN k)) none none fun v16 => App Tryz.prog tUS tUS H w v16 (K v16) := by
  have hs2 : Sat (Vec v tU 1 (rowsU s) :: Vec w tU 1 (rowsU a) :: L) H := hs.ent ee
  obtain ⟨y, ey⟩ : ∃ y, a[0]? = some y := ⟨_, List.getElem?_eq_getElem (List.length_pos_iff.2 ha)⟩
  obtain ⟨bw, ew, _⟩ := (hs.has Has.vec).slot (i := 0) (row := [u64 y]) (by rw [List.getElem?_map, ey]; rfl)
  rw [rowsU_len] at ew
  cases s with
  | nil =>
    obtain rfl := vec_nil (hs2.has Has.vec)
    obtain rfl : k = 0 := by simpa using hk
    refine slcNil el_u64 ?_
    rw [ew]
    refine app_zero el_u64 sl_u64 rfl ?_
    rw [← ew]
    refine kk _ w H ?_
    rw [List.drop_nil, List.append_nil]
    exact hs.ent ee
  | cons x s' =>
    obtain ⟨b, ev, _⟩ := (hs2.has Has.vec).slot (i := 0) (row := [u64 x]) rfl
    rw [rowsU_len] at ev
    subst ev
    generalize es : x :: s' = s at *
    have hs3 : Sat (Row b tU 1 true (s.map u64) :: Vec w tU 1 (rowsU a) :: L) H := hs2.imp fun g q => by
      rcases q.2 with ⟨h, _⟩ | ⟨b', _, e, h⟩
      · cases h
      · injection e with e1 _ _
        injection e1 with e4
        injection e4 with e5 _ _
        subst e5
        rw [rowsU_flat] at h
        exact h
    refine slcLo hs3 el_u64 (n := s.length) (by simp) hk ?_
    rw [show k * (0 + 1) = k from Nat.mul_one k]
    have hsrc : Src (Row b tU 1 true (s.map u64) :: Vec w tU 1 (rowsU a) :: L) b k ((rowsU (s.drop k)).flatten) := Src.cell (n := s.length - k) (by
      rw [rowsU_flat, ← List.map_drop, List.take_of_length_le (by simp)])
    by_cases e : k = s.length
    · subst e
      rw [Nat.sub_self, ew]
      rw [List.drop_length] at hsrc
      refine app_zero el_u64 sl_u64 (src_cells hs3 (new := []) hsrc rfl) ?_
      rw [← ew]
      refine kk _ w H ?_
      rw [List.drop_length, List.append_nil]
      exact hs3.ent ee
    · refine app_vec (new := rowsU (s.drop k)) hs3 pp el_u64 (by omega) sl_u64 hsrc (by simp) (rowsU_one _) (by simp; omega) (by rw [rowsU_flat]; exact isCell_u64 _) fun v' H1 h1 => ?_
      rw [← rowsU_app] at h1
      exact kk _ v' H1 (h1.ent ee)
theorem sort_vec (hc : Con con lives) {L : List HP} {H : CH} {v : Value} {l : List Nat} {K : KP} (hs : Sat (Vec v tU 1 (rowsU l) :: L) H) (hl : l.length ≤ 256) (hb : ∀ x ∈ l, x < 18446744073709551616) (hn : l.Nodup)
    (k : ∀ H1, Sat (Vec v tU 1 (rowsU (srt l)) :: L) H1 → K unit H1) : Call1 Tryz.prog con 79 [v] H K := by
  cases l with
  | nil =>
    obtain rfl := vec_nil (hs.has Has.vec)
    exact sortU_nil hc hs fun H1 h1 => k H1 h1
  | cons x l' =>
    obtain ⟨b, ev, _⟩ := (hs.has Has.vec).slot (i := 0) (row := [u64 x]) rfl
    rw [rowsU_len] at ev
    subst ev
    generalize es : x :: l' = l at *
    have hne : l ≠ [] := by rw [← es]; simp
    generalize hd : l.toArray = d
    have hdl : d.toList = l := by rw [← hd]
    have hdn : d.size = l.length := by rw [← Array.length_toList, hdl]
    have h5 : Sat (RowA b tU 1 d :: L) H := hs.imp fun g a => by
      rcases a.2 with ⟨h, _⟩ | ⟨b', _, e, h⟩
      · cases h
      · injection e with e1 _ _
        injection e1 with e4
        injection e4 with e5 _ _
        subst e5
        rw [rowsU_flat, ← hdl] at h
        exact h
    refine sortU_ok hc h5 pp hdn hl fun d' H1 p1 s1 h1 => ?_
    have hdn' : d'.size = l.length := by rw [p1.1]; exact hdn
    have hp : l.Perm d'.toList := by
      have := p1.2.2
      rw [show d'.extract 0 l.length = d' from by rw [← hdn']; simp, show d.extract 0 l.length = d from by rw [← hdn]; simp, hdl] at this
      exact this.symm
    have e := srt_perm hb hn hp s1 hdn'
    have hln : (srt l).length = l.length := by rw [← e, Array.length_toList, hdn']
    refine k H1 (h1.imp fun g a => ⟨rowsU_one _, .inr ⟨b, fun q => hne ?_, by rw [rowsU_len, hln], ?_⟩⟩)
    · have := congrArg List.length q
      rw [rowsU_len, hln] at this
      exact List.eq_nil_of_length_eq_zero this
    · rw [rowsU_flat, ← e]; exact a
theorem hLive_ok (hc : Con con lives) (sl : SlotsS) {L R : List HP} {H : CH} {m : Nat} {M : Mem} {K : KP} (hs : Sat L H) (hm : Pull L (MemP m M) R) (hb : M.Bd)
    (k : ∀ w H1, Sat (Vec w tU 1 (rowsU (liveL sl M)) :: L) H1 → K w H1) : Call1 Tryz.prog con 24 [ptr m 0, .agg ⟨[u64 sl.cam, u64 sl.first, i64 sl.count, u64 sl.most]⟩] H K := by
  refine call_of (hc _ _ _ rfl) ?_
  rw [hLive_W]
  repeat (refine gO ?_; intros)
  rename_i p H2 h2
  have hcl := cnt_le sl.count
  refine annSlots_ok hc sl h2 (Pull.there hm) hb fun v7 H8 h8 => ?_
  obtain ⟨p7, e7⟩ := (h8.has Has.vec).shape
  rw [slotRows_len] at e7
  repeat (refine gO ?_; intros)
  refine AsLen.eq e7 ?_
  refine LoopC.indP (n := 200) (id := 0) (fun σ1 H1 => ∃ w, σ1 5 = w ∧ Sat (Vec w tU 1 (rowsU (hdsN sl M (cnt sl.count))) :: L) H1) (by kernel_rfl)
    (fun (i : Nat) σ1 H1 => i ≤ cnt sl.count ∧ ∃ w, σ1 5 = w ∧ σ1 12 = v7 ∧ σ1 13 = iN (cnt sl.count) ∧ σ1 14 = iN i ∧ Sat (Vec w tU 1 (rowsU (hdsN sl M i)) :: Vec v7 157 3 (slotRows sl M (cnt sl.count)) :: L) H1)
    (fun i => cnt sl.count - i) (fun i σ1 H1 hI => ?_) (fun σ1 H1 hP => ?_) 0 _ _ ⟨Nat.zero_le _, snil, rfl, rfl, rfl, rfl, (h8.nilV (e := tU) (s := 1)).ent ee⟩
  · obtain ⟨hi, w, a5, a12, a13, a14, hs1⟩ := hI
    rw [hLiveL_W]
    simp only [a5, a13, a14]
    repeat (refine gO ?_; intros)
    by_cases h : i < cnt sl.count
    · refine Cd.t (ltZ_t h) ?_
      have hr : (slotRows sl M (cnt sl.count))[i]? = some (unpackL (M.peek (addM sl.first i))) := by
        unfold slotRows
        rw [List.getElem?_map, List.getElem?_range h]; rfl
      obtain ⟨b, ev, _⟩ := (hs1.has (Has.skip Has.vec)).slot hr
      rw [slotRows_len] at ev
      refine AsSlc.eq (a12.trans ev) ?_
      repeat (refine gO ?_; intros)
      refine Must.mk (ltN_t h) ?_
      refine ldVec hs1 (Has.skip Has.vec) ev hr (j := 0) (by show 0 + i * 3 + 0 = _; omega) (by omega) rfl ?_
      refine ldVec hs1 (Has.skip Has.vec) ev hr (j := 1) (by show 0 + i * 3 + 1 = _; omega) (by omega) rfl ?_
      refine ldVec hs1 (Has.skip Has.vec) ev hr (j := 2) (by show 0 + i * 3 + 2 = _; omega) (by omega) rfl ?_
      repeat (refine gO ?_; intros)
      refine stN (by assumption) (Nat.le_of_ble_eq_true rfl) rfl fun H3 h3 => ?_
      repeat (refine gO ?_; intros)
      by_cases hk : kindW (M.peek (addM sl.first i)) = 3
      · refine Cd.f (by rw [eqN_t hk]; rfl) ?_
        repeat (refine gO ?_; intros)
        refine wordHandle_ok hc (by omega) (genW_lt _) ?_
        repeat (refine gO ?_; intros)
        rename_i p25 H26 h26
        have hlen := hdsN_len sl M i
        refine app_vec (new := [[u64 (hnd i (genW (M.peek (addM sl.first i))))]]) h26 pp el_u64 (by omega) sl_u64 (Src.cell (n := 1) (by rfl)) rfl (by simp) (by simp; omega) rfl fun w' H28 h28 => ?_
        rw [show rowsU (hdsN sl M i) ++ [[u64 (hnd i (genW (M.peek (addM sl.first i))))]] = rowsU (hdsN sl M (i + 1)) from by rw [hdsN_yes hk, rowsU_app]; rfl] at h28
        repeat (refine gO ?_; intros)
        try rw [addInt]
        refine inR_nat (by omega) ?_
        repeat (refine gO ?_; intros)
        show ∃ y, _ ∧ _
        exact ⟨i + 1, by omega, h, w', rfl, a12, a13, rfl, h28.ent ee⟩
      · refine Cd.t (by rw [eqN_f hk]; rfl) ?_
        repeat (refine gO ?_; intros)
        try rw [addInt]
        refine inR_nat (by omega) ?_
        repeat (refine gO ?_; intros)
        rw [← hdsN_no hk] at h3
        show ∃ y, _ ∧ _
        exact ⟨i + 1, by omega, h, w, a5, a12, a13, rfl, h3.ent ee⟩
    · refine Cd.f (ltZ_f (by omega)) ?_
      show _ = _ ∧ _
      obtain rfl : i = cnt sl.count := by omega
      exact ⟨rfl, w, a5, hs1.ent ee⟩
  · obtain ⟨w, a5, hs1⟩ := hP
    show Cd _ _ _
    refine Cd.t rfl ?_
    rw [a5]
    have hlen := hdsN_len sl M (cnt sl.count)
    refine sort_vec hc hs1 (by omega) (fun x h => hdsN_lt hcl h) (hdsN_nodup sl M _ hcl) fun H2 h2 => ?_
    exact k w H2 h2
end Go.Proofs.YtocphcgcpjcfjaaGreat

set_option linter.unusedVariables false
set_option linter.unusedSimpArgs false
namespace Go.Proofs.YtocphcgcpjcfjaaGreat
open Go Go.CM
variable {con : CallT}
structure C14 where
  kind : Int
  h : Nat
  st : Nat
structure Q14 where
  c : C14
  s : P13
  op : AskS
  cl : AskS
  from_ : Nat
  to : Int
def Q14.fresh (sl : SlotsS) (c : C14) (i : Nat) : Q14 := ⟨c, P13.fresh sl c.kind (bh c.kind c.h []), ask0 sl c.h, ask0 sl c.h, i, Int.negSucc 0⟩
noncomputable def Q14.step (q : Q14) (sl : SlotsS) (M : Mem) (th : Int) : Q14 × Mem × Bool :=
  bif eqZ q.c.kind (Int.ofNat 0) then ({ q with s := (q.s.step M th).1 }, (q.s.step M th).2, (q.s.step M th).1.fin)
  else bif eqZ q.c.kind (Int.ofNat 1) then ({ q with s := (q.s.step M th).1 }, (q.s.step M th).2, (q.s.step M th).1.fin)
  else bif eqZ q.c.kind (Int.ofNat 2) then ({ q with op := (q.op.look M th).1 }, (q.op.look M th).2, true)
  else bif eqZ q.c.kind (Int.ofNat 3) then ({ q with cl := (q.cl.look M th).1 }, (q.cl.look M th).2, true)
  else bif eqZ q.c.kind (Int.ofNat 4) then (q, M.store th (addM sl.first q.c.h) q.c.st, true)
  else (q, M, true)
structure Q14.Go (q : Q14) (sl : SlotsS) : Prop where
  ok : q.s.Ok
  tl : q.s.Tl
  kd : q.s.kind = q.c.kind
  op : q.op = ask0 sl q.c.h
  cl : q.cl = ask0 sl q.c.h
  hh : q.c.h < 18446744073709551616
  hs : q.c.st < 18446744073709551616
def Q14.Sl (q : Q14) : Prop := eqZ q.c.kind (Int.ofNat 0) = true ∨ eqZ q.c.kind (Int.ofNat 1) = true
theorem go_fresh (sl : SlotsS) {c : C14} (h1 : c.h < 18446744073709551616) (h2 : c.st < 18446744073709551616) (i : Nat) : (Q14.fresh sl c i).Go sl := by
  obtain ⟨f1, f2, _, _⟩ := p13_fresh sl c.kind (bh_lt (kind := c.kind) (hd := []) h1 fun x hx => nomatch hx)
  exact ⟨f1, f2, rfl, rfl, rfl, h1, h2⟩
theorem look_nxt (s : AskS) (M : Mem) (th : Int) : Nxt M (s.look M th).2 := by
  unfold AskS.look
  cases hThere s.sl s.h with
  | true => exact .load M th _
  | false => exact .refl M
theorem q14_nxt {q : Q14} {sl : SlotsS} (h : q.Go sl) (M : Mem) (th : Int) : Nxt M (q.step sl M th).2.1 := by
  unfold Q14.step
  cases eqZ q.c.kind (Int.ofNat 0) with
  | true => exact p13_nxt q.s M th
  | false =>
    cases eqZ q.c.kind (Int.ofNat 1) with
    | true => exact p13_nxt q.s M th
    | false =>
      cases eqZ q.c.kind (Int.ofNat 2) with
      | true => exact look_nxt q.op M th
      | false =>
        cases eqZ q.c.kind (Int.ofNat 3) with
        | true => exact look_nxt q.cl M th
        | false =>
          cases eqZ q.c.kind (Int.ofNat 4) with
          | true => exact .store M th _ h.hs
          | false => exact .refl M
theorem q14_go {q : Q14} {sl : SlotsS} (h : q.Go sl) (M : Mem) (th : Int) (hf : (q.step sl M th).2.2 = false) : (q.step sl M th).1.Go sl ∧ (q.step sl M th).1.Sl := by
  have key : (q.s.step M th).1.fin = false → Q14.Go { q with s := (q.s.step M th).1 } sl := fun hf => by
    obtain ⟨p1, p2, p3⟩ := p13_step q.s M th h.ok h.tl
    exact ⟨p1 hf, p2, (p13_kind q.s M th).trans h.kd, h.op, h.cl, h.hh, h.hs⟩
  unfold Q14.step at hf ⊢
  cases e0 : eqZ q.c.kind (Int.ofNat 0) with
  | true => rw [e0] at hf; exact ⟨key hf, .inl e0⟩
  | false =>
    rw [e0] at hf
    cases e1 : eqZ q.c.kind (Int.ofNat 1) with
    | true => rw [e1] at hf; exact ⟨key hf, .inr e1⟩
    | false =>
      rw [e1] at hf
      cases e2 : eqZ q.c.kind (Int.ofNat 2) with
      | true => rw [e2] at hf; cases hf
      | false =>
        rw [e2] at hf
        cases e3 : eqZ q.c.kind (Int.ofNat 3) with
        | true => rw [e3] at hf; cases hf
        | false =>
          rw [e3] at hf
          cases e4 : eqZ q.c.kind (Int.ofNat 4) with
          | true => rw [e4] at hf; cases hf
          | false => rw [e4] at hf; cases hf
theorem q14_same (q : Q14) (sl : SlotsS) (M : Mem) (th : Int) : (q.step sl M th).1.c = q.c ∧ (q.step sl M th).1.from_ = q.from_ ∧ (q.step sl M th).1.to = q.to := by
  unfold Q14.step
  cases eqZ q.c.kind (Int.ofNat 0) with
  | true => exact ⟨rfl, rfl, rfl⟩
  | false =>
    cases eqZ q.c.kind (Int.ofNat 1) with
    | true => exact ⟨rfl, rfl, rfl⟩
    | false =>
      cases eqZ q.c.kind (Int.ofNat 2) with
      | true => exact ⟨rfl, rfl, rfl⟩
      | false =>
        cases eqZ q.c.kind (Int.ofNat 3) with
        | true => exact ⟨rfl, rfl, rfl⟩
        | false =>
          cases eqZ q.c.kind (Int.ofNat 4) with
          | true => exact ⟨rfl, rfl, rfl⟩
          | false => exact ⟨rfl, rfl, rfl⟩
structure R14 where
  M : Mem
  now : List (Option Nat)
  at_ : List Nat
  all : List Q14
def Q14.end_ (q : Q14) (b : Bool) (i : Nat) : Q14 := { q with to := if b then Int.ofNat i else q.to }
noncomputable def R14.go (sl : SlotsS) (g : R14) (i k b : Nat) (q : Q14) (at_ : List Nat) (all : List Q14) : R14 :=
  { M := (q.step sl g.M (Int.ofNat k)).2.1,
    now := g.now.set k (if (q.step sl g.M (Int.ofNat k)).2.2 then none else some b),
    at_ := at_,
    all := all.set b ((q.step sl g.M (Int.ofNat k)).1.end_ (q.step sl g.M (Int.ofNat k)).2.2 i) }
def R14.skips (stores : Bool) (c : C14) : Bool := eqZ c.kind (Int.ofNat 4) && !stores
noncomputable def R14.pick (sl : SlotsS) (calls : List (List C14)) (stores : Bool) (g : R14) (i : Nat) (t : Int) : R14 :=
  match t with
  | .negSucc _ => g
  | .ofNat k =>
    match calls[k]?, g.now[k]?, g.at_[k]? with
    | some cs, some nw, some a =>
      (match nw with
      | some b => (match g.all[b]? with | some q => g.go sl i k b q g.at_ g.all | none => g)
      | none =>
        match cs[a]? with
        | none => g
        | some c =>
          if R14.skips stores c then { g with at_ := g.at_.set k (a + 1) }
          else g.go sl i k g.all.length (Q14.fresh sl c i) (g.at_.set k (a + 1)) (g.all ++ [Q14.fresh sl c i]))
    | _, _, _ => g
structure WF14 (sl : SlotsS) (calls : List (List C14)) (g : R14) : Prop where
  len : g.now.length = calls.length
  len2 : g.at_.length = calls.length
  fine : Fine g.M
  ats : ∀ (k : Nat) cs a, calls[k]? = some cs → g.at_[k]? = some a → a ≤ cs.length
  cur : ∀ (k b : Nat), g.now[k]? = some (some b) → ∃ q, g.all[b]? = some q ∧ q.Go sl ∧ q.Sl
  inj : ∀ (k k' b : Nat), g.now[k]? = some (some b) → g.now[k']? = some (some b) → k = k'
def Calls64b (calls : List (List C14)) : Prop := ∀ cs ∈ calls, ∀ c ∈ cs, c.h < 18446744073709551616 ∧ c.st < 18446744073709551616
theorem end_go {q : Q14} {sl : SlotsS} (h : q.Go sl) (b : Bool) (i : Nat) : (q.end_ b i).Go sl := ⟨h.ok, h.tl, h.kd, h.op, h.cl, h.hh, h.hs⟩
theorem wf_go14 {sl : SlotsS} {calls : List (List C14)} {g : R14} (W : WF14 sl calls g) {i k b : Nat} {q : Q14} {at_ : List Nat} {all : List Q14} (hk : k < calls.length) (hq : q.Go sl) (hb : all[b]? = some q) (hnb : ∀ k', k' ≠ k → g.now[k']? ≠ some (some b))
    (hat : at_.length = calls.length) (hats : ∀ (k : Nat) cs a, calls[k]? = some cs → at_[k]? = some a → a ≤ cs.length) (hall : ∀ (b : Nat) q, g.all[b]? = some q → all[b]? = some q) : WF14 sl calls (g.go sl i k b q at_ all) := by
  have hbl := (List.getElem?_eq_some_iff.1 hb).1
  have hx := (q14_nxt hq g.M (Int.ofNat k)).fine W.fine
  have hgo := q14_go hq g.M (Int.ofNat k)
  unfold R14.go
  generalize q.step sl g.M (Int.ofNat k) = z at *
  have lk : ∀ (k' b' : Nat), (g.now.set k (if z.2.2 then none else some b))[k']? = some (some b') → (k = k' ∧ b' = b ∧ z.2.2 = false) ∨ (k ≠ k' ∧ g.now[k']? = some (some b')) := fun k' b' h => by
    rw [List.getElem?_set] at h
    by_cases e : k = k'
    · rw [if_pos e] at h
      rw [if_pos (by rw [W.len]; exact hk)] at h
      cases hz : z.2.2 with
      | true => rw [hz] at h; simp at h
      | false => rw [hz] at h; simp at h; exact .inl ⟨e, h.symm, rfl⟩
    · rw [if_neg e] at h; exact .inr ⟨e, h⟩
  refine ⟨by simp only [List.length_set]; exact W.len, hat, hx, hats, fun k' b' h => ?_, fun k1 k2 b' h1 h2 => ?_⟩
  · rcases lk k' b' h with ⟨_, rfl, hz⟩ | ⟨hne, h⟩
    · exact ⟨_, List.getElem?_set_self hbl, end_go (hgo hz).1 _ _, (hgo hz).2⟩
    · obtain ⟨q', h1, h2⟩ := W.cur k' b' h
      have : b ≠ b' := fun e => hnb k' (fun q => hne q.symm) (e ▸ h)
      exact ⟨q', by simp only; rw [List.getElem?_set_ne this]; exact hall b' q' h1, h2⟩
  · rcases lk k1 b' h1 with ⟨e1, eb, _⟩ | ⟨n1, h1a⟩
    · rcases lk k2 b' h2 with ⟨e2, _, _⟩ | ⟨n2, h2a⟩
      · exact e1.symm.trans e2
      · exact (hnb k2 (fun q => n2 q.symm) (eb ▸ h2a)).elim
    · rcases lk k2 b' h2 with ⟨e2, eb, _⟩ | ⟨n2, h2a⟩
      · exact (hnb k1 (fun q => n1 q.symm) (eb ▸ h1a)).elim
      · exact W.inj k1 k2 b' h1a h2a
theorem pick_cases14 (sl : SlotsS) (calls : List (List C14)) (stores : Bool) (g : R14) (i : Nat) (t : Int) (Q : R14 → Prop) (h0 : Q g)
    (h1 : ∀ (k : Nat) cs a b q, t = Int.ofNat k → calls[k]? = some cs → g.now[k]? = some (some b) → g.at_[k]? = some a → g.all[b]? = some q → Q (g.go sl i k b q g.at_ g.all))
    (h2 : ∀ (k : Nat) cs a c, t = Int.ofNat k → calls[k]? = some cs → g.now[k]? = some none → g.at_[k]? = some a → cs[a]? = some c → R14.skips stores c = true → Q { g with at_ := g.at_.set k (a + 1) })
    (h3 : ∀ (k : Nat) cs a c, t = Int.ofNat k → calls[k]? = some cs → g.now[k]? = some none → g.at_[k]? = some a → cs[a]? = some c → R14.skips stores c = false →
      Q (g.go sl i k g.all.length (Q14.fresh sl c i) (g.at_.set k (a + 1)) (g.all ++ [Q14.fresh sl c i]))) : Q (g.pick sl calls stores i t) := by
  cases t with
  | negSucc z => exact h0
  | ofNat k =>
    cases e1 : calls[k]? with
    | none => simp only [R14.pick, e1]; exact h0
    | some cs =>
      cases e2 : g.now[k]? with
      | none => simp only [R14.pick, e1, e2]; exact h0
      | some nw =>
        cases e3 : g.at_[k]? with
        | none => simp only [R14.pick, e1, e2, e3]; exact h0
        | some a =>
          cases nw with
          | some b =>
            cases e4 : g.all[b]? with
            | none => simp only [R14.pick, e1, e2, e3, e4]; exact h0
            | some q => simp only [R14.pick, e1, e2, e3, e4]; exact h1 k cs a b q rfl e1 e2 e3 e4
          | none =>
            cases e4 : cs[a]? with
            | none => simp only [R14.pick, e1, e2, e3, e4]; exact h0
            | some c =>
              cases e5 : R14.skips stores c with
              | true => simp only [R14.pick, e1, e2, e3, e4, e5, if_true]; exact h2 k cs a c rfl e1 e2 e3 e4 e5
              | false => simp only [R14.pick, e1, e2, e3, e4, e5, Bool.false_eq_true, if_false]; exact h3 k cs a c rfl e1 e2 e3 e4 e5
theorem ats_set {calls : List (List C14)} {at_ : List Nat} (h : ∀ (k : Nat) cs a, calls[k]? = some cs → at_[k]? = some a → a ≤ cs.length) {k a : Nat} {cs : List C14} {c : C14} (hk : calls[k]? = some cs) (hc : cs[a]? = some c) :
    ∀ (k' : Nat) cs' a', calls[k']? = some cs' → (at_.set k (a + 1))[k']? = some a' → a' ≤ cs'.length := fun k' cs' a' h1 h2 => by
  rw [List.getElem?_set] at h2
  by_cases e : k = k'
  · subst e
    rw [hk] at h1
    cases h1
    rw [if_pos rfl] at h2
    split at h2
    · cases h2
      exact (List.getElem?_eq_some_iff.1 hc).1
    · cases h2
  · rw [if_neg e] at h2; exact h k' cs' a' h1 h2
theorem wf_at14 {sl : SlotsS} {calls : List (List C14)} {g : R14} (W : WF14 sl calls g) {k a : Nat} {cs : List C14} {c : C14} (hk : calls[k]? = some cs) (hc : cs[a]? = some c) : WF14 sl calls { g with at_ := g.at_.set k (a + 1) } :=
  ⟨W.len, by show (g.at_.set k (a + 1)).length = _; rw [List.length_set]; exact W.len2, W.fine, ats_set W.ats hk hc, W.cur, W.inj⟩
theorem wf_old14 {sl : SlotsS} {calls : List (List C14)} {g : R14} (W : WF14 sl calls g) {i k b : Nat} {cs : List C14} {q : Q14} (hk : calls[k]? = some cs) (hn : g.now[k]? = some (some b)) (hq : g.all[b]? = some q) : WF14 sl calls (g.go sl i k b q g.at_ g.all) := by
  obtain ⟨q', h1, h2, _⟩ := W.cur k b hn
  rw [hq] at h1
  cases h1
  exact wf_go14 W (List.getElem?_eq_some_iff.1 hk).1 h2 hq (fun k' hne h => hne (W.inj k' k b h hn)) W.len2 W.ats fun b q h => h
theorem wf_new14 {sl : SlotsS} {calls : List (List C14)} (hc64 : Calls64b calls) {g : R14} (W : WF14 sl calls g) {i k a : Nat} {cs : List C14} {c : C14} (hk : calls[k]? = some cs) (hc : cs[a]? = some c) : WF14 sl calls (g.go sl i k g.all.length (Q14.fresh sl c i) (g.at_.set k (a + 1)) (g.all ++ [Q14.fresh sl c i])) := by
  obtain ⟨h1, h2⟩ := hc64 cs (List.mem_of_getElem? hk) c (List.mem_of_getElem? hc)
  refine wf_go14 W (List.getElem?_eq_some_iff.1 hk).1 (go_fresh sl h1 h2 i) (by rw [List.getElem?_append_right (Nat.le_refl _)]; simp) (fun k' hne h => ?_) (by rw [List.length_set]; exact W.len2) (ats_set W.ats hk hc) fun b q h => ?_
  · obtain ⟨q, h1, _⟩ := W.cur k' _ h
    exact absurd (List.getElem?_eq_some_iff.1 h1).1 (Nat.lt_irrefl _)
  · rw [List.getElem?_append_left (List.getElem?_eq_some_iff.1 h).1]; exact h
theorem wf_pick14 {sl : SlotsS} {calls : List (List C14)} (hc64 : Calls64b calls) (stores : Bool) {g : R14} (W : WF14 sl calls g) (i : Nat) (t : Int) : WF14 sl calls (g.pick sl calls stores i t) :=
  pick_cases14 sl calls stores g i t (WF14 sl calls) W (fun k cs a b q _ h1 h2 h3 h4 => wf_old14 W h1 h2 h4) (fun k cs a c _ h1 h2 h3 h4 h5 => wf_at14 W h1 h4) (fun k cs a c _ h1 h2 h3 h4 h5 => wf_new14 hc64 W h1 h4)
theorem go_sz14 {sl : SlotsS} (g : R14) {i k b : Nat} {q : Q14} (hq : q.Go sl) (at_ : List Nat) (all : List Q14) : (g.go sl i k b q at_ all).all.length = all.length ∧ (g.go sl i k b q at_ all).M.tr.length ≤ g.M.tr.length + 1 :=
  ⟨by simp only [R14.go, List.length_set], (q14_nxt hq g.M (Int.ofNat k)).tr⟩
theorem pick_sz14 {sl : SlotsS} {calls : List (List C14)} (hc64 : Calls64b calls) (stores : Bool) {g : R14} (W : WF14 sl calls g) (i : Nat) (t : Int) : (g.pick sl calls stores i t).all.length ≤ g.all.length + 1 ∧ (g.pick sl calls stores i t).M.tr.length ≤ g.M.tr.length + 1 := by
  refine pick_cases14 sl calls stores g i t (fun g' => g'.all.length ≤ g.all.length + 1 ∧ g'.M.tr.length ≤ g.M.tr.length + 1) ⟨Nat.le_succ _, Nat.le_succ _⟩ (fun k cs a b q _ h1 h2 h3 h4 => ?_) (fun k cs a c _ h1 h2 h3 h4 h5 => ⟨Nat.le_succ _, Nat.le_succ _⟩) (fun k cs a c _ h1 h2 h3 h4 h5 => ?_)
  · obtain ⟨q', e1, e2, _⟩ := W.cur k b h2
    rw [h4] at e1
    cases e1
    obtain ⟨s1, s2⟩ := go_sz14 (i := i) (k := k) (b := b) g e2 g.at_ g.all
    exact ⟨by omega, s2⟩
  · obtain ⟨l1, l2⟩ := hc64 cs (List.mem_of_getElem? h1) c (List.mem_of_getElem? h4)
    obtain ⟨s1, s2⟩ := go_sz14 (i := i) (k := k) (b := g.all.length) g (go_fresh sl l1 l2 i) (g.at_.set k (a + 1)) (g.all ++ [Q14.fresh sl c i])
    exact ⟨by rw [s1]; simp, s2⟩
noncomputable def r14At (sl : SlotsS) (calls : List (List C14)) (stores : Bool) (picks : List Int) (g : R14) : Nat → R14
  | 0 => g
  | j + 1 => match picks[j]? with | some t => (r14At sl calls stores picks g j).pick sl calls stores j t | none => r14At sl calls stores picks g j
theorem r14At_succ {sl : SlotsS} {calls : List (List C14)} {stores : Bool} {picks : List Int} {g : R14} {j : Nat} {t : Int} (h : picks[j]? = some t) : r14At sl calls stores picks g (j + 1) = (r14At sl calls stores picks g j).pick sl calls stores j t := by
  show (match picks[j]? with | some t => (r14At sl calls stores picks g j).pick sl calls stores j t | none => r14At sl calls stores picks g j) = _
  rw [h]
theorem r14At_wf {sl : SlotsS} {calls : List (List C14)} (hc : Calls64b calls) {stores : Bool} {picks : List Int} {g : R14} (W : WF14 sl calls g) : ∀ j, WF14 sl calls (r14At sl calls stores picks g j)
  | 0 => W
  | j + 1 => by
    have ih := r14At_wf hc (stores := stores) (picks := picks) W j
    show WF14 sl calls (match picks[j]? with | some t => (r14At sl calls stores picks g j).pick sl calls stores j t | none => r14At sl calls stores picks g j)
    split
    · exact wf_pick14 hc stores ih _ _
    · exact ih
theorem r14At_sz {sl : SlotsS} {calls : List (List C14)} (hc : Calls64b calls) {stores : Bool} {picks : List Int} {g : R14} (W : WF14 sl calls g) : ∀ j, (r14At sl calls stores picks g j).all.length ≤ g.all.length + j ∧ (r14At sl calls stores picks g j).M.tr.length ≤ g.M.tr.length + j
  | 0 => ⟨Nat.le_refl _, Nat.le_refl _⟩
  | j + 1 => by
    have ih := r14At_sz hc (stores := stores) (picks := picks) W j
    have hw := r14At_wf hc (stores := stores) (picks := picks) W j
    show (match picks[j]? with | some t => (r14At sl calls stores picks g j).pick sl calls stores j t | none => r14At sl calls stores picks g j).all.length ≤ _ ∧ (match picks[j]? with | some t => (r14At sl calls stores picks g j).pick sl calls stores j t | none => r14At sl calls stores picks g j).M.tr.length ≤ _
    split
    · rename_i t _
      have := pick_sz14 hc stores hw j t
      omega
    · omega
def Q14.lt (sl : SlotsS) (q : Q14) : LetS := bif eqZ q.c.kind (Int.ofNat 1) then q.s.lt else let0 sl q.c.h
def QAt (sl : SlotsS) (p : Nat) (q : Q14) : HP := fun h => ∃ (p3 p4 p5 p6 p7 g : Nat) (sn : Bool) (oA oS oE cA cE : Nat), (JG q.s.sn g ∧ LetJ (q.lt sl) sn ∧ (q.op.dn = false → oA = 0 ∧ oS = 0 ∧ oE = 0) ∧ (q.cl.dn = false → cA = 0 ∧ cE = 0)) ∧
  SatL [Own p [i64 q.c.kind, u64 q.c.h, u64 q.c.st, ptr p3 0, ptr p4 0, ptr p5 0, ptr p6 0, ptr p7 0, iN oA, u64 sl.cam, u64 sl.first, i64 sl.count, u64 sl.most, u64 q.c.h, u64 oS, iN oE, iN cA, u64 sl.cam, u64 sl.first, i64 sl.count, u64 sl.most, u64 q.c.h, u64 q.c.st, iN cE, iN q.from_, i64 q.to],
    Own p3 (snapC q.s.sn.at_ q.s.sn g), Own p4 (letC (q.lt sl) sn), Own p5 (askC q.op []), Own p6 (askC q.cl [u64 q.c.st]), RAt13 p7 q.s] h
abbrev C14R (v : Value) (l : List C14) : HP := RowsR 3 (fun (c : C14) cs _ => cs = [i64 c.kind, u64 c.h, u64 c.st]) v l
def ThrP14 (l : List C14) (cs : List Value) : HP := fun h => ∃ xv, cs = [xv] ∧ C14R xv l h
abbrev Thr14 (v : Value) (l : List (List C14)) : HP := RowsR 1 ThrP14 v l
theorem has_thr14 {v : Value} {l : List (List C14)} {L : List HP} : Has (Thr14 v l :: L) (Thr14 v l) := Has.here fun a t => RowsR.mono (fun ⟨x, e, a⟩ t => ⟨x, e, RowsR.mono (fun a _ => a) a t⟩) a t
end Go.Proofs.YtocphcgcpjcfjaaGreat

set_option linter.unusedVariables false
set_option linter.unusedSimpArgs false
namespace Go.Proofs.YtocphcgcpjcfjaaGreat
open Go Go.CM
attribute [local irreducible] AsBool AsWant AsNat AsInt AsCnt AsPtr AsSlc AsLen AsStr AsAgg AsTup AsFn AsIfc Nth Sc NotNil IsNil Must Cd codeW funW Sat SatL wrapN subM mkRow ltZ leZ ltN leN
variable {con : CallT}
theorem insC_ok (hc : Con con lives) {R : List HP} {H : CH} {x i : Nat} {vo v : Value} {l s : List Nat} {σ : TF} {Q : KX} (hs : Sat (Vec v tU 1 (rowsU s) :: Vec vo tU 1 (rowsU l) :: R) H) (hl : l.length ≤ 256) (hsl : s.length ≤ 256) (hx : l[i]? = some x)
    (e5 : σ 5 = vo) (e10 : σ 10 = v) (e11 : σ 11 = iN i) (e12 : σ 12 = snil) (e13 : σ 13 = iN 0)
    (k : ∀ σ1 H1 w n, n ≤ s.length → (∀ y ∈ s.take n, y < x) → (∀ y, s[n]? = some y → x ≤ y) → σ1 5 = vo → σ1 10 = v → σ1 11 = iN i → σ1 12 = w → σ1 13 = iN n → Sat (Vec w tU 1 (rowsU (s.take n)) :: Vec v tU 1 (rowsU s) :: Vec vo tU 1 (rowsU l) :: R) H1 → Q (.exit 4) σ1 H1) :
    LoopC Tryz.prog con (lpAt Tryz.prog 74 2) σ H Q := by
  obtain ⟨pv, ev⟩ := (hs.has Has.vec).shape
  rw [rowsU_len] at ev
  have hil : i < l.length := (List.getElem?_eq_some_iff.1 hx).1
  obtain ⟨bo, eo, _⟩ := (hs.has (Has.skip Has.vec)).slot (i := i) (row := [u64 x]) (by rw [List.getElem?_map, hx]; rfl)
  rw [rowsU_len] at eo
  refine LoopC.indP (n := 200) (id := 4) (fun σ1 H1 => ∃ w n, n ≤ s.length ∧ (∀ y ∈ s.take n, y < x) ∧ (∀ y, s[n]? = some y → x ≤ y) ∧ σ1 5 = vo ∧ σ1 10 = v ∧ σ1 11 = iN i ∧ σ1 12 = w ∧ σ1 13 = iN n ∧ Sat (Vec w tU 1 (rowsU (s.take n)) :: Vec v tU 1 (rowsU s) :: Vec vo tU 1 (rowsU l) :: R) H1) (by kernel_rfl)
    (fun (n : Nat) σ1 H1 => n ≤ s.length ∧ (∀ y ∈ s.take n, y < x) ∧ σ1 5 = vo ∧ σ1 10 = v ∧ σ1 11 = iN i ∧ σ1 13 = iN n ∧ ∃ w, σ1 12 = w ∧ Sat (Vec w tU 1 (rowsU (s.take n)) :: Vec v tU 1 (rowsU s) :: Vec vo tU 1 (rowsU l) :: R) H1)
    (fun n => s.length - n) (fun n σ1 H1 hI => ?_) (fun σ1 H1 hP => ?_) 0 _ _ ⟨Nat.zero_le _, (fun y hy => by simp at hy), e5, e10, e11, e13, snil, e12, hs.nilV⟩
  · obtain ⟨hn, hlt, a5, a10, a11, a13, w, a12, hs1⟩ := hI
    rw [rLive14C_W]
    refine AsLen.eq (a10.trans ev) ?_
    rw [a11, a12, a13]
    repeat (refine gO ?_; intros)
    by_cases h : n < s.length
    · refine Cd.t (ltZ_t h) ?_
      obtain ⟨y, ey⟩ : ∃ y, s[n]? = some y := ⟨_, List.getElem?_eq_getElem h⟩
      have hry : (rowsU s)[n]? = some [u64 y] := by rw [List.getElem?_map, ey]; rfl
      have hrx : (rowsU l)[i]? = some [u64 x] := by rw [List.getElem?_map, hx]; rfl
      obtain ⟨b, ev2, _⟩ := (hs1.has (Has.skip Has.vec)).slot hry
      rw [rowsU_len] at ev2
      refine AsSlc.eq (a10.trans ev2) ?_
      repeat (refine gO ?_; intros)
      refine Must.mk (ltN_t h) ?_
      refine ldVec hs1 (Has.skip Has.vec) ev2 hry (j := 0) (by show 0 + n * 1 = _; omega) (by omega) rfl ?_
      refine AsSlc.eq (a5.trans eo) ?_
      repeat (refine gO ?_; intros)
      refine Must.mk (ltN_t hil) ?_
      refine ldVec hs1 (Has.skip (Has.skip Has.vec)) eo hrx (j := 0) (by show 0 + i * 1 = _; omega) (by omega) rfl ?_
      repeat (refine gO ?_; intros)
      by_cases hyx : y < x
      · refine Cd.t (ltN_t hyx) ?_
        refine AsSlc.eq (a10.trans ev2) ?_
        repeat (refine gO ?_; intros)
        refine Must.mk (ltN_t h) ?_
        refine ldVec hs1 (Has.skip Has.vec) ev2 hry (j := 0) (by show 0 + n * 1 = _; omega) (by omega) rfl ?_
        repeat (refine gO ?_; intros)
        rename_i p23 H24 h24
        refine app_vec (new := [[u64 y]]) h24 pp el_u64 (by omega) sl_u64 (Src.cell (n := 1) (by rfl)) rfl (by simp) (by simp; omega) rfl fun w' H26 h26 => ?_
        have et : s.take (n + 1) = s.take n ++ [y] := by rw [List.take_add_one, ey]; rfl
        rw [show rowsU (s.take n) ++ [[u64 y]] = rowsU (s.take (n + 1)) from by rw [et, rowsU_app]; rfl] at h26
        repeat (refine gO ?_; intros)
        try rw [addInt]
        refine inR_nat (by omega) ?_
        repeat (refine gO ?_; intros)
        show ∃ y, _ ∧ _
        refine ⟨n + 1, by omega, h, fun z hz => ?_, a5, a10, a11, rfl, w', rfl, h26.ent ee⟩
        rw [et] at hz
        rcases List.mem_append.1 hz with hz | hz
        · exact hlt z hz
        · rw [List.mem_singleton.1 hz]; exact hyx
      · refine Cd.f (ltN_f (by omega)) ?_
        show _ = _ ∧ _
        exact ⟨rfl, w, n, hn, hlt, (fun z hz => by rw [ey] at hz; cases hz; omega), a5, a10, a11, a12, a13, hs1⟩
    · refine Cd.f (ltZ_f (by omega)) ?_
      show _ = _ ∧ _
      exact ⟨rfl, w, n, hn, hlt, (fun z hz => by rw [List.getElem?_eq_none (by omega)] at hz; cases hz), a5, a10, a11, a12, a13, hs1⟩
  · obtain ⟨w, n, h1, h2, h3, a5, a10, a11, a12, a13, hs1⟩ := hP
    exact k σ1 H1 w n h1 h2 h3 a5 a10 a11 a12 a13 hs1
theorem rHandle_ok (hc : Con con lives) {H : CH} {i g : Nat} {K : KP} (hi : i < 256) (hg : g < 1048576) (k : K (.tuple ⟨[u64 (i + 1 + g * 65536), iN 0]⟩) H) : Call1 Tryz.prog con 97 [iN i, u64 g] H K := by
  refine call_of (hc _ _ _ rfl) ?_
  rw [rHandle_W]
  refine Cd.f (ltZ_f (by omega)) (Cd.f (leZ_f hi) (Cd.f (leN_f hg) (Must.mk (cv_small (by omega)) ?_)))
  have e : Nat.mod (Nat.add (Nat.mod (Nat.add (wrapN .u64 (Int.ofNat i)) 1) 18446744073709551616) (Nat.mod (Nat.mul g 65536) 18446744073709551616)) 18446744073709551616 = i + 1 + g * 65536 := by
    rw [wrapN_small (by omega)]
    show ((i + 1) % 18446744073709551616 + g * 65536 % 18446744073709551616) % 18446744073709551616 = _
    omega
  rw [e]
  exact k
set_option maxRecDepth 100000 in
theorem rLive14_ok (hc : Con con lives) (sl : SlotsS) {L R : List HP} {H : CH} {m : Nat} {M : Mem} {K : KP} (hs : Sat L H) (hm : Pull L (RefP m M) R) (hb : M.Bd)
    (k : ∀ w H1, Sat (Vec w tU 1 (rowsU (liveL sl M)) :: L) H1 → K w H1) : Call1 Tryz.prog con 74 [ptr m 0, .agg ⟨[u64 sl.cam, u64 sl.first, i64 sl.count, u64 sl.most]⟩] H K := by
  refine call_of (hc _ _ _ rfl) ?_
  rw [rLive14_W]
  refine na fun p H2 h2 => ?_
  have hcl := cnt_le sl.count
  have hcmp : ∀ i, i ≤ cnt sl.count → (i < cnt sl.count ↔ (ltZ (Int.ofNat i) sl.count = true ∧ i < 256)) := fun i hi => by
    show _ ↔ (ltZ (Int.ofNat i) sl.count = true ∧ i < 256)
    rw [ltZ_z]
    unfold cnt at hi ⊢
    cases e : sl.count with
    | negSucc z =>
      rw [e] at hi
      simp only at hi ⊢
      have h1 := Int.negSucc_lt_zero z
      have h2 : (0 : Int) ≤ Int.ofNat i := Int.natCast_nonneg i
      constructor
      · intro h; omega
      · rintro ⟨h, _⟩; omega
    | ofNat c =>
      simp only
      rw [show (Int.ofNat i < Int.ofNat c) = (i < c) from propext Int.ofNat_lt]
      split <;> omega
  refine LoopC.indP (n := 200) (id := 0) (fun σ1 H1 => ∃ w, σ1 5 = w ∧ Sat (Vec w tU 1 (rowsU (hdsN sl M (cnt sl.count))) :: L) H1) (by kernel_rfl)
    (fun (i : Nat) σ1 H1 => i ≤ cnt sl.count ∧ ∃ w, σ1 0 = ptr m 0 ∧ σ1 3 = ptr p 0 ∧ σ1 5 = w ∧ σ1 6 = iN i ∧ Sat (Vec w tU 1 (rowsU (hdsN sl M i)) :: Own p [u64 sl.cam, u64 sl.first, i64 sl.count, u64 sl.most] :: L) H1)
    (fun i => cnt sl.count - i) (fun i σ1 H1 hI => ?_) (fun σ1 H1 hP => ?_) 0 _ _ ⟨Nat.zero_le _, snil, rfl, rfl, rfl, rfl, h2.nilV⟩
  · obtain ⟨hi, w, a0, a3, a5, a6, hs1⟩ := hI
    rw [rLive14A_W]
    rw [a0, a3, a5, a6]
    have hcm := hcmp i hi
    repeat (refine gO ?_; intros)
    cases h1 : ltZ (Int.ofNat i) sl.count with
    | false =>
      refine Cd.f rfl ?_
      show _ = _ ∧ _
      have e : i = cnt sl.count := by
        rcases Nat.lt_or_ge i (cnt sl.count) with q | q
        · have := (hcm.1 q).1; rw [h1] at this; cases this
        · omega
      subst e
      exact ⟨rfl, w, a5, hs1.ent ee⟩
    | true =>
      refine Cd.t rfl ?_
      repeat (refine gO ?_; intros)
      by_cases h2 : i < 256
      · refine Cd.t (ltZ_t h2) ?_
        have h := hcm.2 ⟨h1, h2⟩
        repeat (refine gO ?_; intros)
        refine Must.mk (cv_small (by omega)) ?_
        repeat (refine gO ?_; intros)
        rw [wrapN_small (by omega)]
        refine refPeek_ok (a := addM sl.first i) hc hs1 (Pull.there (Pull.there hm)) ?_
        refine rUnpack_ok hc hs1 (hb.peek _) fun H16 h16 => ?_
        repeat (refine gO ?_; intros)
        refine stN (by assumption) (Nat.le_of_ble_eq_true rfl) rfl fun H3 h3 => ?_
        repeat (refine gO ?_; intros)
        by_cases hk : kindW (M.peek (addM sl.first i)) = 3
        · refine Cd.f (by rw [eqN_t hk]; rfl) ?_
          repeat (refine gO ?_; intros)
          refine rHandle_ok hc h2 (genW_lt _) ?_
          repeat (refine gO ?_; intros)
          rename_i p25 H26 h26
          have hlen := hdsN_len sl M i
          refine app_vec (new := [[u64 (hnd i (genW (M.peek (addM sl.first i))))]]) h26 pp el_u64 (by omega) sl_u64 (Src.cell (n := 1) (by rfl)) rfl (by simp) (by simp; omega) rfl fun w' H28 h28 => ?_
          rw [show rowsU (hdsN sl M i) ++ [[u64 (hnd i (genW (M.peek (addM sl.first i))))]] = rowsU (hdsN sl M (i + 1)) from by rw [hdsN_yes hk, rowsU_app]; rfl] at h28
          repeat (refine gO ?_; intros)
          try rw [addInt]
          refine inR_nat (by omega) ?_
          repeat (refine gO ?_; intros)
          show ∃ y, _ ∧ _
          exact ⟨i + 1, by omega, h, w', a0, a3, rfl, rfl, h28.ent ee⟩
        · refine Cd.t (by rw [eqN_f hk]; rfl) ?_
          repeat (refine gO ?_; intros)
          try rw [addInt]
          refine inR_nat (by omega) ?_
          repeat (refine gO ?_; intros)
          rw [← hdsN_no hk] at h3
          show ∃ y, _ ∧ _
          exact ⟨i + 1, by omega, h, w, a0, a3, a5, rfl, h3.ent ee⟩
      · refine Cd.f (ltZ_f (by omega)) ?_
        show _ = _ ∧ _
        have e : i = cnt sl.count := by omega
        subst e
        exact ⟨rfl, w, a5, hs1.ent ee⟩
  · obtain ⟨w, a5, hs1⟩ := hP
    show Cd _ _ _
    refine Cd.t rfl ?_
    have hlen := hdsN_len sl M (cnt sl.count)
    have hbd : ∀ x ∈ hdsN sl M (cnt sl.count), x < 18446744073709551616 := fun x h => hdsN_lt hcl h
    have hnd := hdsN_nodup sl M _ hcl
    unfold liveL at k
    generalize hdsN sl M (cnt sl.count) = l at *
    obtain ⟨pw, ew⟩ := (hs1.has Has.vec).shape
    rw [rowsU_len] at ew
    refine LoopC.indP (n := 300) (id := 2) (fun σ1 H1 => ∃ v, σ1 10 = v ∧ Sat (Vec v tU 1 (rowsU (srt l)) :: L) H1) (by kernel_rfl)
      (fun (i : Nat) σ1 H1 => i ≤ l.length ∧ σ1 5 = w ∧ σ1 11 = iN i ∧ ∃ v, σ1 10 = v ∧ Sat (Vec v tU 1 (rowsU (srt (l.take i))) :: Vec w tU 1 (rowsU l) :: L) H1)
      (fun i => l.length - i) (fun i σ1 H1 hI => ?_) (fun σ1 H1 hP => ?_) 0 _ _ ⟨Nat.zero_le _, a5, rfl, snil, rfl, hs1.nilV⟩
    · obtain ⟨hi, a5, a11, v, a10, hs2⟩ := hI
      rw [rLive14B_W]
      refine AsLen.eq (a5.trans ew) ?_
      rw [a11]
      repeat (refine gO ?_; intros)
      by_cases h : i < l.length
      · refine Cd.t (ltZ_t h) ?_
        obtain ⟨x, ex⟩ : ∃ x, l[i]? = some x := ⟨_, List.getElem?_eq_getElem h⟩
        have hsl : (srt (l.take i)).length ≤ 256 := by
          have := srt_len (l.take i)
          rw [List.length_take] at this
          omega
        refine insC_ok hc hs2 (by omega) hsl ex a5 a10 a11 rfl rfl fun σ2 H2 w2 n hn h1 h2 b5 b10 b11 b12 b13 hs3 => ?_
        show Cd _ _ _
        refine Cd.t rfl ?_
        have hrx : (rowsU l)[i]? = some [u64 x] := by rw [List.getElem?_map, ex]; rfl
        obtain ⟨bo, eo, _⟩ := (hs3.has (Has.skip (Has.skip Has.vec))).slot hrx
        rw [rowsU_len] at eo
        refine AsSlc.eq (b5.trans eo) ?_
        rw [b10, b11, b12, b13]
        repeat (refine gO ?_; intros)
        refine Must.mk (ltN_t h) ?_
        refine ldVec hs3 (Has.skip (Has.skip Has.vec)) eo hrx (j := 0) (by show 0 + i * 1 = _; omega) (by omega) rfl ?_
        repeat (refine gO ?_; intros)
        rename_i p12 H13 h13
        have htl : ((srt (l.take i)).take n).length ≤ 256 := by rw [List.length_take]; omega
        refine app_vec (new := [[u64 x]]) h13 pp el_u64 (by omega) sl_u64 (Src.cell (n := 1) (by rfl)) rfl (by simp) (by simp; omega) rfl fun w' H15 h15 => ?_
        rw [show rowsU ((srt (l.take i)).take n) ++ [[u64 x]] = rowsU ((srt (l.take i)).take n ++ [x]) from by rw [rowsU_app]; rfl] at h15
        have h16 : Sat (Vec w' tU 1 (rowsU ((srt (l.take i)).take n ++ [x])) :: Vec v tU 1 (rowsU (srt (l.take i))) :: Vec w tU 1 (rowsU l) :: L) H15 := h15.ent ee
        refine app_rest h16 (by simp) hn (by simp; omega) fun v16 v' H18 h18 => ?_
        have hmem : ∀ y ∈ l.take i, y < 18446744073709551616 := fun y hy => hbd y (List.mem_of_mem_take hy)
        have hxn : x ∉ l.take i := fun hx => by
          obtain ⟨j, hj, e⟩ := List.getElem_of_mem hx
          rw [List.length_take] at hj
          rw [List.getElem_take] at e
          have e2 := (List.getElem?_eq_some_iff.1 ex).2
          exact absurd ((List.getElem_inj hnd).1 (e.trans e2.symm)) (by omega)
        have es := srt_snoc hmem (hbd x (List.mem_of_getElem? ex)) hxn h1 h2
        rw [List.append_assoc, List.singleton_append, es, show l.take i ++ [x] = l.take (i + 1) from by rw [List.take_add_one, ex]; rfl] at h18
        repeat (refine gO ?_; intros)
        try rw [addInt]
        refine inR_nat (by omega) ?_
        repeat (refine gO ?_; intros)
        show ∃ y, _ ∧ _
        exact ⟨i + 1, by omega, h, b5, rfl, v', rfl, h18⟩
      · refine Cd.f (ltZ_f (by omega)) ?_
        show _ = _ ∧ _
        have e : i = l.length := by omega
        rw [e, List.take_length] at hs2
        exact ⟨rfl, v, a10, hs2.ent ee⟩
    · obtain ⟨v, a10, hs2⟩ := hP
      show Cd _ _ _
      refine Cd.t rfl ?_
      rw [a10]
      exact k v H1 hs2
end Go.Proofs.YtocphcgcpjcfjaaGreat

set_option linter.unusedVariables false
set_option linter.unusedSimpArgs false
namespace Go.Proofs.YtocphcgcpjcfjaaGreat
open Go Go.CM
attribute [local irreducible] AsBool AsWant AsNat AsInt AsCnt AsPtr AsSlc AsLen AsStr AsAgg AsTup AsFn AsIfc Nth Sc NotNil IsNil Must Cd codeW funW Sat SatL wrapN subM mkRow ltZ leZ ltN leN
variable {con : CallT}
set_option maxRecDepth 100000 in
theorem r14step_ok (hc : Con con lives) (s : P13) {L R1 R2 : List HP} {H : CH} {p m : Nat} {th : Int} {M : Mem} {K : KP} (hs : Sat L H) (hm : Pull L (RefP m M) R1) (hp : Pull R1 (RAt13 p s) R2)
    (ht : M.tr.length < 1000000000) (hb : M.Bd) (hok : s.Ok) (htl : s.Tl) (h2 : s.isN = false)
    (k : ∀ H1, Sat (RAt13 p (s.step M th).1 :: RefP m (s.step M th).2 :: R2) H1 → K (.bool (s.step M th).1.fin) H1) :
    Call1 Tryz.prog con 92 [ptr p 0, ptr m 0, i64 th] H K := by
  have hs0 := hs.takes (.cons hm (.cons hp .nil))
  simp only [List.cons_append, List.nil_append] at hs0
  clear hs hm hp
  obtain ⟨u1, u2, s1, s2, d, ⟨w, v, hin⟩, hR⟩ := hs0.opens (A := RAt13 p s) (.there .here)
  have hs1 := Sat.merge s1 s2 d hin hR
  simp only [List.cons_append, List.nil_append] at hs1
  clear hs0
  cases h0 : s.isS with
  | true =>
    rw [p13_stepS h0] at k
    dsimp only at k
    have ek := p13_isS h0
    rw [ek] at hs1
    refine rProc0_ok hc s.sn hs1 pp pp ht hb (hok.sn h0) fun H1 b hb' h1 => ?_
    have e : P13.fin { s with sn := (s.sn.step M th).1 } = b := (p13_finS (s := { s with sn := (s.sn.step M th).1 }) h0).trans hb'.symm
    rw [← e]
    have e2 := p13_toldS (s := { s with sn := (s.sn.step M th).1 }) h0
    have e3 := p13_toldS h0
    have h5 : Sat ([Own p (d13 (Int.ofNat 0) (s.sn.step M th).1 s.lt s.sc w v (t13 (u64 (s.sn.step M th).1.handle) (u64 (s.sn.step M th).1.stamp) (iN (s.sn.step M th).1.err) (u64 s.told.fl) w (.bool b))), Vec w tU 1 (rowsU s.sc.need), Vec v tU 1 (rowsU s.sc.told)] ++ (RefP m (s.sn.step M th).2 :: R2)) H1 := h1.ent ee
    refine k H1 (h5.close fun g a => ⟨w, v, ?_⟩)
    rw [e2, e]
    rw [e3] at a
    dsimp only
    rw [ek]
    exact a
  | false =>
    rw [p13_stepL h0 h2] at k
    dsimp only at k
    refine rProc1_ok hc s.lt hs1 pp pp h0 h2 ht hb (hok.lt h0 h2).2 (hok.lt h0 h2).1 fun H1 b hb' h1 => ?_
    have e : P13.fin { s with lt := (s.lt.step M th).1 } = b := (p13_finL (s := { s with lt := (s.lt.step M th).1 }) h0 h2).trans hb'.symm
    rw [← e]
    have e2 := p13_toldL (s := { s with lt := (s.lt.step M th).1 }) h0 h2
    have e3 := p13_toldL h0 h2
    have h5 : Sat ([Own p (d13 s.kind s.sn (s.lt.step M th).1 s.sc w v (t13 (u64 s.told.h) (u64 s.told.st) (iN (s.lt.step M th).1.err) (u64 s.told.fl) w (.bool b))), Vec w tU 1 (rowsU s.sc.need), Vec v tU 1 (rowsU s.sc.told)] ++ (RefP m (s.lt.step M th).2 :: R2)) H1 := h1.ent ee
    refine k H1 (h5.close fun g a => ⟨w, v, ?_⟩)
    rw [e2, e]
    rw [e3] at a
    exact a
theorem lt_fresh (sl : SlotsS) (c : C14) (i : Nat) : Q14.lt sl { Q14.fresh sl c i with from_ := 0 } = let0 sl c.h := by
  unfold Q14.lt
  cases e : eqZ c.kind (Int.ofNat 1) with
  | false => simp only [Q14.fresh, e, cond_false]
  | true =>
    have ek : c.kind = Int.ofNat 1 := of_decide_eq_true e
    simp only [Q14.fresh, e, cond_true]
    show let0 sl (bh c.kind c.h []) = _
    rw [ek, show bh (Int.ofNat 1) c.h [] = c.h from by unfold bh; rw [ltZ_f (Nat.zero_le 1), ltZ_f (show 1 ≤ 2 by omega)]; rfl]
set_option maxRecDepth 100000 in
theorem l14begin_ok (hc : Con con lives) (sl : SlotsS) (c : C14) {i : Nat} {L : List HP} {H : CH} {K : KP} (hs : Sat L H)
    (k : ∀ p H1, Sat (QAt sl p { Q14.fresh sl c i with from_ := 0 } :: L) H1 → K (ptr p 0) H1) : Call1 Tryz.prog con 72 [.agg ⟨[u64 sl.cam, u64 sl.first, i64 sl.count, u64 sl.most]⟩, .agg ⟨[i64 c.kind, u64 c.h, u64 c.st]⟩] H K := by
  refine call_of (hc _ _ _ rfl) ?_
  rw [l14begin_W]
  refine na fun p1 H2 h2 => ?_
  refine na fun p3 H4 h4 => ?_
  repeat (refine gO ?_; intros)
  refine newSnap_ok hc sl h4 fun q1 H13 h13 => ?_
  repeat (refine gO ?_; intros)
  refine newLet_ok hc sl h13 fun q2 H20 h20 => ?_
  repeat (refine gO ?_; intros)
  refine hOpen_ok hc sl h20 fun q3 H27 h27 => ?_
  repeat (refine gO ?_; intros)
  refine hClose_ok hc sl h27 fun q4 H35 h35 => ?_
  repeat (refine gO ?_; intros)
  refine rbegin13_ok hc sl (rows := []) (hd := []) (et := tU) (h35.nilV (s := 6)) Has.vec (by simp) rfl (fun i row x h => by simp at h) fun q5 H43 h43 => ?_
  repeat (refine gO ?_; intros)
  rename_i p55 H56 h56
  refine k p55 H56 (Sat.close (L1 := [Own p55 [i64 c.kind, u64 c.h, u64 c.st, ptr q1 0, ptr q2 0, ptr q3 0, ptr q4 0, ptr q5 0, iN 0, u64 sl.cam, u64 sl.first, i64 sl.count, u64 sl.most, u64 c.h, u64 0, iN 0, iN 0, u64 sl.cam, u64 sl.first, i64 sl.count, u64 sl.most, u64 c.h, u64 c.st, iN 0, iN 0, i64 (Int.negSucc 0)], Own q1 (snapC 0 (snap0 sl) 0), Own q2 (letC (let0 sl c.h) false), Own q3 (askC (ask0 sl c.h) []), Own q4 (askC (ask0 sl c.h) [u64 c.st]), RAt13 q5 (P13.fresh sl c.kind (bh c.kind c.h []))]) (h56.ent ee) fun g a => ⟨q1, q2, q3, q4, q5, 0, false, 0, 0, 0, 0, 0, ⟨fun q => by simp [snap0, P13.fresh, Q14.fresh] at q, ?_, fun _ => ⟨rfl, rfl, rfl⟩, fun _ => ⟨rfl, rfl⟩⟩, ?_⟩)
  · have e := lt_fresh sl c i
    rw [e]
    exact ⟨fun _ => rfl, fun q => by simp [let0] at q⟩
  · have e := lt_fresh sl c i
    rw [e]
    exact a
end Go.Proofs.YtocphcgcpjcfjaaGreat

set_option linter.unusedVariables false
set_option linter.unusedSimpArgs false
namespace Go.Proofs.YtocphcgcpjcfjaaGreat
open Go Go.CM
attribute [local irreducible] AsBool AsWant AsNat AsInt AsCnt AsPtr AsSlc AsLen AsStr AsAgg AsTup AsFn AsIfc Nth Sc NotNil IsNil Must Cd codeW funW Sat SatL wrapN subM mkRow ltZ leZ ltN leN
variable {con : CallT}
theorem q14_0 {q : Q14} (e0 : eqZ q.c.kind (Int.ofNat 0) = true) (sl : SlotsS) (M : Mem) (th : Int) : q.step sl M th = ({ q with s := (q.s.step M th).1 }, (q.s.step M th).2, (q.s.step M th).1.fin) := by unfold Q14.step; rw [e0]; rfl
theorem q14_1 {q : Q14} (e0 : eqZ q.c.kind (Int.ofNat 0) = false) (e1 : eqZ q.c.kind (Int.ofNat 1) = true) (sl : SlotsS) (M : Mem) (th : Int) : q.step sl M th = ({ q with s := (q.s.step M th).1 }, (q.s.step M th).2, (q.s.step M th).1.fin) := by unfold Q14.step; rw [e0, e1]; rfl
theorem q14_2 {q : Q14} (e0 : eqZ q.c.kind (Int.ofNat 0) = false) (e1 : eqZ q.c.kind (Int.ofNat 1) = false) (e2 : eqZ q.c.kind (Int.ofNat 2) = true) (sl : SlotsS) (M : Mem) (th : Int) : q.step sl M th = ({ q with op := (q.op.look M th).1 }, (q.op.look M th).2, true) := by unfold Q14.step; rw [e0, e1, e2]; rfl
theorem q14_3 {q : Q14} (e0 : eqZ q.c.kind (Int.ofNat 0) = false) (e1 : eqZ q.c.kind (Int.ofNat 1) = false) (e2 : eqZ q.c.kind (Int.ofNat 2) = false) (e3 : eqZ q.c.kind (Int.ofNat 3) = true) (sl : SlotsS) (M : Mem) (th : Int) : q.step sl M th = ({ q with cl := (q.cl.look M th).1 }, (q.cl.look M th).2, true) := by unfold Q14.step; rw [e0, e1, e2, e3]; rfl
theorem q14_4 {q : Q14} (e0 : eqZ q.c.kind (Int.ofNat 0) = false) (e1 : eqZ q.c.kind (Int.ofNat 1) = false) (e2 : eqZ q.c.kind (Int.ofNat 2) = false) (e3 : eqZ q.c.kind (Int.ofNat 3) = false) (e4 : eqZ q.c.kind (Int.ofNat 4) = true) (sl : SlotsS) (M : Mem) (th : Int) : q.step sl M th = (q, M.store th (addM sl.first q.c.h) q.c.st, true) := by unfold Q14.step; rw [e0, e1, e2, e3, e4]; rfl
theorem q14_5 {q : Q14} (e0 : eqZ q.c.kind (Int.ofNat 0) = false) (e1 : eqZ q.c.kind (Int.ofNat 1) = false) (e2 : eqZ q.c.kind (Int.ofNat 2) = false) (e3 : eqZ q.c.kind (Int.ofNat 3) = false) (e4 : eqZ q.c.kind (Int.ofNat 4) = false) (sl : SlotsS) (M : Mem) (th : Int) : q.step sl M th = (q, M, true) := by unfold Q14.step; rw [e0, e1, e2, e3, e4]; rfl
theorem look_hd (sl : SlotsS) (h : Nat) (M : Mem) (th : Int) : ((ask0 sl h).look M th).1.dn = true ∧ ((ask0 sl h).look M th).1.hd = hHolds sl h M ∧ (hHolds sl h M = true → ((ask0 sl h).look M th).1.t = stampW (hWord sl h M)) ∧ ((ask0 sl h).look M th).2 = (bif hThere sl h then M.load th (addM sl.first (h % 65536 - 1)) else M) := by
  unfold AskS.look hHolds ask0
  cases e : hThere sl h with
  | false => exact ⟨rfl, rfl, fun q => by simp at q, rfl⟩
  | true => exact ⟨rfl, rfl, fun _ => rfl, rfl⟩
set_option maxRecDepth 100000 in
theorem l14step_ok (hc : Con con lives) (sl : SlotsS) (q : Q14) {R : List HP} {H : CH} {p v m r n : Nat} {th : Int} {M : Mem} {K : KP} (hs : Sat (QAt sl p q :: MemP m M :: RefP r M :: ViewAt v m th n :: R) H)
    (hg : q.Go sl) (hf : Fine M) (hn : n < 1000000000) (ht : M.tr.length < 1000000000)
    (k : ∀ n' H1, n' ≤ n + 1 → Sat (QAt sl p (q.step sl M th).1 :: MemP m (q.step sl M th).2.1 :: RefP r (q.step sl M th).2.1 :: ViewAt v m th n' :: R) H1 → K (.tuple ⟨[.bool (q.step sl M th).2.2, .bool true]⟩) H1) :
    Call1 Tryz.prog con 73 [ptr p 0, ptr v 0, ptr r 0, .agg ⟨[u64 sl.cam, u64 sl.first, i64 sl.count, u64 sl.most]⟩, i64 th] H K := by
  refine call_of (hc _ _ _ rfl) ?_
  rw [l14step_W]
  obtain ⟨u1, u2, s1, s2, d, ⟨p3, p4, p5, p6, p7, g, sn, oA, oS, oE, cA, cE, ⟨hg1, hj, hoo, hcc⟩, hin⟩, hR⟩ := hs.opens Pull.here
  have hs1 := Sat.merge s1 s2 d hin hR
  simp only [List.cons_append, List.nil_append] at hs1
  refine na fun p1 H2 h2 => ?_
  have hbd := hf.bd
  have hS : q.s.isS = eqZ q.c.kind (Int.ofNat 0) := by unfold P13.isS; rw [hg.kd]
  have hN : q.s.isN = eqZ q.c.kind (Int.ofNat 2) := by unfold P13.isN; rw [hg.kd]
  repeat (refine gO ?_; intros)
  cases e0 : eqZ q.c.kind (Int.ofNat 0) with
  | true =>
    rw [q14_0 e0] at k
    refine Cd.t rfl ?_
    rw [e0] at hS
    repeat (refine gO ?_; intros)
    refine snapStep_ok hc q.s.sn (g := g) h2 pp pp pp hn ht hbd (hg.ok.sn hS) hg1 fun g' n' H7 hn' hg' h7 => ?_
    repeat (refine gO ?_; intros)
    refine r14step_ok hc q.s h7 pp pp ht hbd hg.ok hg.tl (p13_not hS) fun H10 h10 => ?_
    rw [p13_stepS hS] at k h10 ⊢
    dsimp only at k h10 ⊢
    have e : P13.fin { q.s with sn := (q.s.sn.step M th).1 } = eqZ (Int.ofNat (q.s.sn.step M th).1.at_) (Int.ofNat 8) := p13_finS (s := { q.s with sn := (q.s.sn.step M th).1 }) hS
    rw [e] at k ⊢
    repeat (refine gO ?_; intros)
    rw [eqB_self]
    exact k n' H10 hn' (Sat.close (L1 := [_, _, _, _, _, _]) (h10.ent ee) fun g0 a => ⟨p3, p4, p5, p6, p7, g', sn, oA, oS, oE, cA, cE, ⟨hg', hj, hoo, hcc⟩, a⟩)
  | false =>
    refine Cd.f rfl ?_
    rw [e0] at hS
    repeat (refine gO ?_; intros)
    cases e1 : eqZ q.c.kind (Int.ofNat 1) with
    | true =>
      rw [q14_1 e0 e1] at k
      refine Cd.t rfl ?_
      have hN' : q.s.isN = false := by
        have e : q.c.kind = Int.ofNat 1 := of_decide_eq_true e1
        rw [hN, e]
        exact eqZ_f (by omega)
      have elt : q.lt sl = q.s.lt := by unfold Q14.lt; rw [e1]; rfl
      rw [elt] at hj h2
      obtain ⟨hat, hhh⟩ := hg.ok.lt hS hN'
      repeat (refine gO ?_; intros)
      refine letStep_ok hc q.s.lt (sn := sn) h2 pp pp pp hn ht hbd hhh hat hj fun sn' n' H7 hn' hj' h7 => ?_
      repeat (refine gO ?_; intros)
      refine r14step_ok hc q.s h7 pp pp ht hbd hg.ok hg.tl hN' fun H10 h10 => ?_
      rw [p13_stepL hS hN'] at k h10 ⊢
      dsimp only at k h10 ⊢
      have e : P13.fin { q.s with lt := (q.s.lt.step M th).1 } = eqZ (Int.ofNat (q.s.lt.step M th).1.at_) (Int.ofNat 2) := p13_finL (s := { q.s with lt := (q.s.lt.step M th).1 }) hS hN'
      rw [e] at k ⊢
      repeat (refine gO ?_; intros)
      rw [eqB_self]
      have elt2 : Q14.lt sl { q with s := { q.s with lt := (q.s.lt.step M th).1 } } = (q.s.lt.step M th).1 := by unfold Q14.lt; simp only [e1, cond_true]
      refine k n' H10 hn' (Sat.close (L1 := [Own p [i64 q.c.kind, u64 q.c.h, u64 q.c.st, ptr p3 0, ptr p4 0, ptr p5 0, ptr p6 0, ptr p7 0, iN oA, u64 sl.cam, u64 sl.first, i64 sl.count, u64 sl.most, u64 q.c.h, u64 oS, iN oE, iN cA, u64 sl.cam, u64 sl.first, i64 sl.count, u64 sl.most, u64 q.c.h, u64 q.c.st, iN cE, iN q.from_, i64 q.to], Own p3 (snapC q.s.sn.at_ q.s.sn g), Own p4 (letC (q.s.lt.step M th).1 sn'), Own p5 (askC q.op []), Own p6 (askC q.cl [u64 q.c.st]), RAt13 p7 { q.s with lt := (q.s.lt.step M th).1 }]) (h10.ent ee) fun g0 a => ⟨p3, p4, p5, p6, p7, g, sn', oA, oS, oE, cA, cE, ⟨hg1, by rw [elt2]; exact hj', hoo, hcc⟩, ?_⟩)
      rw [elt2]
      exact a
    | false =>
      refine Cd.f rfl ?_
      repeat (refine gO ?_; intros)
      cases e2 : eqZ q.c.kind (Int.ofNat 2) with
      | true =>
        rw [q14_2 e0 e1 e2] at k
        refine Cd.t rfl ?_
        obtain ⟨l1, l2, l3, l4⟩ := look_hd sl q.c.h M th
        rw [← hg.op] at l1 l2 l3 l4
        obtain ⟨rfl, rfl, rfl⟩ := hoo (by rw [hg.op]; rfl)
        have hop : (q.op.step M th) = q.op.look M th := by unfold AskS.step; rw [show q.op.dn = false from by rw [hg.op]; rfl]; rfl
        repeat (refine gO ?_; intros)
        refine hOpenStep_ok hc q.op h2 pp pp pp hn ht hbd (by rw [hg.op]; exact hg.hh) fun n' H25 hn' h25 => ?_
        rw [hop] at h25
        refine rOpenStep_ok hc sl (h := q.c.h) (c := fun i => [i64 q.c.kind, u64 q.c.h, u64 q.c.st, ptr p3 0, ptr p4 0, ptr p5 0, ptr p6 0, ptr p7 0].getD i unit) (rest := [iN cA, u64 sl.cam, u64 sl.first, i64 sl.count, u64 sl.most, u64 q.c.h, u64 q.c.st, iN cE, iN q.from_, i64 q.to]) h25 pp pp ht hbd hg.hh fun H27 h27 => ?_
        rw [← l4] at h27
        simp only [List.getD_cons_zero, List.getD_cons_succ, List.cons_append, List.nil_append] at h27
        repeat (refine gO ?_; intros)
        refine hOpenStamp_ok hc (q.op.look M th).1 (ex := []) h27 ?_
        repeat (refine gO ?_; intros)
        have es : (if (q.op.look M th).1.hd = true then (q.op.look M th).1.t else 0) = (bif hHolds sl q.c.h M then stampW (hWord sl q.c.h M) else 0) := by
          rw [l2]
          cases hh : hHolds sl q.c.h M with
          | false => rfl
          | true => rw [l3 hh]; rfl
        rw [es, eqN_self]
        repeat (refine gO ?_; intros)
        refine hOpenErr_ok hc (q.op.look M th).1 (ex := []) h27 ?_
        have eer : (if ((q.op.look M th).1.dn && !(q.op.look M th).1.hd) = true then 33 else 0) = (bif hHolds sl q.c.h M then 0 else 33) := by
          rw [l1, l2]
          cases hHolds sl q.c.h M <;> rfl
        rw [eer]
        repeat (refine gO ?_; intros)
        rw [eqZ_self]
        refine k n' H27 hn' (Sat.close (L1 := [_, _, _, _, _, _]) (h27.ent ee) fun g0 a => ⟨p3, p4, p5, p6, p7, g, sn, 1, _, _, cA, cE, ⟨hg1, hj, fun x => ?_, hcc⟩, a⟩)
        have x : (q.op.look M th).1.dn = false := x
        rw [l1] at x; cases x
      | false =>
        refine Cd.f rfl ?_
        repeat (refine gO ?_; intros)
        cases e3 : eqZ q.c.kind (Int.ofNat 3) with
        | true =>
          rw [q14_3 e0 e1 e2 e3] at k
          refine Cd.t rfl ?_
          obtain ⟨l1, l2, l3, l4⟩ := look_hd sl q.c.h M th
          rw [← hg.cl] at l1 l2 l3 l4
          obtain ⟨rfl, rfl⟩ := hcc (by rw [hg.cl]; rfl)
          have hop : (q.cl.step M th) = q.cl.look M th := by unfold AskS.step; rw [show q.cl.dn = false from by rw [hg.cl]; rfl]; rfl
          repeat (refine gO ?_; intros)
          refine hCloseStep_ok hc q.cl h2 pp pp pp hn ht hbd (by rw [hg.cl]; exact hg.hh) fun n' H25 hn' h25 => ?_
          rw [hop] at h25
          refine rCloseStep_ok hc sl (h := q.c.h) (st := q.c.st) (c := fun i => [i64 q.c.kind, u64 q.c.h, u64 q.c.st, ptr p3 0, ptr p4 0, ptr p5 0, ptr p6 0, ptr p7 0, iN oA, u64 sl.cam, u64 sl.first, i64 sl.count, u64 sl.most, u64 q.c.h, u64 oS, iN oE].getD i unit) (rest := [iN q.from_, i64 q.to]) h25 pp pp ht hbd hg.hh fun H27 h27 => ?_
          rw [← l4] at h27
          simp only [List.getD_cons_zero, List.getD_cons_succ, List.cons_append, List.nil_append] at h27
          repeat (refine gO ?_; intros)
          refine hCloseErr_ok hc (q.cl.look M th).1 (st := q.c.st) h27 ?_
          have eer : (if ((q.cl.look M th).1.dn && !((q.cl.look M th).1.hd && eqN (q.cl.look M th).1.t q.c.st)) = true then 34 else 0) = (bif hHolds sl q.c.h M && eqN (stampW (hWord sl q.c.h M)) q.c.st then 0 else 34) := by
            rw [l1, l2]
            cases hh : hHolds sl q.c.h M with
            | false => rfl
            | true =>
              rw [l3 hh]
              cases eqN (stampW (hWord sl q.c.h M)) q.c.st <;> rfl
          rw [eer]
          repeat (refine gO ?_; intros)
          rw [eqZ_self]
          refine k n' H27 hn' (Sat.close (L1 := [_, _, _, _, _, _]) (h27.ent ee) fun g0 a => ⟨p3, p4, p5, p6, p7, g, sn, oA, oS, oE, 1, _, ⟨hg1, hj, hoo, fun x => ?_⟩, a⟩)
          have x : (q.cl.look M th).1.dn = false := x
          rw [l1] at x; cases x
        | false =>
          refine Cd.f rfl ?_
          repeat (refine gO ?_; intros)
          cases e4 : eqZ q.c.kind (Int.ofNat 4) with
          | true =>
            rw [q14_4 e0 e1 e2 e3 e4] at k
            refine Cd.t rfl ?_
            repeat (refine gO ?_; intros)
            refine viewStore_ok (a := addM sl.first q.c.h) hc h2 pp pp hn ht fun H71 h71 => ?_
            repeat (refine gO ?_; intros)
            refine refStore_ok (a := addM sl.first q.c.h) hc h71 pp ht fun H78 h78 => ?_
            exact k (n + 1) H78 (Nat.le_refl _) (Sat.close (L1 := [_, _, _, _, _, _]) (h78.ent ee) fun g0 a => ⟨p3, p4, p5, p6, p7, g, sn, oA, oS, oE, cA, cE, ⟨hg1, hj, hoo, hcc⟩, a⟩)
          | false =>
            rw [q14_5 e0 e1 e2 e3 e4] at k
            refine Cd.f rfl ?_
            exact k n H2 (Nat.le_succ _) (Sat.close (L1 := [_, _, _, _, _, _]) (h2.ent ee) fun g0 a => ⟨p3, p4, p5, p6, p7, g, sn, oA, oS, oE, cA, cE, ⟨hg1, hj, hoo, hcc⟩, a⟩)
end Go.Proofs.YtocphcgcpjcfjaaGreat

set_option linter.unusedVariables false
set_option linter.unusedSimpArgs false
namespace Go.Proofs.YtocphcgcpjcfjaaGreat
open Go Go.CM
attribute [local irreducible] AsBool AsWant AsNat AsInt AsCnt AsPtr AsSlc AsLen AsStr AsAgg AsTup AsFn AsIfc Nth Sc NotNil IsNil Must Cd codeW funW Sat SatL wrapN subM mkRow ltZ leZ ltN leN
variable {con : CallT}
theorem ceP_n {f : TF → CH → Prop} {g : Nat → TF → CH → Prop} {h : TF → CH → Prop} : ceP CE.normal f g h = f := rfl
abbrev nilP : Value := .pointer none
theorem el_q : elemOk Tryz.prog 84 96 1 8 = true := by kernel_rfl
theorem sl_q : ∃ e, Tryz.prog.underlying 84 = some (.slice e) := ⟨96, by kernel_rfl⟩
def NowR (ps : List Nat) (x : Option Nat) (v : Value) : Prop := match x with | none => v = nilP | some b => ∃ p, ps[b]? = some p ∧ v = ptr p 0
def Now2 (ps : List Nat) (now : List (Option Nat)) (nv : List Value) : Prop := nv.length = now.length ∧ ∀ (k : Nat) x v, now[k]? = some x → nv[k]? = some v → NowR ps x v
theorem Now2.set {ps : List Nat} {now : List (Option Nat)} {nv : List Value} (h : Now2 ps now nv) (k : Nat) {x : Option Nat} {v : Value} (r : NowR ps x v) : Now2 ps (now.set k x) (nv.set k v) := by
  refine ⟨by simp [h.1], fun j y w h1 h2 => ?_⟩
  rw [List.getElem?_set] at h1 h2
  by_cases e : k = j
  · subst e
    rw [if_pos rfl] at h1 h2
    split at h1
    · split at h2
      · cases h1; cases h2; exact r
      · cases h2
    · cases h1
  · rw [if_neg e] at h1 h2
    exact h.2 j y w h1 h2
theorem NowR.mono {ps : List Nat} {x : Option Nat} {v : Value} (h : NowR ps x v) (p : Nat) : NowR (ps ++ [p]) x v := by
  cases x with
  | none => exact h
  | some b =>
    obtain ⟨q, h1, h2⟩ := h
    exact ⟨q, by rw [List.getElem?_append_left (List.getElem?_eq_some_iff.1 h1).1]; exact h1, h2⟩
theorem Now2.mono {ps : List Nat} {now : List (Option Nat)} {nv : List Value} (h : Now2 ps now nv) (p : Nat) : Now2 (ps ++ [p]) now nv := ⟨h.1, fun k x v h1 h2 => (h.2 k x v h1 h2).mono p⟩
def Keep (a b : TF) : Prop := b 1 = a 1 ∧ b 2 = a 2 ∧ b 6 = a 6 ∧ b 8 = a 8 ∧ b 10 = a 10 ∧ b 12 = a 12 ∧ b 16 = a 16 ∧ b 17 = a 17 ∧ b 18 = a 18 ∧ b 19 = a 19
theorem Keep.trans {a b c : TF} (h : Keep a b) (g : Keep b c) : Keep a c := by
  obtain ⟨h1, h2, h3, h4, h5, h6, h7, h8, h9, h10⟩ := h
  obtain ⟨g1, g2, g3, g4, g5, g6, g7, g8, g9, g10⟩ := g
  exact ⟨g1.trans h1, g2.trans h2, g3.trans h3, g4.trans h4, g5.trans h5, g6.trans h6, g7.trans h7, g8.trans h8, g9.trans h9, g10.trans h10⟩
abbrev qC (sl : SlotsS) (q : Q14) (p3 p4 p5 p6 p7 oA oS oE cA cE : Nat) (z : Int) : List Value := [i64 q.c.kind, u64 q.c.h, u64 q.c.st, ptr p3 0, ptr p4 0, ptr p5 0, ptr p6 0, ptr p7 0, iN oA, u64 sl.cam, u64 sl.first, i64 sl.count, u64 sl.most, u64 q.c.h, u64 oS, iN oE, iN cA, u64 sl.cam, u64 sl.first, i64 sl.count, u64 sl.most, u64 q.c.h, u64 q.c.st, iN cE, iN q.from_, i64 z]
set_option maxRecDepth 100000 in
theorem ran_end (hc : Con con lives) {sl : SlotsS} {q : Q14} {p pc : Nat} {M : Mem} {R : List HP} {H : CH} {m bn en k i n : Nat} {nv : List Value} {fin : Bool} {σ : TF} {Q : KX}
    (hs : Sat (QAt sl p q :: MemP m M :: Row bn en 0 true nv :: Own pc [u64 sl.cam, u64 sl.first, i64 sl.count, u64 sl.most] :: R) H)
    (hf : Fine M) (ht : M.tr.length < 1000000000) (h64 : q.op.h < 18446744073709551616 ∧ q.cl.h < 18446744073709551616) (h2d : fin = true → q.c.kind = Int.ofNat 2 → q.op.dn = true) (h3d : fin = true → q.c.kind = Int.ofNat 3 → q.cl.dn = true) (hk : nv[k]? = some (ptr p 0)) (hn : nv.length = n)
    (e8 : σ 8 = ptr m 0) (e12 : σ 12 = ptr pc 0) (e16 : σ 16 = slc bn 0 n n) (e19 : σ 19 = iN i) (e20 : σ 20 = i64 (Int.ofNat k)) (e22 : σ 22 = .bool fin)
    (kk : ∀ σ1 H1, Keep σ σ1 → Sat (QAt sl p (q.end_ fin i) :: MemP m M :: Row bn en 0 true (nv.set k (if fin then nilP else ptr p 0)) :: Own pc [u64 sl.cam, u64 sl.first, i64 sl.count, u64 sl.most] :: R) H1 → Q .normal σ1 H1) :
    codeW (dropC 8 (blkC ((flatC (blkC (lpAt Tryz.prog 23 0))).getD 2 .skip))) Tryz.prog con σ H Q := by
  have hkn : k < n := by have := (List.getElem?_eq_some_iff.1 hk).1; omega
  rw [codeW_cut2 8 1, l14ranB8_W]
  show codeW (dropC (8 + 1) _) _ _ _ _ _
  rw [codeW_cut2 9 1]
  show codeW (sliceC 9 1 _) _ _ (upd σ 198 (σ 22)) _ _
  have t8 : upd σ 198 (σ 22) 8 = ptr m 0 := e8
  have t12 : upd σ 198 (σ 22) 12 = ptr pc 0 := e12
  have t16 : upd σ 198 (σ 22) 16 = slc bn 0 n n := e16
  have t19 : upd σ 198 (σ 22) 19 = iN i := e19
  have t20 : upd σ 198 (σ 22) 20 = i64 (Int.ofNat k) := e20
  have t198 : upd σ 198 (σ 22) 198 = .bool fin := e22
  have tK : Keep σ (upd σ 198 (σ 22)) := ⟨rfl, rfl, rfl, rfl, rfl, rfl, rfl, rfl, rfl, rfl⟩
  generalize upd σ 198 (σ 22) = τ at *
  rw [l14ranB9_W, t198]
  cases fin with
  | false =>
    refine AsBool.mk (Cd.f rfl ?_)
    show codeW (dropC (9 + 1) _) _ _ _ _ _
    rw [l14ranB10_W]
    refine kk _ H tK ?_
    rw [show nv.set k (if false = true then nilP else ptr p 0) = nv from set_self hk]
    exact hs
  | true =>
    refine AsBool.mk (Cd.t rfl ?_)
    obtain ⟨u1, u2, s1, s2, d, ⟨p3, p4, p5, p6, p7, g, sn, oA, oS, oE, cA, cE, ⟨hg1, hj, hoo, hcc⟩, hin⟩, hR⟩ := hs.opens Pull.here
    have hs1 := Sat.merge s1 s2 d hin hR
    simp only [List.cons_append, List.nil_append] at hs1
    have fin : ∀ σ1 H1, Keep τ σ1 → Sat (Row bn en 0 true (nv.set k nilP) :: Own p (qC sl q p3 p4 p5 p6 p7 oA oS oE cA cE (Int.ofNat i)) :: Own p3 (snapC q.s.sn.at_ q.s.sn g) :: Own p4 (letC (q.lt sl) sn) :: Own p5 (askC q.op []) :: Own p6 (askC q.cl [u64 q.c.st]) :: RAt13 p7 q.s :: MemP m M :: Own pc [u64 sl.cam, u64 sl.first, i64 sl.count, u64 sl.most] :: R) H1 → Q .normal σ1 H1 := fun σ1 H1 hK h1 =>
      kk σ1 H1 (tK.trans hK) (Sat.close (L1 := [_, _, _, _, _, _]) (h1.ent ee) fun g0 a => ⟨p3, p4, p5, p6, p7, g, sn, oA, oS, oE, cA, cE, ⟨hg1, hj, hoo, hcc⟩, a⟩)
    clear kk hs
    rw [t8, t12, t16, t19, t20]
    repeat (refine gO ?_; intros)
    refine Must.mk (ltN_t hkn) (ldRow hs1 (off1 k) hk ?_)
    repeat (refine gO ?_; intros)
    rename_i H10 h10
    replace h10 : Sat (Own p (qC sl q p3 p4 p5 p6 p7 oA oS oE cA cE (Int.ofNat i)) :: Own p3 (snapC q.s.sn.at_ q.s.sn g) :: Own p4 (letC (q.lt sl) sn) :: Own p5 (askC q.op []) :: Own p6 (askC q.cl [u64 q.c.st]) :: RAt13 p7 q.s :: MemP m M :: Row bn en 0 true nv :: Own pc [u64 sl.cam, u64 sl.first, i64 sl.count, u64 sl.most] :: R) H10 := h10
    refine Must.mk (ltN_t hkn) (ldRow h10 (off1 k) hk ?_)
    repeat (refine gO ?_; intros)
    cases e2 : eqZ q.c.kind (Int.ofNat 2) with
    | true =>
      have ek : q.c.kind = Int.ofNat 2 := of_decide_eq_true e2
      refine Cd.t rfl ?_
      repeat (refine gO ?_; intros)
      refine Must.mk (ltN_t hkn) (ldRow h10 (off1 k) hk ?_)
      repeat (refine gO ?_; intros)
      refine memView_ok hc h10 fun v H31 h31 => ?_
      have hst : (q.op.step M (Int.ofNat k)) = (q.op, M) := by unfold AskS.step; rw [h2d rfl ek]; rfl
      refine hOpenStep_ok hc q.op h31 pp pp pp (by omega) ht hf.bd h64.1 fun n' H33 hn' h33 => ?_
      rw [hst] at h33
      repeat (refine gO ?_; intros)
      refine Must.mk (ltN_t hkn) (ldRow h33 (off1 k) hk ?_)
      repeat (refine gO ?_; intros)
      refine Cd.f (by rw [ek]; exact eqZ_f (by omega)) ?_
      repeat (refine gO ?_; intros)
      refine ldRow h10 (off1 k) hk ?_
      repeat (refine gO ?_; intros)
      refine ldRow h31 (off1 k) hk ?_
      repeat (refine gO ?_; intros)
      refine Must.mk (ltN_t hkn) (st h33 (by rw [off1]; omega) rfl fun H7 h7 => ?_)
      rw [off1] at h7
      show codeW (dropC (9 + 1) _) _ _ _ _ _
      rw [l14ranB10_W]
      exact fin _ H7 ⟨rfl, rfl, rfl, rfl, rfl, rfl, rfl, rfl, rfl, rfl⟩ (h7.ent ee)
    | false =>
      refine Cd.f rfl ?_
      repeat (refine gO ?_; intros)
      refine Must.mk (ltN_t hkn) (ldRow h10 (off1 k) hk ?_)
      repeat (refine gO ?_; intros)
      cases e3 : eqZ q.c.kind (Int.ofNat 3) with
      | true =>
        have ek : q.c.kind = Int.ofNat 3 := of_decide_eq_true e3
        refine Cd.t rfl ?_
        repeat (refine gO ?_; intros)
        refine Must.mk (ltN_t hkn) (ldRow h10 (off1 k) hk ?_)
        repeat (refine gO ?_; intros)
        refine memView_ok hc h10 fun v H31 h31 => ?_
        have hst : (q.cl.step M (Int.ofNat k)) = (q.cl, M) := by unfold AskS.step; rw [h3d rfl ek]; rfl
        refine hCloseStep_ok hc q.cl h31 pp pp pp (by omega) ht hf.bd h64.2 fun n' H33 hn' h33 => ?_
        rw [hst] at h33
        repeat (refine gO ?_; intros)
        refine ldRow h10 (off1 k) hk ?_
        repeat (refine gO ?_; intros)
        refine ldRow h31 (off1 k) hk ?_
        repeat (refine gO ?_; intros)
        refine Must.mk (ltN_t hkn) (st h33 (by rw [off1]; omega) rfl fun H7 h7 => ?_)
        rw [off1] at h7
        show codeW (dropC (9 + 1) _) _ _ _ _ _
        rw [l14ranB10_W]
        exact fin _ H7 ⟨rfl, rfl, rfl, rfl, rfl, rfl, rfl, rfl, rfl, rfl⟩ (h7.ent ee)
      | false =>
        refine Cd.f rfl ?_
        repeat (refine gO ?_; intros)
        refine Must.mk (ltN_t hkn) (st h10 (by rw [off1]; omega) rfl fun H7 h7 => ?_)
        rw [off1] at h7
        show codeW (dropC (9 + 1) _) _ _ _ _ _
        rw [l14ranB10_W]
        exact fin _ H7 ⟨rfl, rfl, rfl, rfl, rfl, rfl, rfl, rfl, rfl, rfl⟩ (h7.ent ee)
set_option maxRecDepth 100000 in
theorem ran_live (hc : Con con lives) {sl : SlotsS} {M' : Mem} {R : List HP} {H2 : CH} {m r bn en pc k b i n p : Nat} {q' : Q14} {nv : List Value} {ps : List Nat} {all : List Q14} {done : Bool} {τ : TF} {Q : KX}
    (h2 : Sat (QAt sl p q' :: MemP m M' :: RefP r M' :: SatL ((List.zipWith (QAt sl) ps all).set b Emp) :: Row bn en 0 true nv :: Own pc [u64 sl.cam, u64 sl.first, i64 sl.count, u64 sl.most] :: R) H2)
    (hnx : Fine M') (ht : M'.tr.length < 1000000000) (h64 : q'.op.h < 18446744073709551616 ∧ q'.cl.h < 18446744073709551616) (h2d : done = true → q'.c.kind = Int.ofNat 2 → q'.op.dn = true) (h3d : done = true → q'.c.kind = Int.ofNat 3 → q'.cl.dn = true) (hb : b < (List.zipWith (QAt sl) ps all).length) (hp : ps[b]? = some p) (hk : nv[k]? = some (ptr p 0)) (hn : nv.length = n)
    (k8 : τ 8 = ptr m 0) (k10 : τ 10 = ptr r 0) (k12 : τ 12 = ptr pc 0) (k16 : τ 16 = slc bn 0 n n) (k19 : τ 19 = iN i) (t20 : τ 20 = i64 (Int.ofNat k)) (t22 : τ 22 = .bool done) (t23 : τ 23 = .bool true)
    (kk : ∀ σ1 H1, Keep τ σ1 → Sat (SatL (List.zipWith (QAt sl) ps (all.set b (q'.end_ done i))) :: MemP m M' :: RefP r M' :: Row bn en 0 true (nv.set k (if done then nilP else ptr p 0)) :: Own pc [u64 sl.cam, u64 sl.first, i64 sl.count, u64 sl.most] :: R) H1 → Q .normal σ1 H1) :
    codeW (dropC 6 (blkC ((flatC (blkC (lpAt Tryz.prog 23 0))).getD 2 .skip))) Tryz.prog con τ H2 Q := by
  rw [codeW_cut2 6 1, l14ranB6_W, t23, k8, k10, k12]
  repeat (refine gO ?_; intros)
  refine hLive_ok hc sl h2 pp hnx.bd fun w H9 h9 => ?_
  repeat (refine gO ?_; intros)
  refine rLive14_ok hc sl h9 pp hnx.bd fun w2 H10 h10 => ?_
  have hll := liveL_len sl M'
  refine sameU_ok hc h10 (l := liveL sl M') (Has.skip (fun g a => Vec.nums (Has.vec g a))) (fun g a => Vec.nums (Has.vec g a)) (by omega) ?_
  repeat (refine gO ?_; intros)
  rw [ceP_n, codeW_cut2 7 1, l14ranB7_W]
  refine AsBool.mk (Cd.f rfl ?_)
  rw [ceP_n]
  have h11 : Sat (QAt sl p q' :: MemP m M' :: Row bn en 0 true nv :: Own pc [u64 sl.cam, u64 sl.first, i64 sl.count, u64 sl.most] :: RefP r M' :: SatL ((List.zipWith (QAt sl) ps all).set b Emp) :: R) H10 := h10.ent ee
  refine ran_end hc h11 hnx ht h64 h2d h3d hk hn k8 k12 k16 k19 t20 t22 fun σ1 H1 hK h1 => ?_
  refine kk σ1 H1 (Keep.trans ⟨rfl, rfl, rfl, rfl, rfl, rfl, rfl, rfl, rfl, rfl⟩ hK) ?_
  have h1a : Sat (QAt sl p (q'.end_ done i) :: SatL ((List.zipWith (QAt sl) ps all).set b Emp) :: MemP m M' :: Row bn en 0 true (nv.set k (if done then nilP else ptr p 0)) :: Own pc [u64 sl.cam, u64 sl.first, i64 sl.count, u64 sl.most] :: RefP r M' :: R) H1 := h1.ent ee
  have h1b := Sat.putAll hb h1a
  rw [zip_setR, set_self hp] at h1b
  exact h1b.ent ee
set_option maxRecDepth 100000 in
theorem ran_step (hc : Con con lives) {sl : SlotsS} {M : Mem} {R : List HP} {H : CH} {m r bn en pc k b i n p : Nat} {q : Q14} {nv : List Value} {ps : List Nat} {all : List Q14} {σ : TF} {Q : KX}
    (hs : Sat (SatL (List.zipWith (QAt sl) ps all) :: MemP m M :: RefP r M :: Row bn en 0 true nv :: Own pc [u64 sl.cam, u64 sl.first, i64 sl.count, u64 sl.most] :: R) H)
    (hg : q.Go sl) (hf : Fine M) (ht : M.tr.length < 900000000) (hq : all[b]? = some q) (hp : ps[b]? = some p) (hk : nv[k]? = some (ptr p 0)) (hn : nv.length = n)
    (e8 : σ 8 = ptr m 0) (e10 : σ 10 = ptr r 0) (e12 : σ 12 = ptr pc 0) (e16 : σ 16 = slc bn 0 n n) (e19 : σ 19 = iN i) (e20 : σ 20 = i64 (Int.ofNat k))
    (kk : ∀ σ1 H1, Keep σ σ1 → Sat (SatL (List.zipWith (QAt sl) ps (all.set b ((q.step sl M (Int.ofNat k)).1.end_ (q.step sl M (Int.ofNat k)).2.2 i))) :: MemP m (q.step sl M (Int.ofNat k)).2.1 :: RefP r (q.step sl M (Int.ofNat k)).2.1 :: Row bn en 0 true (nv.set k (if (q.step sl M (Int.ofNat k)).2.2 then nilP else ptr p 0)) :: Own pc [u64 sl.cam, u64 sl.first, i64 sl.count, u64 sl.most] :: R) H1 → Q .normal σ1 H1) :
    codeW (dropC 5 (blkC ((flatC (blkC (lpAt Tryz.prog 23 0))).getD 2 .skip))) Tryz.prog con σ H Q := by
  have hkn : k < n := by have := (List.getElem?_eq_some_iff.1 hk).1; omega
  rw [codeW_cut2 5 1, l14ranB5_W, e8, e10, e12, e16, e20]
  repeat (refine gO ?_; intros)
  refine Must.mk (ltN_t hkn) (ldRow hs (off1 k) hk ?_)
  repeat (refine gO ?_; intros)
  refine memView_ok hc hs fun v H8 h8 => ?_
  repeat (refine gO ?_; intros)
  have hgt : (List.zipWith (QAt sl) ps all)[b]? = some (QAt sl p q) := zip_get' _ hp hq
  have h8a : Sat (SatL (List.zipWith (QAt sl) ps all) :: _) H8 := h8.pull pp
  have h8b := h8a.pull (pull_all Pull.here hgt)
  have h8c : Sat (QAt sl p q :: MemP m M :: RefP r M :: ViewAt v m (Int.ofNat k) 0 :: SatL ((List.zipWith (QAt sl) ps all).set b Emp) :: Row bn en 0 true nv :: Own pc [u64 sl.cam, u64 sl.first, i64 sl.count, u64 sl.most] :: R) H8 := h8b.ent ee
  have hnx := (q14_nxt hg M (Int.ofNat k)).fine hf
  have hnt := (q14_nxt hg M (Int.ofNat k)).tr
  have hdn2 : (q.step sl M (Int.ofNat k)).2.2 = true → (q.step sl M (Int.ofNat k)).1.c.kind = Int.ofNat 2 → (q.step sl M (Int.ofNat k)).1.op.dn = true := fun _ h => by
    rw [(q14_same q sl M (Int.ofNat k)).1] at h
    rw [q14_2 (by rw [h]; exact eqZ_f (by omega)) (by rw [h]; exact eqZ_f (by omega)) (by rw [h]; exact eqZ_self _), hg.op]
    exact (look_hd sl q.c.h M (Int.ofNat k)).1
  have hdn3 : (q.step sl M (Int.ofNat k)).2.2 = true → (q.step sl M (Int.ofNat k)).1.c.kind = Int.ofNat 3 → (q.step sl M (Int.ofNat k)).1.cl.dn = true := fun _ h => by
    rw [(q14_same q sl M (Int.ofNat k)).1] at h
    rw [q14_3 (by rw [h]; exact eqZ_f (by omega)) (by rw [h]; exact eqZ_f (by omega)) (by rw [h]; exact eqZ_f (by omega)) (by rw [h]; exact eqZ_self _), hg.cl]
    exact (look_hd sl q.c.h M (Int.ofNat k)).1
  have hoph : (q.step sl M (Int.ofNat k)).1.op.h = q.c.h ∧ (q.step sl M (Int.ofNat k)).1.cl.h = q.c.h := by
    have l : ((ask0 sl q.c.h).look M (Int.ofNat k)).1.h = q.c.h := by
      unfold AskS.look
      cases hThere (ask0 sl q.c.h).sl (ask0 sl q.c.h).h <;> rfl
    unfold Q14.step
    cases eqZ q.c.kind (Int.ofNat 0) with
    | true => exact ⟨by show q.op.h = _; rw [hg.op]; rfl, by show q.cl.h = _; rw [hg.cl]; rfl⟩
    | false =>
      cases eqZ q.c.kind (Int.ofNat 1) with
      | true => exact ⟨by show q.op.h = _; rw [hg.op]; rfl, by show q.cl.h = _; rw [hg.cl]; rfl⟩
      | false =>
        cases eqZ q.c.kind (Int.ofNat 2) with
        | true => exact ⟨by show (q.op.look M _).1.h = _; rw [hg.op]; exact l, by show q.cl.h = _; rw [hg.cl]; rfl⟩
        | false =>
          cases eqZ q.c.kind (Int.ofNat 3) with
          | true => exact ⟨by show q.op.h = _; rw [hg.op]; rfl, by show (q.cl.look M _).1.h = _; rw [hg.cl]; exact l⟩
          | false =>
            cases eqZ q.c.kind (Int.ofNat 4) with
            | true => exact ⟨by show q.op.h = _; rw [hg.op]; rfl, by show q.cl.h = _; rw [hg.cl]; rfl⟩
            | false => exact ⟨by show q.op.h = _; rw [hg.op]; rfl, by show q.cl.h = _; rw [hg.cl]; rfl⟩
  refine l14step_ok hc sl q h8c hg hf (by omega) (by omega) fun n' H16 hn' h16 => ?_
  generalize q.step sl M (Int.ofNat k) = z at *
  obtain ⟨q', M', done⟩ := z
  simp only at *
  repeat (refine gO ?_; intros)
  refine ldRow hs (off1 k) hk ?_
  repeat (refine gO ?_; intros)
  refine ldRow h8 (off1 k) hk ?_
  repeat (refine gO ?_; intros)
  have h17 : Sat (QAt sl p q' :: MemP m M' :: RefP r M' :: SatL ((List.zipWith (QAt sl) ps all).set b Emp) :: Row bn en 0 true nv :: Own pc [u64 sl.cam, u64 sl.first, i64 sl.count, u64 sl.most] :: R) H16 := h16.ent ee
  rw [ceP_n]
  refine ran_live hc h17 hnx (by omega) ⟨by rw [hoph.1]; exact hg.hh, by rw [hoph.2]; exact hg.hh⟩ hdn2 hdn3 (List.getElem?_eq_some_iff.1 hgt).1 hp hk hn e8 e10 e12 e16 e19 e20 rfl rfl fun σ1 H1 hK h1 => kk σ1 H1 (Keep.trans ⟨rfl, rfl, rfl, rfl, rfl, rfl, rfl, rfl, rfl, rfl⟩ hK) h1
end Go.Proofs.YtocphcgcpjcfjaaGreat

set_option linter.unusedVariables false
set_option linter.unusedSimpArgs false
namespace Go.Proofs.YtocphcgcpjcfjaaGreat
open Go Go.CM
attribute [local irreducible] AsBool AsWant AsNat AsInt AsCnt AsPtr AsSlc AsLen AsStr AsAgg AsTup AsFn AsIfc Nth Sc NotNil IsNil Must Cd codeW funW Sat SatL wrapN subM mkRow ltZ leZ ltN leN
variable {con : CallT}
theorem has_ints {v : Value} {l : List Int} {L : List HP} : Has (IntsR v l :: L) (IntsR v l) := Has.here fun a t => IntsR.mono a t
theorem ceP_x {i : Nat} {f : TF → CH → Prop} {g : Nat → TF → CH → Prop} {h : TF → CH → Prop} : ceP (CE.exit i) f g h = g i := rfl
theorem ran_lp : lpAt Tryz.prog 23 0 = blkC (lpAt Tryz.prog 23 0) := by kernel_rfl
theorem ran_sl : sliceC 2 1 (blkC (lpAt Tryz.prog 23 0)) = seqL [(flatC (blkC (lpAt Tryz.prog 23 0))).getD 2 .skip] := by kernel_rfl
theorem ran_bk : (flatC (blkC (lpAt Tryz.prog 23 0))).getD 2 .skip = .block 1 (blkC ((flatC (blkC (lpAt Tryz.prog 23 0))).getD 2 .skip)) := by kernel_rfl
set_option maxRecDepth 100000 in
theorem ran_old (hc : Con con lives) {sl : SlotsS} {M : Mem} {R : List HP} {H : CH} {m r bn en pc k b i n p : Nat} {q : Q14} {nv : List Value} {ps : List Nat} {all : List Q14} {σ : TF} {Q : KX}
    (hs : Sat (SatL (List.zipWith (QAt sl) ps all) :: MemP m M :: RefP r M :: Row bn en 0 true nv :: Own pc [u64 sl.cam, u64 sl.first, i64 sl.count, u64 sl.most] :: R) H)
    (hg : q.Go sl) (hf : Fine M) (ht : M.tr.length < 900000000) (hq : all[b]? = some q) (hp : ps[b]? = some p) (hk : nv[k]? = some (ptr p 0)) (hn : nv.length = n)
    (e8 : σ 8 = ptr m 0) (e10 : σ 10 = ptr r 0) (e12 : σ 12 = ptr pc 0) (e16 : σ 16 = slc bn 0 n n) (e19 : σ 19 = iN i) (e20 : σ 20 = i64 (Int.ofNat k)) (e119 : σ 119 = .bool false)
    (kk : ∀ σ1 H1, Keep σ σ1 → Sat (SatL (List.zipWith (QAt sl) ps (all.set b ((q.step sl M (Int.ofNat k)).1.end_ (q.step sl M (Int.ofNat k)).2.2 i))) :: MemP m (q.step sl M (Int.ofNat k)).2.1 :: RefP r (q.step sl M (Int.ofNat k)).2.1 :: Row bn en 0 true (nv.set k (if (q.step sl M (Int.ofNat k)).2.2 then nilP else ptr p 0)) :: Own pc [u64 sl.cam, u64 sl.first, i64 sl.count, u64 sl.most] :: R) H1 → Q .normal σ1 H1) :
    codeW (dropC 2 (blkC ((flatC (blkC (lpAt Tryz.prog 23 0))).getD 2 .skip))) Tryz.prog con σ H Q := by
  have hkn : k < n := by have := (List.getElem?_eq_some_iff.1 hk).1; omega
  rw [codeW_cut2 2 1, l14ranB2_W, e119]
  refine AsBool.mk (Cd.f rfl ?_)
  rw [ceP_n, codeW_cut2 3 1, l14ranB3_W, e16, e20]
  repeat (refine gO ?_; intros)
  refine Must.mk (ltN_t hkn) (ldRow hs (off1 k) hk ?_)
  repeat (refine gO ?_; intros)
  rw [ceP_n, codeW_cut2 4 1, l14ranB4_W]
  refine AsBool.mk (Cd.f rfl ?_)
  rw [ceP_n]
  exact ran_step hc hs hg hf ht hq hp hk hn e8 e10 e12 e16 e19 e20 fun σ1 H1 hK h1 => kk σ1 H1 (Keep.trans ⟨rfl, rfl, rfl, rfl, rfl, rfl, rfl, rfl, rfl, rfl⟩ hK) h1
set_option maxRecDepth 100000 in
theorem ran_new (hc : Con con lives) {sl : SlotsS} {M : Mem} {R : List HP} {H : CH} {m r bn en ba ea pc p1 k i n a most : Nat} {n0 : Int} {stores : Bool} {xv xw va : Value} {calls : List (List C14)} {cs : List C14} {c : C14} {nv av : List Value} {ps : List Nat} {all : List Q14} {σ : TF} {Q : KX}
    (hs : Sat (SatL (List.zipWith (QAt sl) ps all) :: MemP m M :: RefP r M :: Row bn en 0 true nv :: Own pc [u64 sl.cam, u64 sl.first, i64 sl.count, u64 sl.most] :: Row ba ea 0 true av :: Vec va 96 1 (ps.map fun p => [ptr p 0]) :: Own p1 [i64 n0, u64 most, xv, xw] :: Thr14 xv calls :: R) H)
    (h64 : c.h < 18446744073709551616 ∧ c.st < 18446744073709551616) (hf : Fine M) (ht : M.tr.length < 900000000) (hps : ps.length = all.length) (hpl : ps.length ≤ 1048576) (hk : nv[k]? = some nilP) (hn : nv.length = n) (hn2 : av.length = n) (hcl : calls.length = n) (ha : av[k]? = some (iN a)) (ecs : calls[k]? = some cs) (ec : cs[a]? = some c) (hal : a ≤ 1048576)
    (e1 : σ 1 = .bool stores) (e2 : σ 2 = ptr p1 0) (e8 : σ 8 = ptr m 0) (e10 : σ 10 = ptr r 0) (e12 : σ 12 = ptr pc 0) (e16 : σ 16 = slc bn 0 n n) (e17 : σ 17 = slc ba 0 n n) (e18 : σ 18 = va) (e19 : σ 19 = iN i) (e20 : σ 20 = i64 (Int.ofNat k)) (e119 : σ 119 = .bool false)
    (ks : R14.skips stores c = true → ∀ σ1 H1, Keep σ σ1 → Sat (SatL (List.zipWith (QAt sl) ps all) :: MemP m M :: RefP r M :: Row bn en 0 true nv :: Own pc [u64 sl.cam, u64 sl.first, i64 sl.count, u64 sl.most] :: Row ba ea 0 true (av.set k (iN (a + 1))) :: Vec va 96 1 (ps.map fun p => [ptr p 0]) :: Own p1 [i64 n0, u64 most, xv, xw] :: Thr14 xv calls :: R) H1 → Q (.exit 1) σ1 H1)
    (kn : R14.skips stores c = false → ∀ (τ : TF) (H1 : CH) (p : Nat) (va' : Value), Keep (upd σ 18 va') τ → τ 20 = i64 (Int.ofNat k) →
      Sat (SatL (List.zipWith (QAt sl) (ps ++ [p]) (all ++ [Q14.fresh sl c i])) :: MemP m M :: RefP r M :: Row bn en 0 true (nv.set k (ptr p 0)) :: Own pc [u64 sl.cam, u64 sl.first, i64 sl.count, u64 sl.most] :: Row ba ea 0 true (av.set k (iN (a + 1))) :: Vec va' 96 1 ((ps ++ [p]).map fun p => [ptr p 0]) :: Own p1 [i64 n0, u64 most, xv, xw] :: Thr14 xv calls :: R) H1 → codeW (dropC 5 (blkC ((flatC (blkC (lpAt Tryz.prog 23 0))).getD 2 .skip))) Tryz.prog con τ H1 Q) :
    codeW (dropC 2 (blkC ((flatC (blkC (lpAt Tryz.prog 23 0))).getD 2 .skip))) Tryz.prog con σ H Q := by
  have hkn : k < n := by have := (List.getElem?_eq_some_iff.1 hk).1; omega
  have halt : a < cs.length := (List.getElem?_eq_some_iff.1 ec).1
  rw [codeW_cut2 2 1, l14ranB2_W, e119]
  refine AsBool.mk (Cd.f rfl ?_)
  rw [ceP_n, codeW_cut2 3 1, l14ranB3_W, e16, e20]
  repeat (refine gO ?_; intros)
  refine Must.mk (ltN_t hkn) (ldRow hs (off1 k) hk ?_)
  repeat (refine gO ?_; intros)
  rw [ceP_n]
  have u124 : (upd (upd (upd (upd (upd σ 120 (slc bn 0 n n)) 121 (i64 (Int.ofNat k))) 122 (ptr bn (Nat.add 0 (Nat.mul k 1)))) 123 nilP) 124 (.bool true)) 124 = .bool true := rfl
  have uK : Keep σ (upd (upd (upd (upd (upd σ 120 (slc bn 0 n n)) 121 (i64 (Int.ofNat k))) 122 (ptr bn (Nat.add 0 (Nat.mul k 1)))) 123 nilP) 124 (.bool true)) := ⟨rfl, rfl, rfl, rfl, rfl, rfl, rfl, rfl, rfl, rfl⟩
  have u20 : (upd (upd (upd (upd (upd σ 120 (slc bn 0 n n)) 121 (i64 (Int.ofNat k))) 122 (ptr bn (Nat.add 0 (Nat.mul k 1)))) 123 nilP) 124 (.bool true)) 20 = i64 (Int.ofNat k) := e20
  generalize upd (upd (upd (upd (upd σ 120 (slc bn 0 n n)) 121 (i64 (Int.ofNat k))) 122 (ptr bn (Nat.add 0 (Nat.mul k 1)))) 123 nilP) 124 (.bool true) = τ at *
  have uK' := uK
  obtain ⟨b1, b2, b6, b8, b10, b12, b16, b17, b18, b19⟩ := uK
  rw [e1] at b1; rw [e2] at b2; rw [e8] at b8; rw [e10] at b10; rw [e12] at b12; rw [e16] at b16; rw [e17] at b17; rw [e18] at b18; rw [e19] at b19
  rw [codeW_cut2 4 1, l14ranB4_W, u124, b1, b2, b12, b16, b17, b18, b19, u20]
  refine AsBool.mk (Cd.t rfl ?_)
  refine na fun p2 H3 h3 => ?_
  obtain ⟨bx, cx, csx, exv', _, ⟨xvi, ecx, hcl'⟩, hldx⟩ := rows_at h3 (Has.skip (Has.skip (Has.skip (Has.skip (Has.skip (Has.skip (Has.skip (Has.skip (Has.skip has_thr14))))))))) ecs
  have hkc : k < calls.length := by omega
  repeat (refine gO ?_; intros)
  refine AsSlc.eq exv' ?_
  repeat (refine gO ?_; intros)
  refine Must.mk (ltN_t hkc) (hldx _ 0 _ _ (by show 0 + k * 1 = _; omega) (by rw [ecx]; rfl) ?_)
  repeat (refine gO ?_; intros)
  refine Must.mk (ltN_t hkn) (ldRow h3 (off1 k) ha ?_)
  obtain ⟨bi, ci', cc, exi', _, ecc, hldc⟩ := rows_at' hcl' ec
  refine AsSlc.eq exi' ?_
  repeat (refine gO ?_; intros)
  refine Must.mk (ltN_t halt) ?_
  refine hldc _ 0 _ _ (by show 0 + a * 3 + 0 = _; omega) (by rw [ecc]; rfl) ?_
  refine hldc _ 1 _ _ (by show 0 + a * 3 + 1 = _; omega) (by rw [ecc]; rfl) ?_
  refine hldc _ 2 _ _ (by show 0 + a * 3 + 2 = _; omega) (by rw [ecc]; rfl) ?_
  refine stN h3 (Nat.le_of_ble_eq_true rfl) rfl fun H27 h27 => ?_
  repeat (refine gO ?_; intros)
  refine Must.mk (ltN_t hkn) (ldRow h27 (off1 k) ha ?_)
  repeat (refine gO ?_; intros)
  try rw [addInt]
  refine inR_nat (by omega) ?_
  repeat (refine gO ?_; intros)
  refine Must.mk (ltN_t hkn) (st h27 (by rw [off1]; omega) rfl fun H40 h40 => ?_)
  rw [off1] at h40
  repeat (refine gO ?_; intros)
  cases e4 : eqZ c.kind (Int.ofNat 4) with
  | true =>
    refine Cd.t rfl ?_
    repeat (refine gO ?_; intros)
    cases stores with
    | false =>
      refine Cd.t rfl ?_
      rw [ceP_x]
      exact ks (by unfold R14.skips; rw [e4]; rfl) _ _ (Keep.trans uK' ⟨rfl, rfl, rfl, rfl, rfl, rfl, rfl, rfl, rfl, rfl⟩) (h40.ent ee)
    | true =>
      refine Cd.f rfl ?_
      have hsk : R14.skips true c = false := by unfold R14.skips; rw [e4]; rfl
      repeat (refine gO ?_; intros)
      refine l14begin_ok hc sl c (i := i) h40 fun p H54 h54 => ?_
      repeat (refine gO ?_; intros)
      refine Must.mk (ltN_t hkn) (Sc.mk rfl (st h54 (by rw [off1]; omega) rfl fun H60 h60 => ?_))
      rw [off1] at h60
      have hk' : (nv.set k (ptr p 0))[k]? = some (ptr p 0) := List.getElem?_set_self (by omega)
      repeat (refine gO ?_; intros)
      refine Must.mk (ltN_t hkn) (ldRow h60 (off1 k) hk' ?_)
      obtain ⟨u1, u2, s1, s2, d, ⟨p3, p4, p5, p6, p7, gg, sn, oA, oS, oE, cA, cE, ⟨hg1, hj, hoo, hcc⟩, hin⟩, hR⟩ := h60.opens Pull.here
      have h61 := Sat.merge s1 s2 d hin hR
      simp only [List.cons_append, List.nil_append] at h61
      repeat (refine gO ?_; intros)
      rename_i H69 h69
      replace h69 : Sat ([Own p (qC sl (Q14.fresh sl c i) p3 p4 p5 p6 p7 oA oS oE cA cE (Int.negSucc 0)), Own p3 (snapC (Q14.fresh sl c i).s.sn.at_ (Q14.fresh sl c i).s.sn gg), Own p4 (letC (Q14.lt sl (Q14.fresh sl c i)) sn), Own p5 (askC (Q14.fresh sl c i).op []), Own p6 (askC (Q14.fresh sl c i).cl [u64 (Q14.fresh sl c i).c.st]), RAt13 p7 (Q14.fresh sl c i).s] ++ (Row ba ea 0 true (av.set k (iN (a + 1))) :: Own p2 [i64 c.kind, u64 c.h, u64 c.st] :: SatL (List.zipWith (QAt sl) ps all) :: MemP m M :: RefP r M :: Row bn en 0 true (nv.set k (ptr p 0)) :: Own pc [u64 sl.cam, u64 sl.first, i64 sl.count, u64 sl.most] :: Vec va 96 1 (ps.map fun p => [ptr p 0]) :: Own p1 [i64 n0, u64 most, xv, xw] :: Thr14 xv calls :: R)) H69 := Sat.ent h69 ee
      have h70 : Sat (QAt sl p (Q14.fresh sl c i) :: _) H69 := h69.close fun g0 a => ⟨p3, p4, p5, p6, p7, gg, sn, oA, oS, oE, cA, cE, ⟨hg1, hj, hoo, hcc⟩, a⟩
      refine Must.mk (ltN_t hkn) (ldRow h70 (off1 k) hk' ?_)
      repeat (refine gO ?_; intros)
      rename_i p76 H77 h77
      refine app_vec (new := [[ptr p 0]]) h77 pp el_q (by omega) sl_q (Src.cell (n := 1) (by rfl)) rfl (by simp) (by simp; omega) rfl fun va' H79 h79 => ?_
      rw [ceP_n]
      rw [show (ps.map fun p => [ptr p 0]) ++ [[ptr p 0]] = (ps ++ [p]).map fun p => [ptr p 0] from by simp] at h79
      have h80 : Sat (QAt sl p (Q14.fresh sl c i) :: SatL (List.zipWith (QAt sl) ps all) :: _) H79 := Sat.takes h79 (.cons pp (.cons pp .nil))
      have h81 := h80.snoc
      rw [show List.zipWith (QAt sl) ps all ++ [QAt sl p (Q14.fresh sl c i)] = List.zipWith (QAt sl) (ps ++ [p]) (all ++ [Q14.fresh sl c i]) from by rw [List.zipWith_append hps]; rfl] at h81
      exact kn hsk _ H79 p va' ⟨uK'.1, uK'.2.1, uK'.2.2.1, uK'.2.2.2.1, uK'.2.2.2.2.1, uK'.2.2.2.2.2.1, uK'.2.2.2.2.2.2.1, uK'.2.2.2.2.2.2.2.1, rfl, uK'.2.2.2.2.2.2.2.2.2⟩ u20 (h81.ent ee)
  | false =>
    refine Cd.f rfl ?_
    have hsk : R14.skips stores c = false := by unfold R14.skips; rw [e4]; rfl
    repeat (refine gO ?_; intros)
    refine l14begin_ok hc sl c (i := i) h40 fun p H54 h54 => ?_
    repeat (refine gO ?_; intros)
    refine Must.mk (ltN_t hkn) (Sc.mk rfl (st h54 (by rw [off1]; omega) rfl fun H60 h60 => ?_))
    rw [off1] at h60
    have hk' : (nv.set k (ptr p 0))[k]? = some (ptr p 0) := List.getElem?_set_self (by omega)
    repeat (refine gO ?_; intros)
    refine Must.mk (ltN_t hkn) (ldRow h60 (off1 k) hk' ?_)
    obtain ⟨u1, u2, s1, s2, d, ⟨p3, p4, p5, p6, p7, gg, sn, oA, oS, oE, cA, cE, ⟨hg1, hj, hoo, hcc⟩, hin⟩, hR⟩ := h60.opens Pull.here
    have h61 := Sat.merge s1 s2 d hin hR
    simp only [List.cons_append, List.nil_append] at h61
    repeat (refine gO ?_; intros)
    rename_i H69 h69
    replace h69 : Sat ([Own p (qC sl (Q14.fresh sl c i) p3 p4 p5 p6 p7 oA oS oE cA cE (Int.negSucc 0)), Own p3 (snapC (Q14.fresh sl c i).s.sn.at_ (Q14.fresh sl c i).s.sn gg), Own p4 (letC (Q14.lt sl (Q14.fresh sl c i)) sn), Own p5 (askC (Q14.fresh sl c i).op []), Own p6 (askC (Q14.fresh sl c i).cl [u64 (Q14.fresh sl c i).c.st]), RAt13 p7 (Q14.fresh sl c i).s] ++ (Row ba ea 0 true (av.set k (iN (a + 1))) :: Own p2 [i64 c.kind, u64 c.h, u64 c.st] :: SatL (List.zipWith (QAt sl) ps all) :: MemP m M :: RefP r M :: Row bn en 0 true (nv.set k (ptr p 0)) :: Own pc [u64 sl.cam, u64 sl.first, i64 sl.count, u64 sl.most] :: Vec va 96 1 (ps.map fun p => [ptr p 0]) :: Own p1 [i64 n0, u64 most, xv, xw] :: Thr14 xv calls :: R)) H69 := Sat.ent h69 ee
    have h70 : Sat (QAt sl p (Q14.fresh sl c i) :: _) H69 := h69.close fun g0 a => ⟨p3, p4, p5, p6, p7, gg, sn, oA, oS, oE, cA, cE, ⟨hg1, hj, hoo, hcc⟩, a⟩
    refine Must.mk (ltN_t hkn) (ldRow h70 (off1 k) hk' ?_)
    repeat (refine gO ?_; intros)
    rename_i p76 H77 h77
    refine app_vec (new := [[ptr p 0]]) h77 pp el_q (by omega) sl_q (Src.cell (n := 1) (by rfl)) rfl (by simp) (by simp; omega) rfl fun va' H79 h79 => ?_
    rw [ceP_n]
    rw [show (ps.map fun p => [ptr p 0]) ++ [[ptr p 0]] = (ps ++ [p]).map fun p => [ptr p 0] from by simp] at h79
    have h80 : Sat (QAt sl p (Q14.fresh sl c i) :: SatL (List.zipWith (QAt sl) ps all) :: _) H79 := Sat.takes h79 (.cons pp (.cons pp .nil))
    have h81 := h80.snoc
    rw [show List.zipWith (QAt sl) ps all ++ [QAt sl p (Q14.fresh sl c i)] = List.zipWith (QAt sl) (ps ++ [p]) (all ++ [Q14.fresh sl c i]) from by rw [List.zipWith_append hps]; rfl] at h81
    exact kn hsk _ H79 p va' ⟨uK'.1, uK'.2.1, uK'.2.2.1, uK'.2.2.2.1, uK'.2.2.2.2.1, uK'.2.2.2.2.2.1, uK'.2.2.2.2.2.2.1, uK'.2.2.2.2.2.2.2.1, rfl, uK'.2.2.2.2.2.2.2.2.2⟩ u20 (h81.ent ee)
set_option maxRecDepth 100000 in
theorem ran_pick (hc : Con con lives) {sl : SlotsS} {calls : List (List C14)} (hc64 : Calls64b calls) {stores : Bool} {g : R14} (W : WF14 sl calls g) {R : List HP} {H : CH} {m r bn en ba ea pc p1 p3 j n most : Nat} {n0 : Int} {va xv xw : Value} {nv : List Value} {ps : List Nat} {t : Int} {picks : List Int} {σ : TF} {Q : KX}
    (hn : n = calls.length) (hl1 : calls.length ≤ 1048576) (hl2 : ∀ cs ∈ calls, cs.length ≤ 1048576) (hnw : Now2 ps g.now nv) (hps : ps.length = g.all.length) (hj : j < picks.length) (hpc : picks.length ≤ 1048576) (et : picks[j]? = some t) (htr : g.M.tr.length ≤ 10 + j) (hal : g.all.length ≤ j)
    (hs : Sat (MemP m g.M :: RefP r g.M :: Row bn en 0 true nv :: Row ba ea 0 true (g.at_.map iN) :: Vec va 96 1 (ps.map fun p => [ptr p 0]) :: SatL (List.zipWith (QAt sl) ps g.all) :: Own pc [u64 sl.cam, u64 sl.first, i64 sl.count, u64 sl.most] :: Own p1 [i64 n0, u64 most, xv, xw] :: Thr14 xv calls :: IntsR xw picks :: R) H)
    (a1 : σ 1 = .bool stores) (a2 : σ 2 = ptr p1 0) (a6 : σ 6 = ptr p3 0) (a8 : σ 8 = ptr m 0) (a10 : σ 10 = ptr r 0) (a12 : σ 12 = ptr pc 0) (a16 : σ 16 = slc bn 0 n n) (a17 : σ 17 = slc ba 0 n n) (a18 : σ 18 = va) (a19 : σ 19 = iN j)
    (kk : ∀ σ1 H1 ps' va' nv', σ1 1 = .bool stores → σ1 2 = ptr p1 0 → σ1 6 = ptr p3 0 → σ1 8 = ptr m 0 → σ1 10 = ptr r 0 → σ1 12 = ptr pc 0 → σ1 16 = slc bn 0 n n → σ1 17 = slc ba 0 n n → σ1 18 = va' → σ1 19 = iN (j + 1) → Now2 ps' (g.pick sl calls stores j t).now nv' → ps'.length = (g.pick sl calls stores j t).all.length →
      ∀
      (h1 : Sat (MemP m (g.pick sl calls stores j t).M :: RefP r (g.pick sl calls stores j t).M :: Row bn en 0 true nv' :: Row ba ea 0 true ((g.pick sl calls stores j t).at_.map iN) :: Vec va' 96 1 (ps'.map fun p => [ptr p 0]) :: SatL (List.zipWith (QAt sl) ps' (g.pick sl calls stores j t).all) :: Own pc [u64 sl.cam, u64 sl.first, i64 sl.count, u64 sl.most] :: Own p1 [i64 n0, u64 most, xv, xw] :: Thr14 xv calls :: IntsR xw picks :: R) H1)
      , Q .normal σ1 H1) :
    codeW (lpAt Tryz.prog 23 0) Tryz.prog con σ H Q := by
  obtain ⟨bw, cw, csw, ewx, _, ecw, hldw⟩ := rows_at hs (Has.skip (Has.skip (Has.skip (Has.skip (Has.skip (Has.skip (Has.skip (Has.skip (Has.skip has_ints))))))))) et
  obtain ⟨pxv, cxv, exv⟩ := (hs.has (Has.skip (Has.skip (Has.skip (Has.skip (Has.skip (Has.skip (Has.skip (Has.skip has_thr14))))))))).len
  rw [ran_lp, codeW_cut 2, l14ranA_W, a2, a19]
  repeat (refine gO ?_; intros)
  refine AsLen.eq ewx ?_
  repeat (refine gO ?_; intros)
  refine Cd.t (ltZ_t hj) ?_
  rw [ceP_n, codeW_cut2 2 1, ran_sl, codeW_one, codeW_blk (id := 1) ran_bk]
  have post : ∀ (σ1 : TF) (H1 : CH), σ1 19 = iN j → Q .normal (upd (upd (upd σ1 84 (iN j)) 85 (iN (j + 1))) 19 (iN (j + 1))) H1 → codeW (dropC (2 + 1) (blkC (lpAt Tryz.prog 23 0))) Tryz.prog con σ1 H1 Q := fun σ1 H1 e h => by
    rw [l14ranZ_W, e]
    repeat (refine gO ?_; intros)
    try rw [addInt]
    refine inR_nat (by omega) ?_
    repeat (refine gO ?_; intros)
    exact h
  have K19 : ∀ {σ1 : TF}, Keep σ σ1 → σ1 19 = iN j := fun h => h.2.2.2.2.2.2.2.2.2.trans a19
  have idle : ∀ (σ1 : TF), g.pick sl calls stores j t = g → Keep σ σ1 → codeW (dropC (2 + 1) (blkC (lpAt Tryz.prog 23 0))) Tryz.prog con σ1 H Q := fun σ1 hp hK => by
    refine post σ1 H (K19 hK) ?_
    obtain ⟨b1, b2, b6, b8, b10, b12, b16, b17, b18, b19⟩ := hK
    rw [hp] at kk
    exact kk _ H ps va nv (b1.trans a1) (b2.trans a2) (b6.trans a6) (b8.trans a8) (b10.trans a10) (b12.trans a12) (b16.trans a16) (b17.trans a17) (b18.trans a18) rfl hnw hps hs
  rw [codeW_cut 1, l14ranB0_W]
  have u2 : (upd (upd (upd (upd (upd σ 79 (iN j)) 80 (ptr p1 (Nat.add 0 3))) 81 xw) 82 (iN picks.length)) 83 (.bool (ltZ (Int.ofNat j) (Int.ofNat picks.length)))) 2 = ptr p1 0 := a2
  have u19 : (upd (upd (upd (upd (upd σ 79 (iN j)) 80 (ptr p1 (Nat.add 0 3))) 81 xw) 82 (iN picks.length)) 83 (.bool (ltZ (Int.ofNat j) (Int.ofNat picks.length)))) 19 = iN j := a19
  have uK : Keep σ (upd (upd (upd (upd (upd σ 79 (iN j)) 80 (ptr p1 (Nat.add 0 3))) 81 xw) 82 (iN picks.length)) 83 (.bool (ltZ (Int.ofNat j) (Int.ofNat picks.length)))) := ⟨rfl, rfl, rfl, rfl, rfl, rfl, rfl, rfl, rfl, rfl⟩
  generalize upd (upd (upd (upd (upd σ 79 (iN j)) 80 (ptr p1 (Nat.add 0 3))) 81 xw) 82 (iN picks.length)) 83 (.bool (ltZ (Int.ofNat j) (Int.ofNat picks.length))) = τ at *
  rw [u2, u19]
  repeat (refine gO ?_; intros)
  refine AsSlc.eq ewx ?_
  repeat (refine gO ?_; intros)
  refine Must.mk (ltN_t hj) ?_
  refine hldw _ 0 _ _ (by show 0 + j * 1 = _; omega) (by rw [ecw]; rfl) ?_
  rw [ceP_n]
  have vK : Keep σ (upd (upd (upd (upd (upd (upd τ 86 (ptr p1 (Nat.add 0 3))) 87 xw) 88 (iN j)) 89 (ptr bw (Nat.add 0 (Nat.mul j 1)))) 90 (i64 t)) 20 (i64 t)) := Keep.trans uK ⟨rfl, rfl, rfl, rfl, rfl, rfl, rfl, rfl, rfl, rfl⟩
  have v20 : (upd (upd (upd (upd (upd (upd τ 86 (ptr p1 (Nat.add 0 3))) 87 xw) 88 (iN j)) 89 (ptr bw (Nat.add 0 (Nat.mul j 1)))) 90 (i64 t)) 20 (i64 t)) 20 = i64 t := rfl
  generalize (upd (upd (upd (upd (upd (upd τ 86 (ptr p1 (Nat.add 0 3))) 87 xw) 88 (iN j)) 89 (ptr bw (Nat.add 0 (Nat.mul j 1)))) 90 (i64 t)) 20 (i64 t)) = ρ at *
  clear u2 u19 uK
  have vK' := vK
  obtain ⟨b1, b2, b6, b8, b10, b12, b16, b17, b18, b19⟩ := vK
  rw [a1] at b1; rw [a2] at b2; rw [a6] at b6; rw [a8] at b8; rw [a10] at b10; rw [a12] at b12; rw [a16] at b16; rw [a17] at b17; rw [a18] at b18; rw [a19] at b19
  rw [codeW_cut2 1 1, l14ranB1_W, b2, b16, b17, v20]
  repeat (refine gO ?_; intros)
  cases t with
  | negSucc z =>
    refine Cd.t ltZ_neg ?_
    rw [ceP_n, codeW_cut2 2 1, l14ranB2_W]
    refine AsBool.mk (Cd.t rfl ?_)
    rw [ceP_x, ceP_x]
    refine Cd.t (eqN_self 1) ?_
    rw [ceP_n]
    exact idle _ rfl (Keep.trans vK' ⟨rfl, rfl, rfl, rfl, rfl, rfl, rfl, rfl, rfl, rfl⟩)
  | ofNat k =>
    refine Cd.f (ltZ_f (Nat.zero_le _)) ?_
    repeat (refine gO ?_; intros)
    refine AsLen.eq exv ?_
    repeat (refine gO ?_; intros)
    by_cases hk : k < calls.length
    · refine Cd.f (leZ_f hk) ?_
      obtain ⟨cs, ecs⟩ : ∃ x, calls[k]? = some x := ⟨_, List.getElem?_eq_getElem hk⟩
      obtain ⟨nw, enw⟩ : ∃ x, g.now[k]? = some x := ⟨_, List.getElem?_eq_getElem (by have := W.len; omega)⟩
      obtain ⟨a, eat⟩ : ∃ x, g.at_[k]? = some x := ⟨_, List.getElem?_eq_getElem (by have := W.len2; omega)⟩
      obtain ⟨v, ev⟩ : ∃ x, nv[k]? = some x := ⟨_, List.getElem?_eq_getElem (by have := W.len; have := hnw.1; omega)⟩
      have hR := hnw.2 k nw v enw ev
      have hkn : k < n := by omega
      have hnn : nv.length = n := by have := hnw.1; have := W.len; omega
      have hat : (g.at_.map iN)[k]? = some (iN a) := by rw [List.getElem?_map, eat]; rfl
      repeat (refine gO ?_; intros)
      refine Must.mk (ltN_t hkn) (ldRow hs (off1 k) ev ?_)
      cases nw with
      | some b =>
        obtain ⟨p, ep, rfl⟩ := hR
        obtain ⟨q, eq, hq, _⟩ := W.cur k b enw
        repeat (refine gO ?_; intros)
        rw [ceP_n]
        have h2 : Sat (SatL (List.zipWith (QAt sl) ps g.all) :: MemP m g.M :: RefP r g.M :: Row bn en 0 true nv :: Own pc [u64 sl.cam, u64 sl.first, i64 sl.count, u64 sl.most] :: Row ba ea 0 true (g.at_.map iN) :: Vec va 96 1 (ps.map fun p => [ptr p 0]) :: Own p1 [i64 n0, u64 most, xv, xw] :: Thr14 xv calls :: IntsR xw picks :: R) H := hs.ent ee
        have hp : g.pick sl calls stores j (Int.ofNat k) = g.go sl j k b q g.at_ g.all := by simp only [R14.pick, ecs, enw, eat, eq]
        rw [hp] at kk
        simp only [R14.go] at kk
        refine ran_old hc h2 hq W.fine (by omega) eq ep ev hnn b8 b10 b12 b16 b19 v20 rfl fun σ1 H1 hK h1 => ?_
        have hK2 : Keep ρ σ1 := Keep.trans ⟨rfl, rfl, rfl, rfl, rfl, rfl, rfl, rfl, rfl, rfl⟩ hK
        show ceP CE.normal _ _ _ σ1 H1
        rw [ceP_n, ceP_n]
        refine post σ1 H1 (K19 (vK'.trans hK2)) ?_
        obtain ⟨c1, c2, c6, c8, c10, c12, c16, c17, c18, c19⟩ := hK2
        refine kk _ H1 ps va (nv.set k (if (q.step sl g.M (Int.ofNat k)).2.2 then nilP else ptr p 0)) (c1.trans b1) (c2.trans b2) (c6.trans b6) (c8.trans b8) (c10.trans b10) (c12.trans b12) (c16.trans b16) (c17.trans b17) (c18.trans b18) rfl (hnw.set k ?_) (by rw [List.length_set]; exact hps) (h1.ent ee)
        cases (q.step sl g.M (Int.ofNat k)).2.2 with
        | true => exact rfl
        | false => exact ⟨p, ep, rfl⟩
      | none =>
        obtain rfl : v = nilP := hR
        repeat (refine gO ?_; intros)
        refine Must.mk (ltN_t hkn) (ldRow hs (off1 k) hat ?_)
        obtain ⟨bx, cx, csx, exv', _, ⟨xvi, ecx, hcl'⟩, hldx⟩ := rows_at hs (Has.skip (Has.skip (Has.skip (Has.skip (Has.skip (Has.skip (Has.skip (Has.skip has_thr14)))))))) ecs
        obtain ⟨pi, ci, exi⟩ := RowsR.len hcl'
        repeat (refine gO ?_; intros)
        refine AsSlc.eq exv' ?_
        repeat (refine gO ?_; intros)
        refine Must.mk (ltN_t hk) (hldx _ 0 _ _ (by show 0 + k * 1 = _; omega) (by rw [ecx]; rfl) ?_)
        refine AsLen.eq exi ?_
        repeat (refine gO ?_; intros)
        rw [ceP_n]
        have hcsl := hl2 cs (List.mem_of_getElem? ecs)
        by_cases hlt : a < cs.length
        · obtain ⟨c, ec⟩ : ∃ c, cs[a]? = some c := ⟨_, List.getElem?_eq_getElem hlt⟩
          have h64 := hc64 cs (List.mem_of_getElem? ecs) c (List.mem_of_getElem? ec)
          have h2 : Sat (SatL (List.zipWith (QAt sl) ps g.all) :: MemP m g.M :: RefP r g.M :: Row bn en 0 true nv :: Own pc [u64 sl.cam, u64 sl.first, i64 sl.count, u64 sl.most] :: Row ba ea 0 true (g.at_.map iN) :: Vec va 96 1 (ps.map fun p => [ptr p 0]) :: Own p1 [i64 n0, u64 most, xv, xw] :: Thr14 xv calls :: IntsR xw picks :: R) H := hs.ent ee
          have ems : (g.at_.map iN).set k (iN (a + 1)) = (g.at_.set k (a + 1)).map iN := by rw [List.map_set]
          refine ran_new hc h2 h64 W.fine (by omega) hps (by omega) ev hnn (by rw [List.length_map]; have := W.len2; omega) (by omega) hat ecs ec (by omega) b1 b2 b8 b10 b12 b16 b17 b18 b19 v20 (by show Value.bool (leZ _ _) = _; rw [leZ_f hlt]) (fun hsk σ1 H1 hK h1 => ?_) (fun hsk τ' H1 p va' hK e20 h1 => ?_)
          · have hK2 : Keep ρ σ1 := Keep.trans ⟨rfl, rfl, rfl, rfl, rfl, rfl, rfl, rfl, rfl, rfl⟩ hK
            show ceP (CE.exit 1) _ _ _ σ1 H1
            rw [ceP_x]
            refine Cd.t (eqN_self 1) ?_
            rw [ceP_n]
            refine post σ1 H1 (K19 (vK'.trans hK2)) ?_
            have hp : g.pick sl calls stores j (Int.ofNat k) = { g with at_ := g.at_.set k (a + 1) } := by simp only [R14.pick, ecs, enw, eat, ec, hsk, if_true]
            rw [hp] at kk
            obtain ⟨c1, c2, c6, c8, c10, c12, c16, c17, c18, c19⟩ := hK2
            rw [ems] at h1
            exact kk _ H1 ps va nv (c1.trans b1) (c2.trans b2) (c6.trans b6) (c8.trans b8) (c10.trans b10) (c12.trans b12) (c16.trans b16) (c17.trans b17) (c18.trans b18) rfl hnw hps (h1.ent ee)
          · have hp : g.pick sl calls stores j (Int.ofNat k) = g.go sl j k g.all.length (Q14.fresh sl c j) (g.at_.set k (a + 1)) (g.all ++ [Q14.fresh sl c j]) := by simp only [R14.pick, ecs, enw, eat, ec, hsk, Bool.false_eq_true, if_false]
            rw [hp] at kk
            simp only [R14.go] at kk
            obtain ⟨c1, c2, c6, c8, c10, c12, c16, c17, c18, c19⟩ := hK
            have hgo := go_fresh sl h64.1 h64.2 j
            have ep : (ps ++ [p])[g.all.length]? = some p := by rw [← hps, List.getElem?_append_right (Nat.le_refl _)]; simp
            have hk' : (nv.set k (ptr p 0))[k]? = some (ptr p 0) := List.getElem?_set_self (by omega)
            have h3 : Sat (SatL (List.zipWith (QAt sl) (ps ++ [p]) (g.all ++ [Q14.fresh sl c j])) :: MemP m g.M :: RefP r g.M :: Row bn en 0 true (nv.set k (ptr p 0)) :: Own pc [u64 sl.cam, u64 sl.first, i64 sl.count, u64 sl.most] :: Row ba ea 0 true ((g.at_.map iN).set k (iN (a + 1))) :: Vec va' 96 1 ((ps ++ [p]).map fun p => [ptr p 0]) :: Own p1 [i64 n0, u64 most, xv, xw] :: Thr14 xv calls :: IntsR xw picks :: R) H1 := h1
            refine ran_step hc h3 hgo W.fine (by omega) (b := g.all.length) (by rw [List.getElem?_append_right (Nat.le_refl _)]; simp) ep hk' (by rw [List.length_set]; exact hnn) (c8.trans b8) (c10.trans b10) (c12.trans b12) (c16.trans b16) (c19.trans b19) e20 fun σ1 H2 hK h4 => ?_
            show ceP CE.normal _ _ _ σ1 H2
            rw [ceP_n, ceP_n]
            obtain ⟨d1, d2, d6, d8, d10, d12, d16, d17, d18, d19⟩ := hK
            refine post σ1 H2 (d19.trans (c19.trans b19)) ?_
            rw [ems, List.set_set] at h4
            refine kk _ H2 (ps ++ [p]) va' (nv.set k (if ((Q14.fresh sl c j).step sl g.M (Int.ofNat k)).2.2 then nilP else ptr p 0)) (d1.trans (c1.trans b1)) (d2.trans (c2.trans b2)) (d6.trans (c6.trans b6)) (d8.trans (c8.trans b8)) (d10.trans (c10.trans b10)) (d12.trans (c12.trans b12)) (d16.trans (c16.trans b16)) (d17.trans (c17.trans b17)) (d18.trans c18) rfl ((hnw.mono p).set k ?_) (by simp [hps]) (h4.ent ee)
            cases ((Q14.fresh sl c j).step sl g.M (Int.ofNat k)).2.2 with
            | true => exact rfl
            | false => exact ⟨p, ep, rfl⟩
        · rw [codeW_cut2 2 1, l14ranB2_W]
          refine AsBool.mk (Cd.t (leZ_t (by omega)) ?_)
          rw [ceP_x, ceP_x]
          refine Cd.t (eqN_self 1) ?_
          rw [ceP_n]
          refine idle _ ?_ (Keep.trans vK' ⟨rfl, rfl, rfl, rfl, rfl, rfl, rfl, rfl, rfl, rfl⟩)
          have e : cs[a]? = none := List.getElem?_eq_none (by omega)
          simp only [R14.pick, ecs, enw, eat, e]
    · refine Cd.t (leZ_t (by omega)) ?_
      rw [ceP_n, codeW_cut2 2 1, l14ranB2_W]
      refine AsBool.mk (Cd.t rfl ?_)
      rw [ceP_x, ceP_x]
      refine Cd.t (eqN_self 1) ?_
      rw [ceP_n]
      refine idle _ ?_ (Keep.trans vK' ⟨rfl, rfl, rfl, rfl, rfl, rfl, rfl, rfl, rfl, rfl⟩)
      have e : calls[k]? = none := List.getElem?_eq_none (by omega)
      simp only [R14.pick, e]
end Go.Proofs.YtocphcgcpjcfjaaGreat

set_option linter.unusedVariables false
set_option linter.unusedSimpArgs false
namespace Go.Proofs.YtocphcgcpjcfjaaGreat
open Go Go.CM
attribute [local irreducible] AsBool AsWant AsNat AsInt AsCnt AsPtr AsSlc AsLen AsStr AsAgg AsTup AsFn AsIfc Nth Sc NotNil IsNil Must Cd codeW funW Sat SatL wrapN subM mkRow ltZ leZ ltN leN
variable {con : CallT}
set_option maxRecDepth 100000 in
theorem sameAcs_ok (hc : Con con lives) {L R1 R2 : List HP} {H : CH} {x y : Value} {e e' : Nat} {l : List Acs} {K : KP} (hs : Sat L H) (hp : Pull L (TrAt x e l) R1) (hq : Pull R1 (TrAt y e' l) R2) (hl : l.length ≤ 1000000000) (hvl : ∀ a ∈ l, a.vals.length ≤ 1000000000) (k : ∀ H1, Sat (TrAt y e' l :: R2) H1 → K (.bool true) H1) :
    Call1 Tryz.prog con 75 [x, y] H K := by
  refine call_of (hc _ _ _ rfl) ?_
  rw [sameAcs_W]
  have hs0 := hs.takes (.cons hp (.cons hq .nil))
  simp only [List.cons_append, List.nil_append] at hs0
  obtain ⟨h1, h2, s1, s2, d, ⟨vs, hvs, hva⟩, hR⟩ := hs0.opens Pull.here
  have hsa := Sat.merge s1 s2 d hva hR
  have hsb : Sat (TrAt y e' l :: (Vec x e 8 (List.zipWith encA l vs) :: valsL l vs ++ R2)) H := by
    refine hsa.pull ?_
    have pu : ∀ (L1 : List HP), Pull (L1 ++ (TrAt y e' l :: R2)) (TrAt y e' l) (L1 ++ R2) := fun L1 => by
      induction L1 with
      | nil => exact Pull.here
      | cons A L1 ih => exact Pull.there ih
    exact pu _
  obtain ⟨g1, g2, t1, t2, d2, ⟨ws, hws, hb⟩, hR2⟩ := hsb.opens Pull.here
  have hs1 := Sat.merge t1 t2 d2 hb hR2
  have hV : Has (Vec y e' 8 (List.zipWith encA l ws) :: valsL l ws ++ (Vec x e 8 (List.zipWith encA l vs) :: valsL l vs ++ R2)) (Vec x e 8 (List.zipWith encA l vs)) := Has.app Has.vec
  have hW : Has (Vec y e' 8 (List.zipWith encA l ws) :: valsL l ws ++ (Vec x e 8 (List.zipWith encA l vs) :: valsL l vs ++ R2)) (Vec y e' 8 (List.zipWith encA l ws)) := Has.vec
  have hNv : ∀ (i : Nat) (c : Acs) (v : Value), l[i]? = some c → vs[i]? = some v → Has (Vec y e' 8 (List.zipWith encA l ws) :: valsL l ws ++ (Vec x e 8 (List.zipWith encA l vs) :: valsL l vs ++ R2)) (Nums v c.vals) := fun i c v h1 h2 => Has.app (Has.skip (Has.vals h1 h2))
  have hNw : ∀ (i : Nat) (c : Acs) (v : Value), l[i]? = some c → ws[i]? = some v → Has (Vec y e' 8 (List.zipWith encA l ws) :: valsL l ws ++ (Vec x e 8 (List.zipWith encA l vs) :: valsL l vs ++ R2)) (Nums v c.vals) := fun i c v h1 h2 => Has.skip (Has.vals h1 h2)
  have hend : ∀ {H1}, Sat (Vec y e' 8 (List.zipWith encA l ws) :: valsL l ws ++ (Vec x e 8 (List.zipWith encA l vs) :: valsL l vs ++ R2)) H1 → Sat (TrAt y e' l :: R2) H1 := fun h => by
    have dr : ∀ (L1 : List HP) {R : List HP} {h : PH}, SatL (L1 ++ R) h → SatL R h := fun L1 => by
      induction L1 with
      | nil => exact fun h => h
      | cons A L1 ih => exact fun h => ih (SatL.drop h)
    have h2 : Sat (TrAt y e' l :: (Vec x e 8 (List.zipWith encA l vs) :: valsL l vs ++ R2)) _ := Sat.close (L1 := Vec y e' 8 (List.zipWith encA l ws) :: valsL l ws) h fun g a => ⟨ws, hws, a⟩
    exact Sat.mk (SatL.under (fun g a => dr _ a) (Sat.out h2))
  generalize (Vec y e' 8 (List.zipWith encA l ws) :: valsL l ws ++ (Vec x e 8 (List.zipWith encA l vs) :: valsL l vs ++ R2)) = L' at hs1 hV hW hNv hNw hend
  have lv : (List.zipWith encA l vs).length = l.length := by rw [List.length_zipWith, hvs, Nat.min_self]
  have lw : (List.zipWith encA l ws).length = l.length := by rw [List.length_zipWith, hws, Nat.min_self]
  obtain ⟨px, ex⟩ := (hs1.has hV).shape
  obtain ⟨py, ey⟩ := (hs1.has hW).shape
  rw [lv] at ex
  rw [lw] at ey
  subst ex; subst ey
  repeat (refine gO ?_; intros)
  refine Cd.f (by rw [eqZ_self]; rfl) ?_
  refine LoopC.ind (n := 300) (by kernel_rfl) (fun (i : Nat) σ H => σ 0 = .slice px l.length l.length ∧ σ 1 = .slice py l.length l.length ∧ σ 5 = iN i ∧ i ≤ l.length ∧ Sat L' H) (fun i => l.length - i) (fun i σ H hI => ?_) 0 _ _ ⟨rfl, rfl, rfl, Nat.zero_le _, hs1⟩
  obtain ⟨e0, e1, e5, hi, hs2⟩ := hI
  rw [sameAcsL_W]
  simp only [e0, e1, e5]
  repeat (refine gO ?_; intros)
  rcases Nat.lt_or_ge i l.length with hlt | hge
  · refine Cd.t (ltZ_t (by omega)) ?_
    obtain ⟨a, ha⟩ : ∃ a, l[i]? = some a := ⟨_, List.getElem?_eq_getElem hlt⟩
    obtain ⟨v, hv⟩ : ∃ v, vs[i]? = some v := ⟨_, List.getElem?_eq_getElem (by omega)⟩
    obtain ⟨w, hw⟩ : ∃ w, ws[i]? = some w := ⟨_, List.getElem?_eq_getElem (by omega)⟩
    have hne : l ≠ [] := by rintro rfl; simp at hlt
    have ox : ∃ b, Value.slice px l.length l.length = slc b 0 l.length l.length := by
      rcases (hs2.has hV).2 with ⟨e1, e2⟩ | ⟨b, _, e2, _⟩
      · have e3 : l.length = 0 := by injection e1
        omega
      · rw [lv] at e2; exact ⟨b, e2⟩
    have oy : ∃ b, Value.slice py l.length l.length = slc b 0 l.length l.length := by
      rcases (hs2.has hW).2 with ⟨e1, e2⟩ | ⟨b, _, e2, _⟩
      · have e3 : l.length = 0 := by injection e1
        omega
      · rw [lw] at e2; exact ⟨b, e2⟩
    obtain ⟨bx, ox⟩ := ox
    obtain ⟨by_, oy⟩ := oy
    cases ox
    cases oy
    repeat (refine gO ?_; intros)
    refine Must.mk (ltN_t hlt) ?_
    refine ldTr hs2 hV rfl ha hv (j := 0) (by simp) (by omega) rfl ?_
    repeat (refine gO ?_; intros)
    refine Must.mk (ltN_t hlt) ?_
    refine ldTr hs2 hW rfl ha hw (j := 0) (by simp) (by omega) rfl ?_
    repeat (refine gO ?_; intros)
    refine Cd.f (by rw [eqZ_self]; rfl) ?_
    repeat (refine gO ?_; intros)
    refine Must.mk (ltN_t hlt) ?_
    refine ldTr hs2 hV rfl ha hv (j := 1) (by simp) (by omega) rfl ?_
    repeat (refine gO ?_; intros)
    refine Must.mk (ltN_t hlt) ?_
    refine ldTr hs2 hW rfl ha hw (j := 1) (by simp) (by omega) rfl ?_
    repeat (refine gO ?_; intros)
    refine Cd.f (by rw [eqN_self]; rfl) ?_
    repeat (refine gO ?_; intros)
    refine Must.mk (ltN_t hlt) ?_
    refine ldTr hs2 hV rfl ha hv (j := 2) (by simp) (by omega) rfl ?_
    repeat (refine gO ?_; intros)
    refine Must.mk (ltN_t hlt) ?_
    refine ldTr hs2 hW rfl ha hw (j := 2) (by simp) (by omega) rfl ?_
    repeat (refine gO ?_; intros)
    refine Cd.f (by rw [eqN_self]; rfl) ?_
    repeat (refine gO ?_; intros)
    refine Must.mk (ltN_t hlt) ?_
    refine ldTr hs2 hV rfl ha hv (j := 3) (by simp) (by omega) rfl ?_
    repeat (refine gO ?_; intros)
    refine Must.mk (ltN_t hlt) ?_
    refine ldTr hs2 hW rfl ha hw (j := 3) (by simp) (by omega) rfl ?_
    repeat (refine gO ?_; intros)
    refine Cd.f (by rw [eqN_self]; rfl) ?_
    repeat (refine gO ?_; intros)
    refine Must.mk (ltN_t hlt) ?_
    refine ldTr hs2 hV rfl ha hv (j := 4) (by simp) (by omega) rfl ?_
    repeat (refine gO ?_; intros)
    refine Must.mk (ltN_t hlt) ?_
    refine ldTr hs2 hW rfl ha hw (j := 4) (by simp) (by omega) rfl ?_
    repeat (refine gO ?_; intros)
    refine Cd.f (by rw [eqN_self]; rfl) ?_
    repeat (refine gO ?_; intros)
    refine Must.mk (ltN_t hlt) ?_
    refine ldTr hs2 hV rfl ha hv (j := 6) (by simp) (by omega) rfl ?_
    repeat (refine gO ?_; intros)
    refine Must.mk (ltN_t hlt) ?_
    refine ldTr hs2 hW rfl ha hw (j := 6) (by simp) (by omega) rfl ?_
    repeat (refine gO ?_; intros)
    refine Cd.f (by rw [eqN_self]; rfl) ?_
    repeat (refine gO ?_; intros)
    refine Must.mk (ltN_t hlt) ?_
    refine ldTr hs2 hV rfl ha hv (j := 7) (by simp) (by omega) rfl ?_
    repeat (refine gO ?_; intros)
    refine Must.mk (ltN_t hlt) ?_
    refine ldTr hs2 hW rfl ha hw (j := 7) (by simp) (by omega) rfl ?_
    repeat (refine gO ?_; intros)
    refine Cd.f (by rw [eqB_self]; rfl) ?_
    repeat (refine gO ?_; intros)
    refine Must.mk (ltN_t hlt) ?_
    refine ldTr hs2 hV rfl ha hv (j := 5) (by simp) (by omega) rfl ?_
    repeat (refine gO ?_; intros)
    refine Must.mk (ltN_t hlt) ?_
    refine ldTr hs2 hW rfl ha hw (j := 5) (by simp) (by omega) rfl ?_
    repeat (refine gO ?_; intros)
    refine sameU_ok hc hs2 (l := a.vals) (hNv i a v ha hv) (hNw i a w ha hw) (hvl a (List.mem_of_getElem? ha)) ?_
    repeat (refine gO ?_; intros)
    refine inR_nat (n := i + 1) (by omega) ?_
    show ∃ y, _ ∧ _
    exact ⟨i + 1, by omega, e0, e1, rfl, hlt, hs2⟩
  · refine Cd.f (ltZ_f (by omega)) ?_
    show Cd _ _ _
    refine Cd.t (eqN_self 0) ?_
    exact k _ (hend hs2)
end Go.Proofs.YtocphcgcpjcfjaaGreat

set_option linter.unusedVariables false
set_option linter.unusedSimpArgs false
namespace Go.Proofs.YtocphcgcpjcfjaaGreat
open Go Go.CM
theorem slots_eq (H : CH) (a0 a1 a3 b0 b1 b3 : Nat) (a2 b2 : Int) : ceq Tryz.prog H 10000 29 (.agg ⟨[u64 a0, u64 a1, i64 a2, u64 a3]⟩) (.agg ⟨[u64 b0, u64 b1, i64 b2, u64 b3]⟩) = some ((Int.ofNat a0 == Int.ofNat b0) && ((Int.ofNat a1 == Int.ofNat b1) && ((a2 == b2) && ((Int.ofNat a3 == Int.ofNat b3) && true)))) := by
  have e : ceq Tryz.prog H 10000 29 (.agg ⟨[u64 a0, u64 a1, i64 a2, u64 a3]⟩) (.agg ⟨[u64 b0, u64 b1, i64 b2, u64 b3]⟩) = brk (Int.ofNat a0 == Int.ofNat b0) (brk (Int.ofNat a1 == Int.ofNat b1) (brk (a2 == b2) (brk (Int.ofNat a3 == Int.ofNat b3) (some true)))) := by kernel_rfl
  rw [e, brk_eq, brk_eq, brk_eq, brk_eq]
theorem slots_guard : Tryz.prog.eqGuardType Tryz.prog.depth 29 = false := by kernel_rfl
theorem slots_self (H : CH) (a0 a1 a3 : Nat) (a2 : Int) : ceq Tryz.prog H 10000 29 (.agg ⟨[u64 a0, u64 a1, i64 a2, u64 a3]⟩) (.agg ⟨[u64 a0, u64 a1, i64 a2, u64 a3]⟩) = some true := by
  rw [slots_eq]; simp
attribute [local irreducible] AsBool AsWant AsNat AsInt AsCnt AsPtr AsSlc AsLen AsStr AsAgg AsTup AsFn AsIfc Nth Sc NotNil IsNil Must Cd codeW funW Sat SatL wrapN subM mkRow ltZ leZ ltN leN
variable {con : CallT}
noncomputable def elemT (t : Nat) : Nat := match Tryz.prog.underlying t with | some (.slice e) => e | _ => 0
theorem el_at14 : elemOk Tryz.prog 24 (elemT 24) 1 8 = true := by kernel_rfl
theorem zero_q : (zeroOf Tryz.prog 96).map cellsF = some [nilP] := by kernel_rfl
theorem zero_at14 : (zeroOf Tryz.prog (elemT 24)).map cellsF = some [iN 0] := by kernel_rfl
theorem rep1 (n : Nat) (v : Value) : (List.replicate n [v]).flatten = List.replicate n v := by
  induction n with
  | zero => rfl
  | succ n ih => rw [List.replicate_succ, List.replicate_succ, List.flatten_cons, ih]; rfl
def mem14 : Mem := (mem0 400).store (Int.negSucc 0) 399 1
def slots14 (n : Int) (most : Nat) : SlotsS × Nat × Mem := mkSlots 399 n most mem14 (Int.negSucc 0)
theorem fine_alloc14 {M : Mem} (h : Fine M) (th : Int) {vals : List Nat} (hv : ∀ x ∈ vals, x < 18446744073709551616) (hl : vals.length ≤ 1000000000) : Fine (M.alloc th vals) := by
  have hb : ∀ (v cs : List Nat) (o : Nat), (∀ x ∈ v, x < 18446744073709551616) → (∀ x ∈ cs, x < 18446744073709551616) → ∀ x ∈ ovN v cs o, x < 18446744073709551616 := fun v => by
    induction v with
    | nil => exact fun cs o _ h => h
    | cons y r ih =>
      intro cs o h1 h2
      refine ih (cs.set o y) (o + 1) (fun x hx => h1 x (List.mem_cons_of_mem _ hx)) fun x hx => ?_
      rcases List.mem_or_eq_of_mem_set hx with h | rfl
      · exact h2 x h
      · exact h1 x (List.mem_cons_self ..)
  unfold Mem.alloc
  split
  · exact ⟨fun x hx => hb vals M.cells M.free hv h.bd x hx, fine_note (M := { M with cells := _, free := _ }) h.vals hl⟩
  · exact ⟨h.bd, fine_note h.vals hl⟩
theorem alloc_len14 (M : Mem) (th : Int) (vals : List Nat) : (M.alloc th vals).tr.length = M.tr.length + 1 := by
  simp only [Mem.alloc, Mem.note]
  split <;> simp
theorem mkSlots_fine14 {cam : Nat} {n : Int} {most : Nat} {M : Mem} (h : Fine M) (th : Int) : Fine (mkSlots cam n most M th).2.2 ∧ (mkSlots cam n most M th).2.2.tr.length ≤ M.tr.length + 1 := by
  unfold mkSlots
  split
  · exact ⟨h, Nat.le_succ _⟩
  · rename_i c
    have hz : ∀ x ∈ List.replicate c 0, x < 18446744073709551616 := fun x hx => by rw [List.eq_of_mem_replicate hx]; omega
    by_cases h1 : c < 1
    · simp only [if_pos h1]; exact ⟨h, Nat.le_succ _⟩
    simp only [if_neg h1]
    by_cases h2 : 256 < c
    · simp only [if_pos h2]; exact ⟨h, Nat.le_succ _⟩
    simp only [if_neg h2]
    by_cases h3 : most < 1
    · simp only [if_pos h3]; exact ⟨h, Nat.le_succ _⟩
    simp only [if_neg h3]
    by_cases h4 : 1099511627776 < most
    · simp only [if_pos h4]; exact ⟨h, Nat.le_succ _⟩
    simp only [if_neg h4]
    have := fine_alloc14 h th hz (by simp; omega)
    have h5 := alloc_len14 M th (List.replicate c 0)
    split
    · exact ⟨this, by show (M.alloc th (List.replicate c 0)).tr.length ≤ _; omega⟩
    · exact ⟨this, by show (M.alloc th (List.replicate c 0)).tr.length ≤ _; omega⟩
theorem fine14 : Fine mem14 := (Nxt.store (mem0 400) (Int.negSucc 0) 399 (by omega)).fine (fine0 400)
theorem slots14_fine (n : Int) (most : Nat) : Fine (slots14 n most).2.2 ∧ (slots14 n most).2.2.tr.length ≤ 10 := by
  have h := mkSlots_fine14 (cam := 399) (n := n) (most := most) fine14 (Int.negSucc 0)
  have h2 : mem14.tr.length = 1 := qst (mem0 400) (Int.negSucc 0) 399 1
  exact ⟨h.1, by have := h.2; show (mkSlots 399 n most mem14 (Int.negSucc 0)).2.2.tr.length ≤ 10; omega⟩
def g14 (M : Mem) (calls : List (List C14)) : R14 := ⟨M, List.replicate calls.length none, List.replicate calls.length 0, []⟩
theorem wf14 (sl : SlotsS) {M : Mem} (h : Fine M) (calls : List (List C14)) : WF14 sl calls (g14 M calls) := by
  have hn : ∀ (k b : Nat), (g14 M calls).now[k]? = some (some b) → False := fun k b h => by
    simp only [g14, List.getElem?_replicate] at h
    split at h <;> simp at h
  refine ⟨by simp [g14], by simp [g14], h, fun k cs a _ h2 => ?_, fun k b h => (hn k b h).elim, fun k k' b h _ => (hn k b h).elim⟩
  simp only [g14, List.getElem?_replicate] at h2
  split at h2
  · cases h2; exact Nat.zero_le _
  · cases h2
noncomputable def run14 (n : Int) (most : Nat) (calls : List (List C14)) (stores : Bool) (picks : List Int) (j : Nat) : R14 := r14At (slots14 n most).1 calls stores picks (g14 (slots14 n most).2.2 calls) j
set_option maxRecDepth 100000 in
theorem l14ran_ok (hc : Con con lives) {n0 : Int} {most : Nat} {calls : List (List C14)} (hc64 : Calls64b calls) {stores : Bool} {picks : List Int} {xv xw : Value} {R : List HP} {H : CH} {K : KP}
    (hl1 : calls.length ≤ 1048576) (hl2 : ∀ cs ∈ calls, cs.length ≤ 1048576) (hpc : picks.length ≤ 1048576) (hs : Sat (Thr14 xv calls :: IntsR xw picks :: R) H)
    (k0 : (slots14 n0 most).2.1 ≠ 0 → ∀ H1, Sat (Thr14 xv calls :: IntsR xw picks :: R) H1 → K (.tuple ⟨[snil, nilP, slA (slots14 n0 most).1, .bool true]⟩) H1)
    (k1 : (slots14 n0 most).2.1 = 0 → ∀ va ps m H1, ps.length = (run14 n0 most calls stores picks picks.length).all.length →
      Sat (MemP m (run14 n0 most calls stores picks picks.length).M :: Vec va 96 1 (ps.map fun p => [ptr p 0]) :: SatL (List.zipWith (QAt (slots14 n0 most).1) ps (run14 n0 most calls stores picks picks.length).all) :: Thr14 xv calls :: IntsR xw picks :: R) H1 →
      K (.tuple ⟨[va, ptr m 0, slA (slots14 n0 most).1, .bool true]⟩) H1) :
    Call1 Tryz.prog con 23 [.agg ⟨[i64 n0, u64 most, xv, xw]⟩, .bool stores] H K := by
  obtain ⟨pxv, cxv, exv⟩ := (hs.has has_thr14).len
  obtain ⟨pxw, cxw, exw⟩ := (hs.has (Has.skip has_ints)).len
  have hcx : isCell xv = true := by rw [exv]; rfl
  have hcw : isCell xw = true := by rw [exw]; rfl
  refine call_of (hc _ _ _ rfl) ?_
  rw [l14ran_W]
  refine na fun p1 H2 h2 => ?_
  refine na fun p3 H4 h4 => ?_
  refine arenaNew_ok hc h4 (by omega) (by omega) fun m H6 h6 => ?_
  repeat (refine gO ?_; intros)
  refine refNew_ok hc h6 (by omega) (by omega) fun r H12 h12 => ?_
  repeat (refine gO ?_; intros)
  refine memView_ok hc h12 fun q H24 h24 => ?_
  refine viewStore_ok hc h24 pp pp (by omega) (by show 0 < _; omega) fun H26 h26 => ?_
  refine refStore_ok hc h26 pp (by show 0 < _; omega) fun H28 h28 => ?_
  have hM : (mem0 400).store (Int.negSucc 0) 399 1 = mem14 := rfl
  rw [hM] at h28
  have h29 : Sat (MemP m mem14 :: RefP r mem14 :: Own p3 [u64 0, u64 0, i64 (Int.ofNat 0), u64 0] :: Own p1 [i64 n0, u64 most, xv, xw] :: Thr14 xv calls :: IntsR xw picks :: R) H28 := h28.ent ee
  clear h28 h26 h24 h12 h6 h4 h2
  have hmt : mem14.tr.length = 1 := qst (mem0 400) (Int.negSucc 0) 399 1
  refine na fun pc H30 h30 => ?_
  refine memView_ok hc h30 fun q2 H32 h32 => ?_
  repeat (refine gO ?_; intros)
  refine annMake_ok (n := n0) hc h32 pp pp (by omega) (by omega) fun nn' H36 _ h36 => ?_
  have e : mkSlots 399 n0 most mem14 (Int.negSucc 0) = slots14 n0 most := rfl
  have hsf := slots14_fine n0 most
  unfold run14 at k1
  generalize slots14 n0 most = s at *
  rw [e] at h36
  rw [e]
  obtain ⟨⟨cam, first, count, ms⟩, er, M⟩ := s
  simp only at k0 k1 h36 hsf
  obtain ⟨hf, ht⟩ := hsf
  repeat (refine gO ?_; intros)
  refine stN (by assumption) (Nat.le_of_ble_eq_true rfl) rfl fun H46 h46 => ?_
  repeat (refine gO ?_; intros)
  refine rMake_ok (n := n0) hc h46 pp (by omega) fun H54 h54 => ?_
  rw [e] at h54
  rw [e]
  simp only at h54 ⊢
  repeat (refine gO ?_; intros)
  refine stN (by assumption) (Nat.le_of_ble_eq_true rfl) rfl fun H66 h66 => ?_
  repeat (refine gO ?_; intros)
  refine Cd.f (by rw [eqZ_self]; rfl) ?_
  repeat (refine gO ?_; intros)
  refine OpN.neAgg (a := ⟨[u64 cam, u64 first, i64 count, u64 ms]⟩) (c := ⟨[u64 cam, u64 first, i64 count, u64 ms]⟩) rfl rfl slots_guard (slots_self _ _ _ _ _) ?_
  repeat (refine gO ?_; intros)
  by_cases her : er = 0
  · subst her
    refine Cd.f (by rw [eqZ_self]; rfl) ?_
    repeat (refine gO ?_; intros)
    refine AsLen.eq exv ?_
    refine mkS h66 el_q zero_q (Nat.le_refl _) (by omega) (by omega) fun bn H111 h111 => ?_
    repeat (refine gO ?_; intros)
    refine AsLen.eq exv ?_
    refine mkS h111 el_at14 zero_at14 (Nat.le_refl _) (by omega) (by omega) fun ba H115 h115 => ?_
    rw [rep1, rep1] at h115
    have hrep : List.replicate calls.length (iN 0) = (List.replicate calls.length 0).map iN := by rw [List.map_replicate]
    rw [hrep] at h115
    have hst : Sat (MemP m M :: RefP r M :: Row bn 96 0 true (List.replicate calls.length nilP) :: Row ba (elemT 24) 0 true ((List.replicate calls.length 0).map iN) :: Vec snil 96 1 (([] : List Nat).map fun p => [ptr p 0]) :: SatL (List.zipWith (QAt ⟨cam, first, count, ms⟩) [] []) :: Own pc [u64 cam, u64 first, i64 count, u64 ms] :: Own p1 [i64 n0, u64 most, xv, xw] :: Thr14 xv calls :: IntsR xw picks :: Own p3 [u64 0, u64 0, i64 (Int.ofNat 0), u64 0] :: R) H115 := (Sat.none h115).nilV.ent ee
    clear h115 h111 h66 h54 h46 h36
    have hnw0 : Now2 [] (List.replicate calls.length none) (List.replicate calls.length nilP) := ⟨by simp, fun k x v h1 h2 => by
      have e1 := List.eq_of_mem_replicate (List.mem_of_getElem? h1)
      have e2 := List.eq_of_mem_replicate (List.mem_of_getElem? h2)
      subst e1 e2
      exact rfl⟩
    refine LoopC.indP (n := 300) (id := 0) (fun σ H => σ 6 = ptr p3 0 ∧ σ 8 = ptr m 0 ∧ σ 10 = ptr r 0 ∧ σ 12 = ptr pc 0 ∧ ∃ va ps, σ 18 = va ∧ ps.length = (r14At ⟨cam, first, count, ms⟩ calls stores picks (g14 M calls) picks.length).all.length ∧
        Sat (MemP m (r14At ⟨cam, first, count, ms⟩ calls stores picks (g14 M calls) picks.length).M :: RefP r (r14At ⟨cam, first, count, ms⟩ calls stores picks (g14 M calls) picks.length).M :: Vec va 96 1 (ps.map fun p => [ptr p 0]) :: SatL (List.zipWith (QAt ⟨cam, first, count, ms⟩) ps (r14At ⟨cam, first, count, ms⟩ calls stores picks (g14 M calls) picks.length).all) :: Own pc [u64 cam, u64 first, i64 count, u64 ms] :: Thr14 xv calls :: IntsR xw picks :: Own p3 [u64 0, u64 0, i64 (Int.ofNat 0), u64 0] :: R) H) (by kernel_rfl)
      (fun (j : Nat) σ H => j ≤ picks.length ∧ σ 1 = .bool stores ∧ σ 2 = ptr p1 0 ∧ σ 6 = ptr p3 0 ∧ σ 8 = ptr m 0 ∧ σ 10 = ptr r 0 ∧ σ 12 = ptr pc 0 ∧ σ 16 = slc bn 0 calls.length calls.length ∧ σ 17 = slc ba 0 calls.length calls.length ∧ σ 19 = iN j ∧ ∃ va ps nv, σ 18 = va ∧ Now2 ps (r14At ⟨cam, first, count, ms⟩ calls stores picks (g14 M calls) j).now nv ∧ ps.length = (r14At ⟨cam, first, count, ms⟩ calls stores picks (g14 M calls) j).all.length ∧
        Sat (MemP m (r14At ⟨cam, first, count, ms⟩ calls stores picks (g14 M calls) j).M :: RefP r (r14At ⟨cam, first, count, ms⟩ calls stores picks (g14 M calls) j).M :: Row bn 96 0 true nv :: Row ba (elemT 24) 0 true ((r14At ⟨cam, first, count, ms⟩ calls stores picks (g14 M calls) j).at_.map iN) :: Vec va 96 1 (ps.map fun p => [ptr p 0]) :: SatL (List.zipWith (QAt ⟨cam, first, count, ms⟩) ps (r14At ⟨cam, first, count, ms⟩ calls stores picks (g14 M calls) j).all) :: Own pc [u64 cam, u64 first, i64 count, u64 ms] :: Own p1 [i64 n0, u64 most, xv, xw] :: Thr14 xv calls :: IntsR xw picks :: Own p3 [u64 0, u64 0, i64 (Int.ofNat 0), u64 0] :: R) H)
      (fun j => picks.length - j) (fun j σ H hI => ?_) (fun σ H hP => ?_) 0 _ _ ⟨Nat.zero_le _, rfl, rfl, rfl, rfl, rfl, rfl, rfl, rfl, rfl, snil, [], _, rfl, hnw0, rfl, hst⟩
    · obtain ⟨hj, a1, a2, a6, a8, a10, a12, a16, a17, a19, va, ps, nv, a18, hnw, hps, hs2⟩ := hI
      by_cases hlt : j < picks.length
      · obtain ⟨t, et⟩ : ∃ t, picks[j]? = some t := ⟨_, List.getElem?_eq_getElem hlt⟩
        have hw0 := wf14 ⟨cam, first, count, ms⟩ hf calls
        have hz := r14At_sz hc64 (stores := stores) (picks := picks) hw0 j
        have hW := r14At_wf hc64 (stores := stores) (picks := picks) hw0 j
        have hz1 : (g14 M calls).all.length = 0 := rfl
        have hz2 : (g14 M calls).M.tr.length ≤ 10 := ht
        have hsu := r14At_succ (sl := ⟨cam, first, count, ms⟩) (calls := calls) (stores := stores) (g := g14 M calls) et
        refine ran_pick (n := calls.length) (p3 := p3) hc hc64 hW rfl hl1 hl2 hnw hps hlt hpc et (by omega) (by omega) hs2 a1 a2 a6 a8 a10 a12 a16 a17 a18 a19 fun σ1 H1 ps' va' nv' b1 b2 b6 b8 b10 b12 b16 b17 b18 b19 hnw' hps' h1 => ?_
        rw [← hsu] at hnw' hps' h1
        show ∃ y, _ ∧ _
        exact ⟨j + 1, by omega, hlt, b1, b2, b6, b8, b10, b12, b16, b17, b19, va', ps', nv', b18, hnw', hps', h1⟩
      · obtain rfl : j = picks.length := by omega
        rw [ran_lp, codeW_cut 2, l14ranA_W, a2, a19]
        repeat (refine gO ?_; intros)
        refine AsLen.eq exw ?_
        repeat (refine gO ?_; intros)
        refine Cd.f (ltZ_f (Nat.le_refl _)) ?_
        rw [ceP_x]
        show _ = _ ∧ _
        exact ⟨rfl, a6, a8, a10, a12, va, ps, a18, hps, hs2.ent ee⟩
    · obtain ⟨a6, a8, a10, a12, va, ps, a18, hps, hs2⟩ := hP
      show Cd _ _ _
      refine Cd.t (eqN_self 0) ?_
      have hw0 := wf14 ⟨cam, first, count, ms⟩ hf calls
      have hz := r14At_sz hc64 (stores := stores) (picks := picks) hw0 picks.length
      have hW := r14At_wf hc64 (stores := stores) (picks := picks) hw0 picks.length
      have hz2 : (g14 M calls).M.tr.length ≤ 10 := ht
      have k1 := k1 rfl va ps m
      generalize r14At ⟨cam, first, count, ms⟩ calls stores picks (g14 M calls) picks.length = g at *
      rw [a6, a8, a10, a12, a18]
      have hs4 : Sat (RefP r g.M :: MemP m g.M :: Own pc [u64 cam, u64 first, i64 count, u64 ms] :: Own p3 [u64 0, u64 0, i64 (Int.ofNat 0), u64 0] :: Vec va 96 1 (ps.map fun p => [ptr p 0]) :: SatL (List.zipWith (QAt ⟨cam, first, count, ms⟩) ps g.all) :: Thr14 xv calls :: IntsR xw picks :: R) H := hs2.ent ee
      obtain ⟨f1, f2, u1, u2, d, ⟨bl, tr, ⟨hn, hfr⟩, hin⟩, hR⟩ := hs4.opens Pull.here
      have hs5 := Sat.merge u1 u2 d hin hR
      simp only [List.cons_append, List.nil_append] at hs5
      obtain ⟨g1, g2, t1, t2, d2, hT', _⟩ := hs5.opens (A := TrAt tr tA g.M.tr) (.there (.there .here))
      obtain ⟨pt, rfl⟩ := hT'.shape
      clear hs4 hs2
      repeat (refine gO ?_; intros)
      refine memTraceK_ok hc hs5 pp (by omega) hW.fine.vals fun x H9 h9 => ?_
      repeat (refine gO ?_; intros)
      refine sameAcs_ok hc h9 pp pp (by omega) hW.fine.vals fun H10 h10 => ?_
      repeat (refine gO ?_; intros)
      refine stN h10 (Nat.le_of_ble_eq_true rfl) rfl fun H134 h134 => ?_
      repeat (refine gO ?_; intros)
      refine k1 _ hps (Sat.ent h134 ee)
  · refine Cd.t (by rw [eqZ_f her]; rfl) ?_
    repeat (refine gO ?_; intros)
    refine stN h66 (Nat.le_of_ble_eq_true rfl) rfl fun H103 h103 => ?_
    repeat (refine gO ?_; intros)
    exact k0 her _ (h103.ent ee)
end Go.Proofs.YtocphcgcpjcfjaaGreat

set_option linter.unusedVariables false
set_option linter.unusedSimpArgs false
namespace Go.Proofs.YtocphcgcpjcfjaaGreat
open Go Go.CM
theorem slot_kg {k g t : Nat} (hk : k < 4) : kindW (slotW k g t) = k ∧ genW (slotW k g t) = g % 1048576 := by
  unfold slotW kindW genW
  omega
theorem slot_st {k g t : Nat} (hk : k < 4) (ht : t < 4398046511104) : stampW (slotW k g t) = t := by
  unfold slotW stampW
  omega
theorem peek_put (M : Mem) (a x b : Nat) : (M.put a x).peek b = if a = b ∧ a < M.cells.length then x else M.peek b := by
  unfold Mem.peek Mem.put
  simp only [List.getD_eq_getElem?_getD, List.getElem?_set]
  by_cases h : a = b
  · subst h
    by_cases h2 : a < M.cells.length
    · simp [h2]
    · simp [h2]
  · simp [h]
theorem peek_note (M : Mem) (c : Acs) (b : Nat) : (M.note c).peek b = M.peek b := rfl
theorem len_note (M : Mem) (c : Acs) : (M.note c).cells.length = M.cells.length := rfl
theorem len_put (M : Mem) (a x : Nat) : (M.put a x).cells.length = M.cells.length := by simp [Mem.put]
theorem peek_store' {M : Mem} {a : Nat} (h : a < M.cells.length) (th : Int) (x b : Nat) : (M.store th a x).peek b = if a = b then x else M.peek b := by
  unfold Mem.store
  rw [peek_note, peek_put]
  by_cases e : a = b
  · rw [if_pos ⟨e, h⟩, if_pos e]
  · rw [if_neg (fun q => e q.1), if_neg e]
theorem peek_cas (M : Mem) (th : Int) (a x y b : Nat) : (M.cas th a x y).peek b = if M.swaps a x = true ∧ a = b then y else M.peek b := by
  unfold Mem.cas
  rw [peek_note]
  cases h : M.swaps a x with
  | true =>
    simp only [if_true, true_and]
    rw [peek_put]
    have hl : a < M.cells.length := by
      unfold Mem.swaps at h
      simp only [Bool.and_eq_true, decide_eq_true_eq] at h
      exact h.1
    simp [hl]
  | false => simp
theorem swaps_eq {M : Mem} {a x : Nat} (h : M.swaps a x = true) : M.peek a = x := by
  unfold Mem.swaps at h
  simp only [Bool.and_eq_true, decide_eq_true_eq] at h
  exact h.2
theorem len_store (M : Mem) (th : Int) (a x : Nat) : (M.store th a x).cells.length = M.cells.length := len_put M a x
theorem len_cas (M : Mem) (th : Int) (a x y : Nat) : (M.cas th a x y).cells.length = M.cells.length := by
  unfold Mem.cas
  rw [len_note]
  split
  · exact len_put M a y
  · rfl
def WH (M : Mem) (i : Nat) : Nat := M.peek (1 + i)
theorem addM1 {i : Nat} (h : i < 256) : addM 1 i = 1 + i := Nat.mod_eq_of_lt (by show 1 + i < _; omega)
def slH (c most : Nat) : SlotsS := ⟨399, 1, Int.ofNat c, most⟩
theorem cntH {c most : Nat} (h2 : c ≤ 256) : cnt (slH c most).count = c := by
  show cnt (Int.ofNat c) = c
  unfold cnt
  simp only
  rw [if_neg (by omega)]
structure SnH (c most : Nat) (M : Mem) (s : SnapS) : Prop where
  sl : s.sl = slH c most
  i0 : s.at_ ≤ 7 → s.i < c
  a1 : s.at_ = 1 → kindW s.w = 0 ∧ genW s.w = s.gen ∧ s.gen < 1048575
  own : 2 ≤ s.at_ → s.at_ ≤ 7 → s.gen < 1048575 ∧ genW (WH M s.i) = s.gen ∧ kindW (WH M s.i) = (if s.at_ ≤ 3 then 1 else 2)
  a5 : s.at_ = 5 ∨ s.at_ = 6 → s.t < 4398046511104
structure EfH (c : Nat) (M M' : Mem) (i0 : Option Nat) : Prop where
  len : M'.cells.length = 400
  oth : ∀ i, i < c → i0 ≠ some i → WH M' i = WH M i
theorem EfH.same {c : Nat} (hc : c ≤ 256) {M M' : Mem} (hl : M'.cells.length = 400) (h : ∀ a, a ≠ 399 → M'.peek a = M.peek a) : EfH c M M' none := ⟨hl, fun i hi _ => h _ (by omega)⟩
theorem EfH.at {c i : Nat} {M M' : Mem} {x : Nat} (hl : M'.cells.length = 400) (h : ∀ a, M'.peek a = if 1 + i = a then x else M.peek a) : EfH c M M' (some i) ∧ WH M' i = x := by
  refine ⟨⟨hl, fun j _ hj => ?_⟩, ?_⟩
  · unfold WH
    rw [h, if_neg (by intro e; apply hj; congr 1; omega)]
  · unfold WH
    rw [h, if_pos rfl]
inductive SnapK (M M' : Mem) (s s' : SnapS) : Prop where
  | claim : s.at_ = 1 → kindW (WH M s.i) = 0 → genW (WH M' s.i) = genW (WH M s.i) → kindW (WH M' s.i) = 1 → genW (WH M s.i) < 1048575 → s'.at_ = 2 → s'.i = s.i → SnapK M M' s s'
  | ann : s.at_ = 3 → genW (WH M' s.i) = genW (WH M s.i) → kindW (WH M' s.i) = 2 → s'.at_ = 4 → s'.i = s.i → SnapK M M' s s'
  | give : s.at_ = 7 → genW (WH M' s.i) = genW (WH M s.i) → kindW (WH M' s.i) = 0 → s'.at_ = 8 → s'.err ≠ 0 → SnapK M M' s s'
  | hold : s.at_ = 6 → genW (WH M' s.i) = genW (WH M s.i) → kindW (WH M' s.i) = 3 → stampW (WH M' s.i) = s.t → s'.at_ = 8 → s'.ok = true → s'.i = s.i → s'.gen = s.gen → s'.t = s.t → s'.err = 0 → SnapK M M' s s'
theorem sh8 {c most : Nat} {M : Mem} {s : SnapS} (hsl : s.sl = slH c most) (h : s.at_ = 8) : SnH c most M s := ⟨hsl, fun h1 => by omega, fun h1 => by omega, fun h1 h2 => by omega, fun h1 => by omega⟩
theorem sh0 {c most : Nat} {M : Mem} {s : SnapS} (hsl : s.sl = slH c most) (h : s.at_ = 0) (hi : s.i < c) : SnH c most M s := ⟨hsl, fun h1 => hi, fun h1 => by omega, fun h1 h2 => by omega, fun h1 => by omega⟩
theorem sh1 {c most : Nat} {M : Mem} {s : SnapS} (hsl : s.sl = slH c most) (h : s.at_ = 1) (hi : s.i < c) (a1 : kindW s.w = 0 ∧ genW s.w = s.gen ∧ s.gen < 1048575) : SnH c most M s := ⟨hsl, fun h1 => hi, fun h1 => a1, fun h1 h2 => by omega, fun h1 => by omega⟩
theorem sh_on {c most : Nat} {M : Mem} {s : SnapS} (hsl : s.sl = slH c most) (hcn : cnt (slH c most).count = c) : SnH c most M s.on ∧ (2 ≤ s.on.at_ → s.on.at_ ≤ 7 → False) ∧ (s.on.at_ = 8 → s.on.err ≠ 0) := by
  unfold SnapS.on
  rw [hsl, hcn]
  split
  · rename_i h
    exact ⟨sh0 rfl rfl h, fun h1 => absurd h1 (by show ¬ (2 ≤ 0); omega), fun h1 => absurd h1 (by simp)⟩
  · exact ⟨sh8 rfl rfl, fun _ h1 => absurd h1 (by show ¬ (8 ≤ 7); omega), fun _ => by simp⟩
theorem snapH_eff {c most : Nat} (hc1 : 1 ≤ c) (hc2 : c ≤ 256) (hm : most ≤ 1099511627776) {M : Mem} (hl : M.cells.length = 400) {s : SnapS} (hok : s.Ok) (J : SnH c most M s) (th : Int) :
    SnH c most (s.step M th).2 (s.step M th).1 ∧
    ((EfH c M (s.step M th).2 none ∧ (2 ≤ (s.step M th).1.at_ → (s.step M th).1.at_ ≤ 7 → 2 ≤ s.at_ ∧ (s.step M th).1.i = s.i) ∧ ((s.step M th).1.at_ = 8 → (s.step M th).1.err ≠ 0)) ∨
     (EfH c M (s.step M th).2 (some s.i) ∧ SnapK M (s.step M th).2 s (s.step M th).1)) := by
  obtain ⟨sl, at_, i, w, gen, t, ok, err⟩ := s
  obtain ⟨h1, h2, h3, h4, h5⟩ := hok
  simp only at h1 h2 h3 h4 h5
  subst h2 h3
  obtain ⟨j1, j2, j3, j4, j7⟩ := J
  simp only at j1 j2 j3 j4 j7
  subst j1
  have hi := j2 (by omega)
  have hcell : addM (slH c most).first i = 1 + i := addM1 (by omega)
  have hcn := cntH (most := most) hc2
  rcases (by omega : at_ = 0 ∨ at_ = 1 ∨ at_ = 2 ∨ at_ = 3 ∨ at_ = 4 ∨ at_ = 5 ∨ at_ = 6 ∨ at_ = 7) with rfl | rfl | rfl | rfl | rfl | rfl | rfl | rfl
  · simp only [SnapS.step, SnapS.cell, hcell]
    rw [if_neg (show ¬ cnt (slH c most).count = 0 by omega)]
    have hE : EfH c M (M.load th (1 + i)) none := .same hc2 hl fun a _ => rfl
    have on := sh_on (c := c) (most := most) (M := M.load th (1 + i)) (s := ⟨slH c most, 0, i, M.peek (1 + i), genW (M.peek (1 + i)), t, false, 0⟩) rfl hcn
    by_cases hk : kindW (M.peek (1 + i)) = 0
    · by_cases hgg : 1048575 ≤ genW (M.peek (1 + i))
      · simp only [hgg, or_true, if_true]
        exact ⟨on.1, .inl ⟨hE, fun h1 h2 => (on.2.1 h1 h2).elim, on.2.2⟩⟩
      · simp only [hk, hgg, ne_eq, not_true_eq_false, or_false, if_false]
        exact ⟨sh1 rfl rfl hi ⟨hk, rfl, by show genW _ < _; omega⟩, .inl ⟨hE, fun h1 => absurd h1 (by simp), fun h1 => absurd h1 (by simp)⟩⟩
    · simp only [hk, ne_eq, not_false_eq_true, true_or, if_true]
      exact ⟨on.1, .inl ⟨hE, fun h1 h2 => (on.2.1 h1 h2).elim, on.2.2⟩⟩
  · obtain ⟨k1, k2, k3⟩ := j3 rfl
    simp only [SnapS.step, SnapS.cell, hcell]
    cases hsw : M.swaps (1 + i) w with
    | false =>
      have hE : EfH c M (M.cas th (1 + i) w (slotW 1 gen 0)) none := .same hc2 ((len_cas ..).trans hl) fun a _ => by rw [peek_cas, hsw]; simp
      have on := sh_on (c := c) (most := most) (M := M.cas th (1 + i) w (slotW 1 gen 0)) (s := ⟨slH c most, 1, i, w, gen, t, false, 0⟩) rfl hcn
      simp only [Bool.false_eq_true, if_false]
      exact ⟨on.1, .inl ⟨hE, fun h1 h2 => (on.2.1 h1 h2).elim, on.2.2⟩⟩
    | true =>
      have hw : WH M i = w := swaps_eq hsw
      obtain ⟨hE, hW⟩ := EfH.at (c := c) (i := i) (M := M) (M' := M.cas th (1 + i) w (slotW 1 gen 0)) (x := slotW 1 gen 0) ((len_cas ..).trans hl) fun a => by rw [peek_cas, hsw]; simp
      obtain ⟨q1, q2⟩ := slot_kg (k := 1) (g := gen) (t := 0) (by omega)
      simp only [if_true]
      refine ⟨⟨rfl, fun _ => hi, fun h => absurd h (by simp), fun _ _ => ⟨k3, by show genW (WH _ i) = gen; rw [hW, q2]; omega, by show kindW (WH _ i) = _; rw [hW, q1]; rfl⟩, fun h => absurd h (by simp)⟩, .inr ⟨hE, .claim rfl (by show kindW (WH M i) = 0; rw [hw]; exact k1) (by show genW (WH _ i) = genW (WH M i); rw [hW, hw, q2, k2]; omega) (by show kindW (WH _ i) = 1; rw [hW, q1]) (by show genW (WH M i) < _; rw [hw, k2]; exact k3) rfl rfl⟩⟩
  · obtain ⟨o1, o2, o3⟩ := j4 (by omega) (by omega)
    have hE : EfH c M (M.load th 399) none := .same hc2 hl fun a _ => rfl
    simp only [SnapS.step]
    exact ⟨⟨rfl, fun _ => hi, fun h => absurd h (by simp), fun _ _ => ⟨o1, o2, o3⟩, fun h => absurd h (by simp)⟩, .inl ⟨hE, fun _ _ => ⟨by simp, by simp⟩, fun h => absurd h (by simp)⟩⟩
  · obtain ⟨o1, o2, o3⟩ := j4 (by omega) (by omega)
    simp only [SnapS.step, SnapS.cell, hcell]
    obtain ⟨hE, hW⟩ := EfH.at (c := c) (i := i) (M := M) (M' := M.store th (1 + i) (slotW 2 gen t)) (x := slotW 2 gen t) ((len_store ..).trans hl) fun a => peek_store' (by omega) th _ a
    obtain ⟨q1, q2⟩ := slot_kg (k := 2) (g := gen) (t := t) (by omega)
    refine ⟨⟨rfl, fun _ => hi, fun h => absurd h (by simp), fun _ _ => ⟨o1, by show genW (WH _ i) = gen; rw [hW, q2]; omega, by show kindW (WH _ i) = _; rw [hW, q1]; rfl⟩, fun h => absurd h (by simp)⟩, .inr ⟨hE, .ann rfl (by show genW (WH _ i) = genW (WH M i); rw [hW, q2, o2]; omega) (by show kindW (WH _ i) = 2; rw [hW, q1]) rfl rfl⟩⟩
  · obtain ⟨o1, o2, o3⟩ := j4 (by omega) (by omega)
    have hE : EfH c M (M.load th 399) none := .same hc2 hl fun a _ => rfl
    simp only [SnapS.step]
    by_cases hmm : (slH c most).most ≤ M.peek (slH c most).cam
    · simp only [if_pos hmm]
      exact ⟨⟨rfl, fun _ => hi, fun h => absurd h (by simp), fun _ _ => ⟨o1, o2, o3⟩, fun h => absurd h (by simp)⟩, .inl ⟨hE, fun _ _ => ⟨by simp, by simp⟩, fun h => absurd h (by simp)⟩⟩
    · simp only [if_neg hmm]
      have hmm' : M.peek 399 < most := by have : ¬ most ≤ M.peek 399 := hmm; omega
      exact ⟨⟨rfl, fun _ => hi, fun h => absurd h (by simp), fun _ _ => ⟨o1, o2, o3⟩, fun _ => by show M.peek 399 < _; omega⟩, .inl ⟨hE, fun _ _ => ⟨by simp, by simp⟩, fun h => absurd h (by simp)⟩⟩
  · obtain ⟨o1, o2, o3⟩ := j4 (by omega) (by omega)
    have t1 := j7 (.inl rfl)
    simp only [SnapS.step]
    have hE : EfH c M (M.cas th 399 t (addM t 1)) none := .same hc2 ((len_cas ..).trans hl) fun a ha => by rw [peek_cas, if_neg (fun q => ha q.2.symm)]
    have hWi : WH (M.cas th 399 t (addM t 1)) i = WH M i := hE.oth i hi (by simp)
    exact ⟨⟨rfl, fun _ => hi, fun h => absurd h (by simp), fun _ _ => ⟨o1, by rw [← o2]; exact congrArg genW hWi, (congrArg kindW hWi).trans o3⟩, fun _ => t1⟩, .inl ⟨hE, fun _ _ => ⟨by simp, by simp⟩, fun h => absurd h (by simp)⟩⟩
  · obtain ⟨o1, o2, o3⟩ := j4 (by omega) (by omega)
    have t1 := j7 (.inr rfl)
    simp only [SnapS.step, SnapS.cell, hcell]
    obtain ⟨hE, hW⟩ := EfH.at (c := c) (i := i) (M := M) (M' := M.store th (1 + i) (slotW 3 gen t)) (x := slotW 3 gen t) ((len_store ..).trans hl) fun a => peek_store' (by omega) th _ a
    obtain ⟨q1, q2⟩ := slot_kg (k := 3) (g := gen) (t := t) (by omega)
    have q3 := slot_st (k := 3) (g := gen) (by omega) t1
    exact ⟨sh8 rfl rfl, .inr ⟨hE, .hold rfl (by show genW (WH _ i) = genW (WH M i); rw [hW, q2, o2]; omega) (by show kindW (WH _ i) = 3; rw [hW, q1]) (by show stampW (WH _ i) = t; rw [hW, q3]) rfl rfl rfl rfl rfl rfl⟩⟩
  · obtain ⟨o1, o2, o3⟩ := j4 (by omega) (by omega)
    simp only [SnapS.step, SnapS.cell, hcell]
    obtain ⟨hE, hW⟩ := EfH.at (c := c) (i := i) (M := M) (M' := M.store th (1 + i) (slotW 0 gen 0)) (x := slotW 0 gen 0) ((len_store ..).trans hl) fun a => peek_store' (by omega) th _ a
    obtain ⟨q1, q2⟩ := slot_kg (k := 0) (g := gen) (t := 0) (by omega)
    exact ⟨sh8 rfl rfl, .inr ⟨hE, .give rfl (by show genW (WH _ i) = genW (WH M i); rw [hW, q2, o2]; omega) (by show kindW (WH _ i) = 0; rw [hW, q1]) rfl (by simp)⟩⟩
structure LtH (c most : Nat) (s : LetS) : Prop where
  sl : s.sl = slH c most
  er : s.at_ < 2 → s.err = 0
  a1 : s.at_ = 1 → hOk s.h = true ∧ s.h % 65536 - 1 < c ∧ s.slot = 1 + (s.h % 65536 - 1) ∧ kindW s.w = 3 ∧ genW s.w = s.h / 65536 ∧ s.gen = s.h / 65536
theorem hOk_out {h : Nat} (q : hOk h = true) : 1 ≤ h % 65536 ∧ h % 65536 ≤ 256 ∧ h / 65536 < 1048576 := by
  unfold hOk at q
  simp only [Bool.and_eq_true, decide_eq_true_eq] at q
  exact q
theorem letH_eff {c most : Nat} (hc2 : c ≤ 256) {M : Mem} (hl : M.cells.length = 400) {s : LetS} (hat : s.at_ < 2) (J : LtH c most s) (hg : ∀ i, i < c → kindW (WH M i) ≠ 0 → genW (WH M i) < 1048575) (th : Int) :
    LtH c most (s.step M th).1 ∧ (s.step M th).1.h = s.h ∧
    ((EfH c M (s.step M th).2 none ∧ ((s.step M th).1.at_ = 2 → (s.step M th).1.err ≠ 0)) ∨
     (hOk s.h = true ∧ s.h % 65536 - 1 < c ∧ EfH c M (s.step M th).2 (some (s.h % 65536 - 1)) ∧ kindW (WH M (s.h % 65536 - 1)) = 3 ∧ genW (WH M (s.h % 65536 - 1)) = s.h / 65536 ∧ kindW (WH (s.step M th).2 (s.h % 65536 - 1)) = 0 ∧ genW (WH (s.step M th).2 (s.h % 65536 - 1)) = s.h / 65536 + 1 ∧ (s.step M th).1.at_ = 2)) := by
  obtain ⟨sl, h, at_, slot, w, gen, err⟩ := s
  obtain ⟨j1, j2, j3⟩ := J
  simp only at j1 j2 j3 hat
  subst j1
  have he := j2 hat
  subst he
  have hcn := cntH (most := most) hc2
  rcases (by omega : at_ = 0 ∨ at_ = 1) with rfl | rfl
  · simp only [LetS.step]
    cases hth : LetS.there ⟨slH c most, h, 0, slot, w, gen, 0⟩ with
    | false =>
      simp only [Bool.false_eq_true, if_false]
      exact ⟨⟨rfl, fun q => absurd q (by simp), fun q => absurd q (by simp)⟩, by simp, .inl ⟨.same hc2 hl fun a _ => rfl, fun _ => by simp⟩⟩
    | true =>
      unfold LetS.there at hth
      simp only [Bool.and_eq_true, decide_eq_true_eq, hcn] at hth
      obtain ⟨k1, k2⟩ := hth
      have hcell : addM (slH c most).first (h % 65536 - 1) = 1 + (h % 65536 - 1) := addM1 (by omega)
      simp only [if_true, hcell]
      have hE : EfH c M (M.load th (1 + (h % 65536 - 1))) none := .same hc2 hl fun a _ => rfl
      by_cases hk : kindW (M.peek (1 + (h % 65536 - 1))) = 3 ∧ genW (M.peek (1 + (h % 65536 - 1))) = h / 65536
      · simp only [if_pos hk]
        exact ⟨⟨rfl, fun _ => rfl, fun _ => ⟨k1, k2, rfl, hk.1, hk.2, rfl⟩⟩, by simp, .inl ⟨hE, fun q => absurd q (by simp)⟩⟩
      · simp only [if_neg hk]
        exact ⟨⟨rfl, fun q => absurd q (by simp), fun q => absurd q (by simp)⟩, by simp, .inl ⟨hE, fun _ => by simp⟩⟩
  · obtain ⟨k1, k2, k3, k4, k5, k6⟩ := j3 rfl
    subst k3 k6
    simp only [LetS.step]
    cases hsw : M.swaps (1 + (h % 65536 - 1)) w with
    | false =>
      have hE : EfH c M (M.cas th (1 + (h % 65536 - 1)) w (slotW 0 (addM (h / 65536) 1) 0)) none := .same hc2 ((len_cas ..).trans hl) fun a _ => by rw [peek_cas, hsw]; simp
      exact ⟨⟨rfl, fun q => absurd q (by simp), fun q => absurd q (by simp)⟩, by simp, .inl ⟨hE, fun _ => by simp⟩⟩
    | true =>
      have hw : WH M (h % 65536 - 1) = w := swaps_eq hsw
      have hgl := hg _ k2 (by rw [hw, k4]; omega)
      rw [hw, k5] at hgl
      have hadd : addM (h / 65536) 1 = h / 65536 + 1 := Nat.mod_eq_of_lt (by show h / 65536 + 1 < _; omega)
      obtain ⟨hE, hW⟩ := EfH.at (c := c) (i := h % 65536 - 1) (M := M) (M' := M.cas th (1 + (h % 65536 - 1)) w (slotW 0 (addM (h / 65536) 1) 0)) (x := slotW 0 (addM (h / 65536) 1) 0) ((len_cas ..).trans hl) fun a => by rw [peek_cas, hsw]; simp
      obtain ⟨q1, q2⟩ := slot_kg (k := 0) (g := addM (h / 65536) 1) (t := 0) (by omega)
      refine ⟨⟨rfl, fun q => absurd q (by simp), fun q => absurd q (by simp)⟩, by simp, .inr ⟨k1, k2, hE, by rw [hw]; exact k4, by rw [hw]; exact k5, by rw [hW, q1], by rw [hW, q2, hadd]; omega, by simp⟩⟩
end Go.Proofs.YtocphcgcpjcfjaaGreat

set_option linter.unusedVariables false
set_option linter.unusedSimpArgs false
namespace Go.Proofs.YtocphcgcpjcfjaaGreat
open Go Go.CM
def FinS (q : Q14) : Prop := q.c.kind = Int.ofNat 0 ∧ 0 ≤ q.to ∧ q.s.sn.err = 0
def FinR (q : Q14) : Prop := q.c.kind = Int.ofNat 1 ∧ 0 ≤ q.to ∧ q.s.lt.err = 0
def Owns (q : Q14) (i : Nat) : Prop := q.c.kind = Int.ofNat 0 ∧ 2 ≤ q.s.sn.at_ ∧ q.s.sn.at_ ≤ 7 ∧ q.s.sn.i = i
def Good (o : Q14) : Prop := (o.c.kind = Int.ofNat 2 ∧ o.op.hd = true) ∨ (o.c.kind = Int.ofNat 3 ∧ o.cl.hd = true ∧ o.cl.t = o.c.st)
structure Chk (all : List Q14) (o : Q14) : Prop where
  tt : o.to = Int.ofNat o.from_
  dn2 : o.c.kind = Int.ofNat 2 → o.op.dn = true
  dn3 : o.c.kind = Int.ofNat 3 → o.cl.dn = true
  may : Good o → ∃ (a : Nat) (q : Q14), all[a]? = some q ∧ FinS q ∧ q.s.sn.handle = o.c.h ∧ Int.ofNat q.from_ < o.to
  over : Good o → ∀ (a : Nat) q, all[a]? = some q → FinR q → q.c.h = o.c.h → ¬ q.to < Int.ofNat o.from_
  yes : ∀ (a : Nat) q, all[a]? = some q → FinS q → q.s.sn.handle = o.c.h → q.to < Int.ofNat o.from_ → (∀ (b : Nat) r, all[b]? = some r → r.c.kind = Int.ofNat 1 → r.c.h = o.c.h → ¬ Int.ofNat r.from_ < o.to) →
    (o.c.kind = Int.ofNat 2 → o.op.hd = true ∧ o.op.t = q.s.sn.stamp) ∧ (o.c.kind = Int.ofNat 3 → (Good o ↔ o.c.st = q.s.sn.stamp))
structure QJ (c most : Nat) (M : Mem) (q : Q14) : Prop where
  sn : q.c.kind = Int.ofNat 0 → SnH c most M q.s.sn
  lt : q.c.kind = Int.ofNat 1 → LtH c most q.s.lt ∧ q.s.lt.h = q.c.h
structure InvH (c most : Nat) (g : R14) (j : Nat) : Prop where
  len : g.M.cells.length = 400
  pj : ∀ (k b : Nat) q, g.now[k]? = some (some b) → g.all[b]? = some q → QJ c most g.M q ∧ q.to = Int.negSucc 0
  own : ∀ (k k' b b' : Nat) q q' i, k ≠ k' → g.now[k]? = some (some b) → g.now[k']? = some (some b') → g.all[b]? = some q → g.all[b']? = some q' → Owns q i → Owns q' i → False
  gen : ∀ i, i < c → kindW (WH g.M i) ≠ 0 → genW (WH g.M i) < 1048575
  held : ∀ i, i < c → kindW (WH g.M i) = 3 → ∃ (b : Nat) (q : Q14), g.all[b]? = some q ∧ FinS q ∧ q.s.sn.handle = hnd i (genW (WH g.M i)) ∧ q.s.sn.stamp = stampW (WH g.M i)
  told : ∀ (b : Nat) q, g.all[b]? = some q → FinS q → ∃ i gn, i < c ∧ gn < 1048575 ∧ q.s.sn.handle = hnd i gn ∧ (gn < genW (WH g.M i) ∨ (gn = genW (WH g.M i) ∧ kindW (WH g.M i) = 3 ∧ stampW (WH g.M i) = q.s.sn.stamp))
  relb : ∀ i gn, i < c → gn < genW (WH g.M i) → ∃ (b : Nat) (q : Q14), g.all[b]? = some q ∧ q.c.kind = Int.ofNat 1 ∧ q.c.h = hnd i gn
  relr : ∀ (b : Nat) q, g.all[b]? = some q → FinR q → ∃ i gn, i < c ∧ q.c.h = hnd i gn ∧ gn < genW (WH g.M i)
  frm : ∀ (b : Nat) q, g.all[b]? = some q → q.from_ < j ∧ q.to < Int.ofNat j
  chk : ∀ (b : Nat) o, g.all[b]? = some o → (o.c.kind = Int.ofNat 2 ∨ o.c.kind = Int.ofNat 3) → 0 ≤ o.to → Chk g.all o
inductive ChgH (c : Nat) (M M' : Mem) (q q' : Q14) : Prop where
  | none : (∀ i, i < c → WH M' i = WH M i) → (∀ i, Owns q' i → Owns q i) → ¬ FinS q' → ¬ FinR q' → ChgH c M M' q q'
  | own (i : Nat) : i < c → (∀ i', i' < c → i' ≠ i → WH M' i' = WH M i') → genW (WH M' i) = genW (WH M i) → kindW (WH M' i) ≠ 3 → genW (WH M i) < 1048575 → (kindW (WH M i) = 0 ∨ Owns q i) → (∀ i', Owns q' i' → i' = i) → ¬ FinS q' → ¬ FinR q' → ChgH c M M' q q'
  | hold (i : Nat) : i < c → (∀ i', i' < c → i' ≠ i → WH M' i' = WH M i') → genW (WH M' i) = genW (WH M i) → kindW (WH M' i) = 3 → Owns q i → (∀ i', ¬ Owns q' i') → q'.s.sn.handle = hnd i (genW (WH M i)) → q'.s.sn.stamp = stampW (WH M' i) → FinS q' → ¬ FinR q' → ChgH c M M' q q'
  | rel (i : Nat) : i < c → (∀ i', i' < c → i' ≠ i → WH M' i' = WH M i') → kindW (WH M i) = 3 → genW (WH M' i) = genW (WH M i) + 1 → kindW (WH M' i) = 0 → (∀ i', ¬ Owns q' i') → q.c.h = hnd i (genW (WH M i)) → q.c.kind = Int.ofNat 1 → ¬ FinS q' → ChgH c M M' q q'
theorem ownH_kind {c most : Nat} {M : Mem} {q : Q14} (J : QJ c most M q) {i : Nat} (h : Owns q i) : i < c ∧ (kindW (WH M i) = 1 ∨ kindW (WH M i) = 2) ∧ genW (WH M i) < 1048575 := by
  obtain ⟨h1, h2, h3, h4⟩ := h
  subst h4
  obtain ⟨o1, o2, o3⟩ := (J.sn h1).own h2 h3
  refine ⟨(J.sn h1).i0 h3, ?_, by rw [o2]; exact o1⟩
  rw [o3]
  split
  · exact .inl rfl
  · exact .inr rfl
theorem chgH_gen {c : Nat} {M M' : Mem} {q q' : Q14} (h : ChgH c M M' q q') {i : Nat} (hi : i < c) : genW (WH M i) ≤ genW (WH M' i) := by
  cases h with
  | none h1 _ _ _ => rw [h1 i hi]; exact Nat.le_refl _
  | own i0 _ h2 h3 _ _ _ _ _ _ =>
    by_cases e : i = i0
    · subst e; omega
    · rw [h2 i hi e]; exact Nat.le_refl _
  | hold i0 _ h2 h3 _ _ _ _ _ _ _ =>
    by_cases e : i = i0
    · subst e; omega
    · rw [h2 i hi e]; exact Nat.le_refl _
  | rel i0 _ h2 _ h4 _ _ _ _ _ =>
    by_cases e : i = i0
    · subst e; omega
    · rw [h2 i hi e]; exact Nat.le_refl _
theorem qj_mono {c most : Nat} {M M' : Mem} {q : Q14} (J : QJ c most M q) (hW : ∀ i, Owns q i → WH M' i = WH M i) : QJ c most M' q := by
  refine ⟨fun h => ?_, J.lt⟩
  obtain ⟨j1, j2, j3, j4, j7⟩ := J.sn h
  exact ⟨j1, j2, j3, fun h1 h2 => by rw [hW _ ⟨h, h1, h2, rfl⟩]; exact j4 h1 h2, j7⟩
theorem noS_of {q : Q14} (h : q.to = Int.negSucc 0) : ¬ FinS q := fun f => by have := f.2.1; rw [h] at this; exact absurd this (by decide)
theorem noR_of {q : Q14} (h : q.to = Int.negSucc 0) : ¬ FinR q := fun f => by have := f.2.1; rw [h] at this; exact absurd this (by decide)
theorem chk_set {all : List Q14} {o q q' : Q14} {b j : Nat} (C : Chk all o) (hq : all[b]? = some q) (hto : q.to = Int.negSucc 0) (hc : q'.c = q.c) (hf : q'.from_ = q.from_) (hto' : q'.to = Int.ofNat j ∨ q'.to = Int.negSucc 0) (ho : o.to < Int.ofNat (j + 1)) : Chk (all.set b q') o := by
  have hbl := (List.getElem?_eq_some_iff.1 hq).1
  have lk : ∀ (a : Nat) z, (all.set b q')[a]? = some z → (b = a ∧ z = q') ∨ (b ≠ a ∧ all[a]? = some z) := fun a z h => by
    rw [List.getElem?_set] at h
    by_cases e : b = a
    · rw [if_pos e, if_pos hbl] at h; cases h; exact .inl ⟨e, rfl⟩
    · rw [if_neg e] at h; exact .inr ⟨e, h⟩
  have hlt : ∀ {x : Q14}, 0 ≤ x.to → x = q' → ¬ x.to < Int.ofNat o.from_ := fun {x} h0 e hl => by
    subst e
    rw [C.tt] at ho
    rcases hto' with h | h
    · rw [h] at hl
      have h1 : j < o.from_ := Int.ofNat_lt.1 hl
      have h2 : o.from_ < j + 1 := Int.ofNat_lt.1 ho
      omega
    · rw [h] at h0; exact absurd h0 (by decide)
  refine ⟨C.tt, C.dn2, C.dn3, fun hg => ?_, fun hg a z h1 h2 h3 => ?_, fun a z h1 h2 h3 h4 h5 => ?_⟩
  · obtain ⟨a, z, z1, z2, z3⟩ := C.may hg
    have e : b ≠ a := fun e => by subst e; rw [hq] at z1; cases z1; exact noS_of hto z2
    exact ⟨a, z, by rw [List.getElem?_set_ne e]; exact z1, z2, z3⟩
  · rcases lk a z h1 with ⟨_, e⟩ | ⟨_, h1⟩
    · exact hlt h2.2.1 e
    · exact C.over hg a z h1 h2 h3
  · rcases lk a z h1 with ⟨_, e⟩ | ⟨_, h1⟩
    · exact absurd h4 (hlt h2.2.1 e)
    · refine C.yes a z h1 h2 h3 h4 fun b' r r1 r2 r3 => ?_
      by_cases e : b = b'
      · subst e
        rw [hq] at r1
        cases r1
        have := h5 b q' (List.getElem?_set_self hbl) (by rw [hc]; exact r2) (by rw [hc]; exact r3)
        rw [hf] at this
        exact this
      · exact h5 b' r (by rw [List.getElem?_set_ne e]; exact r1) r2 r3
theorem chk_app {all : List Q14} {o n : Q14} {j : Nat} (C : Chk all o) (hS : FinS n → False) (hR : FinR n → False) : Chk (all ++ [n]) o := by
  have lk : ∀ (a : Nat) z, (all ++ [n])[a]? = some z → all[a]? = some z ∨ z = n := fun a z h => by
    by_cases hb : a < all.length
    · rw [List.getElem?_append_left hb] at h; exact .inl h
    · rw [List.getElem?_append_right (by omega)] at h
      cases e : a - all.length with
      | zero => rw [e] at h; cases h; exact .inr rfl
      | succ n => rw [e] at h; simp at h
  have kp : ∀ (a : Nat) z, all[a]? = some z → (all ++ [n])[a]? = some z := fun a z h => by rw [List.getElem?_append_left (List.getElem?_eq_some_iff.1 h).1]; exact h
  refine ⟨C.tt, C.dn2, C.dn3, fun hg => ?_, fun hg a z h1 h2 h3 => ?_, fun a z h1 h2 h3 h4 h5 => ?_⟩
  · obtain ⟨a, z, z1, z2⟩ := C.may hg
    exact ⟨a, z, kp a z z1, z2⟩
  · rcases lk a z h1 with h1 | e
    · exact C.over hg a z h1 h2 h3
    · exact (hR (e ▸ h2)).elim
  · rcases lk a z h1 with h1 | e
    · exact C.yes a z h1 h2 h3 h4 fun b r r1 r2 r3 => h5 b r (kp b r r1) r2 r3
    · exact (hS (e ▸ h2)).elim
theorem invH_core {c most : Nat} (hc256 : c ≤ 256) {g : R14} {j k b : Nat} (I : InvH c most g (j + 1)) {q q' : Q14} {M' : Mem} {fin : Bool} {at_ : List Nat}
    (hnow : g.now[k]? = some (some b)) (hq : g.all[b]? = some q) (hinj : ∀ k', g.now[k']? = some (some b) → k' = k)
    (hl : M'.cells.length = 400) (hc : q'.c = q.c) (hf : q'.from_ = q.from_) (hto' : q'.to = if fin then Int.ofNat j else Int.negSucc 0) (hJ : QJ c most M' q')
    (hC : ChgH c g.M M' q q') (hnk : ¬ (q.c.kind = Int.ofNat 2 ∨ q.c.kind = Int.ofNat 3)) :
    InvH c most { M := M', now := g.now.set k (if fin then none else some b), at_ := at_, all := g.all.set b q' } (j + 1) := by
  obtain ⟨hJ0, hto⟩ := I.pj k b q hnow hq
  have hkl : k < g.now.length := (List.getElem?_eq_some_iff.1 hnow).1
  have hbl : b < g.all.length := (List.getElem?_eq_some_iff.1 hq).1
  have noS := noS_of hto
  have noR := noR_of hto
  have lk : ∀ (a : Nat) z, (g.all.set b q')[a]? = some z → (b = a ∧ z = q') ∨ (b ≠ a ∧ g.all[a]? = some z) := fun a z h => by
    rw [List.getElem?_set] at h
    by_cases e : b = a
    · rw [if_pos e, if_pos hbl] at h; cases h; exact .inl ⟨e, rfl⟩
    · rw [if_neg e] at h; exact .inr ⟨e, h⟩
  have kp : ∀ (a : Nat) z, g.all[a]? = some z → (FinS z ∨ FinR z) → (g.all.set b q')[a]? = some z := fun a z h hf => by
    have e : b ≠ a := fun e => by
      subst e
      rw [hq] at h
      cases h
      rcases hf with hf | hf
      · exact noS hf
      · exact noR hf
    rw [List.getElem?_set_ne e]; exact h
  have lt : ∀ (k2 b2 : Nat), (g.now.set k (if fin then none else some b))[k2]? = some (some b2) → (k = k2 ∧ b2 = b ∧ fin = false) ∨ (k ≠ k2 ∧ b ≠ b2 ∧ g.now[k2]? = some (some b2)) := fun k2 b2 h => by
    rw [List.getElem?_set] at h
    by_cases e : k = k2
    · rw [if_pos e, if_pos hkl] at h
      cases fin with
      | true => simp at h
      | false => simp at h; exact .inl ⟨e, h.symm, rfl⟩
    · rw [if_neg e] at h; exact .inr ⟨e, fun q => e (hinj k2 (q ▸ h)).symm, h⟩
  have oth : ∀ (k2 b2 : Nat) q2 i, k ≠ k2 → g.now[k2]? = some (some b2) → g.all[b2]? = some q2 → Owns q2 i → WH M' i = WH g.M i := fun k2 b2 q2 i hne h1 h2 h3 => by
    obtain ⟨o1, o2, o3⟩ := ownH_kind (I.pj k2 b2 q2 h1 h2).1 h3
    have no : Owns q i → False := fun h4 => I.own k k2 b b2 q q2 i hne hnow h1 hq h2 h4 h3
    cases hC with
    | none q1 _ _ _ => exact q1 i o1
    | own i0 _ q2 _ _ _ q6 _ _ _ =>
      by_cases e : i = i0
      · subst e
        rcases q6 with q6 | q6
        · omega
        · exact (no q6).elim
      · exact q2 i o1 e
    | hold i0 _ q2 _ _ q5 _ _ _ _ _ =>
      by_cases e : i = i0
      · subst e; exact (no q5).elim
      · exact q2 i o1 e
    | rel i0 _ q2 q3 _ _ _ _ _ _ =>
      by_cases e : i = i0
      · subst e; omega
      · exact q2 i o1 e
  have ou : ∀ (k2 b2 : Nat) q2 i, k ≠ k2 → g.now[k2]? = some (some b2) → g.all[b2]? = some q2 → Owns q' i → Owns q2 i → False := fun k2 b2 q2 i hne h1 h2 h3 h4 => by
    obtain ⟨o1, o2, o3⟩ := ownH_kind (I.pj k2 b2 q2 h1 h2).1 h4
    have no : Owns q i → False := fun h6 => I.own k k2 b b2 q q2 i hne hnow h1 hq h2 h6 h4
    cases hC with
    | none _ q2 _ _ => exact no (q2 i h3)
    | own i0 _ _ _ _ _ q6 q7 _ _ =>
      obtain rfl := q7 i h3
      rcases q6 with q6 | q6
      · omega
      · exact no q6
    | hold i0 _ _ _ _ _ q6 _ _ _ _ => exact q6 i h3
    | rel i0 _ _ _ _ _ q6 _ _ _ => exact q6 i h3
  have newS : FinS q' → ∃ i gn, i < c ∧ gn < 1048575 ∧ q'.s.sn.handle = hnd i gn ∧ genW (WH M' i) = gn ∧ kindW (WH M' i) = 3 ∧ stampW (WH M' i) = q'.s.sn.stamp := fun hf => by
    cases hC with
    | none _ _ q _ => exact absurd hf q
    | own _ _ _ _ _ _ _ _ q _ => exact absurd hf q
    | rel _ _ _ _ _ _ _ _ _ q => exact absurd hf q
    | hold i0 q1 q2 q3 q4 q5 q6 q7 q8 q9 q10 =>
      obtain ⟨o1, o2, o3⟩ := ownH_kind hJ0 q5
      exact ⟨i0, genW (WH g.M i0), q1, o3, q7, q3, q4, q8.symm⟩
  refine ⟨hl, ?_, ?_, ?_, ?_, ?_, ?_, ?_, ?_, ?_⟩
  ·
    intro k2 b2 q2 h1 h2
    rcases lt k2 b2 h1 with ⟨_, rfl, hfin⟩ | ⟨hne, hnb, h1⟩
    · have h2 : (g.all.set b2 q')[b2]? = some q2 := h2
      rw [List.getElem?_set_self hbl] at h2
      cases h2
      exact ⟨hJ, by rw [hto', hfin]; rfl⟩
    · have h2 : (g.all.set b q')[b2]? = some q2 := h2
      rw [List.getElem?_set_ne hnb] at h2
      obtain ⟨j1, j2⟩ := I.pj k2 b2 q2 h1 h2
      exact ⟨qj_mono j1 fun i ho => oth k2 b2 q2 i hne h1 h2 ho, j2⟩
  ·
    intro k1 k2 b1 b2 q1 q2 i hne2 h1 h2 a1 a2 o1 o2
    rcases lt k1 b1 h1 with ⟨ek1, eb1, _⟩ | ⟨n1, nb1, h1⟩
    · subst ek1 eb1
      rcases lt k2 b2 h2 with ⟨rfl, _, _⟩ | ⟨n2, nb2, h2⟩
      · exact hne2 rfl
      · have a1 : (g.all.set b1 q')[b1]? = some q1 := a1
        rw [List.getElem?_set_self hbl] at a1
        cases a1
        have a2 : (g.all.set b1 q')[b2]? = some q2 := a2
        rw [List.getElem?_set_ne nb2] at a2
        exact ou k2 b2 q2 i n2 h2 a2 o1 o2
    · have a1 : (g.all.set b q')[b1]? = some q1 := a1
      rw [List.getElem?_set_ne nb1] at a1
      rcases lt k2 b2 h2 with ⟨ek2, eb2, _⟩ | ⟨n2, nb2, h2⟩
      · have a2 : (g.all.set b q')[b2]? = some q2 := a2
        rw [eb2, List.getElem?_set_self hbl] at a2
        cases a2
        exact ou k1 b1 q1 i n1 h1 a1 o2 o1
      · have a2 : (g.all.set b q')[b2]? = some q2 := a2
        rw [List.getElem?_set_ne nb2] at a2
        exact I.own k1 k2 b1 b2 q1 q2 i hne2 h1 h2 a1 a2 o1 o2
  ·
    intro i hi h0
    cases hC with
    | none q1 _ _ _ => simp only [q1 i hi] at h0 ⊢; exact I.gen i hi h0
    | own i0 q1 q2 q3 _ q5 _ _ _ _ =>
      by_cases e : i = i0
      · subst e; simp only [q3]; exact q5
      · simp only [q2 i hi e] at h0 ⊢; exact I.gen i hi h0
    | hold i0 q1 q2 q3 _ q5 _ _ _ _ _ =>
      by_cases e : i = i0
      · subst e; simp only [q3]; exact (ownH_kind hJ0 q5).2.2
      · simp only [q2 i hi e] at h0 ⊢; exact I.gen i hi h0
    | rel i0 q1 q2 _ _ q5 _ _ _ _ =>
      by_cases e : i = i0
      · subst e; exact absurd q5 h0
      · simp only [q2 i hi e] at h0 ⊢; exact I.gen i hi h0
  ·
    intro i hi h3
    have same : WH M' i = WH g.M i → ∃ (a : Nat) (z : Q14), (g.all.set b q')[a]? = some z ∧ FinS z ∧ z.s.sn.handle = hnd i (genW (WH M' i)) ∧ z.s.sn.stamp = stampW (WH M' i) := fun e => by
      have h3 : kindW (WH M' i) = 3 := h3
      rw [e] at h3 ⊢
      obtain ⟨a, z, z1, z2, z3, z4⟩ := I.held i hi h3
      exact ⟨a, z, kp a z z1 (.inl z2), z2, z3, z4⟩
    cases hC with
    | none q1 _ _ _ => exact same (q1 i hi)
    | own i1 _ q2 _ q4 _ _ _ _ _ =>
      by_cases e : i = i1
      · subst e; exact absurd h3 q4
      · exact same (q2 i hi e)
    | rel i1 _ q2 _ _ q5 _ _ _ _ =>
      by_cases e : i = i1
      · subst e; have h3 : kindW (WH M' i) = 3 := h3; omega
      · exact same (q2 i hi e)
    | hold i1 q1 q2 q3 q4 q5 q6 q7 q8 q9 q10 =>
      by_cases e : i = i1
      · subst e
        exact ⟨b, q', List.getElem?_set_self hbl, q9, by show _ = hnd i (genW (WH M' i)); rw [q3]; exact q7, q8⟩
      · exact same (q2 i hi e)
  ·
    intro a z h1 hfz
    rcases lk a z h1 with ⟨_, rfl⟩ | ⟨e, h1⟩
    · obtain ⟨i, gn, n1, n2, n3, n6, n7, n8⟩ := newS hfz
      exact ⟨i, gn, n1, n2, n3, .inr ⟨n6.symm, n7, n8⟩⟩
    · obtain ⟨i, gn, n1, n2, n3, n6⟩ := I.told a z h1 hfz
      refine ⟨i, gn, n1, n2, n3, ?_⟩
      have hge := chgH_gen hC n1
      rcases n6 with n6 | ⟨n6, n7, n8⟩
      · exact .inl (by show gn < genW (WH M' i); omega)
      · have same : WH M' i = WH g.M i → gn < genW (WH M' i) ∨ gn = genW (WH M' i) ∧ kindW (WH M' i) = 3 ∧ stampW (WH M' i) = z.s.sn.stamp := fun e => by rw [e]; exact .inr ⟨n6, n7, n8⟩
        cases hC with
        | none q1 _ _ _ => exact same (q1 i n1)
        | own i1 _ q2 _ q4 _ q6 _ _ _ =>
          by_cases e : i = i1
          · subst e
            rcases q6 with q6 | q6
            · omega
            · have := (ownH_kind hJ0 q6).2.1; omega
          · exact same (q2 i n1 e)
        | rel i1 _ q2 _ q4 q5 _ _ _ _ =>
          by_cases e : i = i1
          · subst e; exact .inl (by show gn < genW (WH M' i); omega)
          · exact same (q2 i n1 e)
        | hold i1 q1 q2 q3 q4 q5 q6 q7 q8 q9 q10 =>
          by_cases e : i = i1
          · subst e; have := (ownH_kind hJ0 q5).2.1; omega
          · exact same (q2 i n1 e)
  ·
    intro i gn hi hg
    have old : gn < genW (WH g.M i) → ∃ (a : Nat) (z : Q14), (g.all.set b q')[a]? = some z ∧ z.c.kind = Int.ofNat 1 ∧ z.c.h = hnd i gn := fun hg => by
      obtain ⟨a, z, z1, z2, z3⟩ := I.relb i gn hi hg
      by_cases e : b = a
      · subst e
        rw [hq] at z1
        cases z1
        exact ⟨b, q', List.getElem?_set_self hbl, by rw [hc]; exact z2, by rw [hc]; exact z3⟩
      · exact ⟨a, z, by rw [List.getElem?_set_ne e]; exact z1, z2, z3⟩
    have hg : gn < genW (WH M' i) := hg
    cases hC with
    | none q1 _ _ _ => rw [q1 i hi] at hg; exact old hg
    | own i1 _ q2 q3 _ _ _ _ _ _ =>
      by_cases e : i = i1
      · subst e; exact old (by omega)
      · rw [q2 i hi e] at hg; exact old hg
    | hold i1 _ q2 q3 _ _ _ _ _ _ _ =>
      by_cases e : i = i1
      · subst e; exact old (by omega)
      · rw [q2 i hi e] at hg; exact old hg
    | rel i1 _ q2 _ q4 _ _ q7 q8 _ =>
      by_cases e : i = i1
      · subst e
        by_cases e2 : gn = genW (WH g.M i)
        · subst e2
          exact ⟨b, q', List.getElem?_set_self hbl, by rw [hc]; exact q8, by rw [hc]; exact q7⟩
        · exact old (by omega)
      · rw [q2 i hi e] at hg; exact old hg
  ·
    intro a z h1 hfz
    rcases lk a z h1 with ⟨_, rfl⟩ | ⟨e, h1⟩
    · cases hC with
      | none _ _ _ q => exact absurd hfz q
      | own _ _ _ _ _ _ _ _ _ q => exact absurd hfz q
      | hold _ _ _ _ _ _ _ _ _ _ q => exact absurd hfz q
      | rel i1 q1 q2 _ q4 _ _ q7 q8 _ => exact ⟨i1, genW (WH g.M i1), q1, by rw [hc]; exact q7, by show _ < genW (WH M' i1); omega⟩
    · obtain ⟨i, gn, n1, n2, n3⟩ := I.relr a z h1 hfz
      have hge := chgH_gen hC n1
      exact ⟨i, gn, n1, n2, by show gn < genW (WH M' i); omega⟩
  ·
    intro a z h1
    rcases lk a z h1 with ⟨_, rfl⟩ | ⟨_, h1⟩
    · obtain ⟨f1, _⟩ := I.frm b q hq
      refine ⟨by rw [hf]; exact f1, ?_⟩
      rw [hto']
      cases fin with
      | true => exact Int.ofNat_lt.2 (Nat.lt_succ_self j)
      | false =>
        show (Int.negSucc 0) < _
        have : Int.negSucc 0 < 0 := Int.negSucc_lt_zero 0
        have h2 : (0 : Int) ≤ Int.ofNat (j + 1) := Int.natCast_nonneg _
        omega
    · exact I.frm a z h1
  ·
    intro a o h1 hk h0
    rcases lk a o h1 with ⟨_, rfl⟩ | ⟨_, h1⟩
    · rw [hc] at hk; exact absurd hk hnk
    · exact chk_set (I.chk a o h1 hk h0) hq hto hc hf (by cases fin with | true => exact .inl hto' | false => exact .inr hto') (I.frm a o h1).2
end Go.Proofs.YtocphcgcpjcfjaaGreat

set_option linter.unusedVariables false
set_option linter.unusedSimpArgs false
namespace Go.Proofs.YtocphcgcpjcfjaaGreat
open Go Go.CM
theorem invH_mono {c most : Nat} {g : R14} {j : Nat} (I : InvH c most g j) : InvH c most g (j + 1) :=
  ⟨I.len, I.pj, I.own, I.gen, I.held, I.told, I.relb, I.relr, fun a x h => ⟨Nat.lt_succ_of_lt (I.frm a x h).1, Int.lt_trans (I.frm a x h).2 (Int.ofNat_lt.2 (Nat.lt_succ_self j))⟩, I.chk⟩
theorem app_lk {α : Type} {all : List α} {n : α} {a : Nat} {z : α} (h : (all ++ [n])[a]? = some z) : (all[a]? = some z ∧ a < all.length) ∨ (a = all.length ∧ z = n) := by
  by_cases hb : a < all.length
  · rw [List.getElem?_append_left hb] at h; exact .inl ⟨h, hb⟩
  · rw [List.getElem?_append_right (by omega)] at h
    cases e : a - all.length with
    | zero => rw [e] at h; cases h; exact .inr ⟨by omega, rfl⟩
    | succ n => rw [e] at h; simp at h
theorem app_kp {α : Type} {all : List α} {n : α} {a : Nat} {z : α} (h : all[a]? = some z) : (all ++ [n])[a]? = some z := by rw [List.getElem?_append_left (List.getElem?_eq_some_iff.1 h).1]; exact h
theorem app_last {α : Type} (all : List α) (n : α) : (all ++ [n])[all.length]? = some n := by rw [List.getElem?_append_right (Nat.le_refl _)]; simp
theorem invH_begin {c most : Nat} (hc1 : 1 ≤ c) {g : R14} {j k : Nat} (I : InvH c most g (j + 1)) (cl : C14) (at_ : List Nat) (hk : k < g.now.length) (hcur : ∀ (k2 b2 : Nat), g.now[k2]? = some (some b2) → b2 < g.all.length) :
    InvH c most { M := g.M, now := g.now.set k (some g.all.length), at_ := at_, all := g.all ++ [Q14.fresh (slH c most) cl j] } (j + 1) := by
  have noS : ¬ FinS (Q14.fresh (slH c most) cl j) := noS_of rfl
  have noR : ¬ FinR (Q14.fresh (slH c most) cl j) := noR_of rfl
  have noO : ∀ i, ¬ Owns (Q14.fresh (slH c most) cl j) i := fun i h => absurd h.2.1 (by show ¬ 2 ≤ 0; omega)
  have lt : ∀ (k2 b2 : Nat), (g.now.set k (some g.all.length))[k2]? = some (some b2) → (k = k2 ∧ b2 = g.all.length) ∨ (k ≠ k2 ∧ g.now[k2]? = some (some b2)) := fun k2 b2 h => by
    rw [List.getElem?_set] at h
    by_cases e : k = k2
    · rw [if_pos e, if_pos hk] at h; simp at h; exact .inl ⟨e, h.symm⟩
    · rw [if_neg e] at h; exact .inr ⟨e, h⟩
  have old : ∀ (k2 b2 : Nat) q2, g.now[k2]? = some (some b2) → (g.all ++ [Q14.fresh (slH c most) cl j])[b2]? = some q2 → g.all[b2]? = some q2 := fun k2 b2 q2 h1 h2 => by
    rcases app_lk h2 with ⟨h, _⟩ | ⟨h, _⟩
    · exact h
    · have := hcur k2 b2 h1; omega
  refine ⟨I.len, ?_, ?_, I.gen, ?_, ?_, ?_, ?_, ?_, ?_⟩
  · intro k2 b2 q2 h1 h2
    rcases lt k2 b2 h1 with ⟨_, rfl⟩ | ⟨_, h1⟩
    · have h2 : (g.all ++ [Q14.fresh (slH c most) cl j])[g.all.length]? = some q2 := h2
      rw [app_last] at h2
      cases h2
      refine ⟨⟨fun _ => sh0 rfl rfl (by show 0 < c; omega), fun h => ⟨⟨rfl, fun _ => rfl, fun q => by cases q⟩, ?_⟩⟩, rfl⟩
      have e : cl.kind = Int.ofNat 1 := h
      show bh cl.kind cl.h [] = cl.h
      rw [e]
      unfold bh
      rw [ltZ_f (Nat.zero_le 1), ltZ_f (show 1 ≤ 2 by omega)]
      rfl
    · exact I.pj k2 b2 q2 h1 (old k2 b2 q2 h1 h2)
  · intro k1 k2 b1 b2 q1 q2 i hne h1 h2 a1 a2 o1 o2
    rcases lt k1 b1 h1 with ⟨_, rfl⟩ | ⟨_, h1⟩
    · have a1 : (g.all ++ [Q14.fresh (slH c most) cl j])[g.all.length]? = some q1 := a1
      rw [app_last] at a1
      cases a1
      exact noO i o1
    · rcases lt k2 b2 h2 with ⟨_, rfl⟩ | ⟨_, h2⟩
      · have a2 : (g.all ++ [Q14.fresh (slH c most) cl j])[g.all.length]? = some q2 := a2
        rw [app_last] at a2
        cases a2
        exact noO i o2
      · exact I.own k1 k2 b1 b2 q1 q2 i hne h1 h2 (old k1 b1 q1 h1 a1) (old k2 b2 q2 h2 a2) o1 o2
  · intro i hi h3
    obtain ⟨b, z, z1, z2⟩ := I.held i hi h3
    exact ⟨b, z, app_kp z1, z2⟩
  · intro b z h1 hf
    rcases app_lk h1 with ⟨h1, _⟩ | ⟨_, rfl⟩
    · exact I.told b z h1 hf
    · exact absurd hf noS
  · intro i gn hi hg
    obtain ⟨b, z, z1, z2⟩ := I.relb i gn hi hg
    exact ⟨b, z, app_kp z1, z2⟩
  · intro b z h1 hf
    rcases app_lk h1 with ⟨h1, _⟩ | ⟨_, rfl⟩
    · exact I.relr b z h1 hf
    · exact absurd hf noR
  · intro b z h1
    rcases app_lk h1 with ⟨h1, _⟩ | ⟨_, rfl⟩
    · exact I.frm b z h1
    · refine ⟨Nat.lt_succ_self j, ?_⟩
      show (Int.negSucc 0) < ((j + 1 : Nat) : Int)
      have : Int.negSucc 0 < 0 := Int.negSucc_lt_zero 0
      omega
  · intro b o h1 hko h0
    rcases app_lk h1 with ⟨h1, _⟩ | ⟨_, rfl⟩
    · exact chk_app (j := j) (I.chk b o h1 hko h0) noS noR
    · exact absurd (show (0 : Int) ≤ Int.negSucc 0 from h0) (by decide)
theorem invH_look {c most : Nat} {g : R14} {j k : Nat} (I : InvH c most g j) {q' : Q14} {M' : Mem} (at_ : List Nat) (hl : M'.cells.length = 400) (hp : ∀ i, i < c → WH M' i = WH g.M i) (hk0 : q'.c.kind ≠ Int.ofNat 0) (hk1 : q'.c.kind ≠ Int.ofNat 1)
    (hf : q'.from_ = j) (hto : q'.to = Int.ofNat j) (hk : k < g.now.length) (hcur : ∀ (k2 b2 : Nat), g.now[k2]? = some (some b2) → b2 < g.all.length) (hchk : q'.c.kind = Int.ofNat 2 ∨ q'.c.kind = Int.ofNat 3 → Chk (g.all ++ [q']) q') :
    InvH c most { M := M', now := g.now.set k none, at_ := at_, all := g.all ++ [q'] } (j + 1) := by
  have noS : ¬ FinS q' := fun h => hk0 h.1
  have noR : ¬ FinR q' := fun h => hk1 h.1
  have lt : ∀ (k2 b2 : Nat), (g.now.set k none)[k2]? = some (some b2) → k ≠ k2 ∧ g.now[k2]? = some (some b2) := fun k2 b2 h => by
    rw [List.getElem?_set] at h
    by_cases e : k = k2
    · rw [if_pos e, if_pos hk] at h; simp at h
    · rw [if_neg e] at h; exact ⟨e, h⟩
  have old : ∀ (k2 b2 : Nat) q2, g.now[k2]? = some (some b2) → (g.all ++ [q'])[b2]? = some q2 → g.all[b2]? = some q2 := fun k2 b2 q2 h1 h2 => by
    rcases app_lk h2 with ⟨h, _⟩ | ⟨h, _⟩
    · exact h
    · have := hcur k2 b2 h1; omega
  refine ⟨hl, ?_, ?_, fun i hi h0 => ?_, ?_, ?_, ?_, ?_, ?_, ?_⟩
  · intro k2 b2 q2 h1 h2
    obtain ⟨_, h1⟩ := lt k2 b2 h1
    obtain ⟨j1, j2⟩ := I.pj k2 b2 q2 h1 (old k2 b2 q2 h1 h2)
    exact ⟨qj_mono j1 fun i ho => hp i (ownH_kind j1 ho).1, j2⟩
  · intro k1 k2 b1 b2 q1 q2 i hne h1 h2 a1 a2 o1 o2
    obtain ⟨_, h1⟩ := lt k1 b1 h1
    obtain ⟨_, h2⟩ := lt k2 b2 h2
    exact I.own k1 k2 b1 b2 q1 q2 i hne h1 h2 (old k1 b1 q1 h1 a1) (old k2 b2 q2 h2 a2) o1 o2
  · simp only [hp i hi] at h0 ⊢; exact I.gen i hi h0
  · intro i hi h3
    simp only [hp i hi] at h3 ⊢
    obtain ⟨b, z, z1, z2⟩ := I.held i hi h3
    exact ⟨b, z, app_kp z1, z2⟩
  · intro b z h1 hfz
    rcases app_lk h1 with ⟨h1, _⟩ | ⟨_, rfl⟩
    · obtain ⟨i, gn, n1, n2⟩ := I.told b z h1 hfz
      exact ⟨i, gn, n1, by simp only [hp i n1]; exact n2⟩
    · exact absurd hfz noS
  · intro i gn hi hg
    simp only [hp i hi] at hg
    obtain ⟨b, z, z1, z2⟩ := I.relb i gn hi hg
    exact ⟨b, z, app_kp z1, z2⟩
  · intro b z h1 hfz
    rcases app_lk h1 with ⟨h1, _⟩ | ⟨_, rfl⟩
    · obtain ⟨i, gn, n1, n2⟩ := I.relr b z h1 hfz
      exact ⟨i, gn, n1, by simp only [hp i n1]; exact n2⟩
    · exact absurd hfz noR
  · intro b z h1
    rcases app_lk h1 with ⟨h1, _⟩ | ⟨_, rfl⟩
    · exact (invH_mono I).frm b z h1
    · exact ⟨by rw [hf]; exact Nat.lt_succ_self j, by rw [hto]; exact Int.ofNat_lt.2 (Nat.lt_succ_self j)⟩
  · intro b o h1 hko h0
    rcases app_lk h1 with ⟨h1, _⟩ | ⟨_, rfl⟩
    · exact chk_app (j := j) (I.chk b o h1 hko h0) noS noR
    · exact hchk hko
theorem holdsH {c most h : Nat} (hc2 : c ≤ 256) {M : Mem} : (hHolds (slH c most) h M = true → ∃ i, i < c ∧ kindW (WH M i) = 3 ∧ h = hnd i (genW (WH M i)) ∧ hWord (slH c most) h M = WH M i) ∧
    (∀ i, i < c → kindW (WH M i) = 3 → h = hnd i (genW (WH M i)) → hHolds (slH c most) h M = true ∧ hWord (slH c most) h M = WH M i) := by
  have hcn := cntH (most := most) hc2
  constructor
  · intro q
    unfold hHolds hThere hOk at q
    rw [hcn] at q
    simp only [Bool.and_eq_true, decide_eq_true_eq] at q
    obtain ⟨⟨⟨h1, h2, h3⟩, h4⟩, h5, h6⟩ := q
    have ew : hWord (slH c most) h M = WH M (h % 65536 - 1) := by
      show M.peek (addM 1 (h % 65536 - 1)) = _
      rw [addM1 (by omega)]; rfl
    rw [ew] at h5 h6
    have e5 := Nat.eq_of_beq_eq_true h5
    have e6 := Nat.eq_of_beq_eq_true h6
    exact ⟨h % 65536 - 1, h4, e5, by rw [e6]; unfold hnd; omega, ew⟩
  · intro i hi h3 hh
    have hg := genW_lt (WH M i)
    have e1 : h % 65536 = i + 1 := by rw [hh]; unfold hnd; omega
    have e2 : h / 65536 = genW (WH M i) := by rw [hh]; unfold hnd; omega
    have ew : hWord (slH c most) h M = WH M i := by
      show M.peek (addM 1 (h % 65536 - 1)) = _
      rw [e1, Nat.add_sub_cancel, addM1 (by omega)]; rfl
    refine ⟨?_, ew⟩
    unfold hHolds hThere hOk
    rw [ew, hcn, e1, e2]
    simp only [Bool.and_eq_true, decide_eq_true_eq]
    exact ⟨⟨⟨by omega, by omega, hg⟩, by omega⟩, eqN_t h3, eqN_self _⟩
theorem chk_new {c most : Nat} (hc2 : c ≤ 256) {g : R14} {j : Nat} (I : InvH c most g j) {o : Q14} (hf : o.from_ = j) (hto : o.to = Int.ofNat j) (hk : o.c.kind = Int.ofNat 2 ∨ o.c.kind = Int.ofNat 3)
    (h2 : o.c.kind = Int.ofNat 2 → o.op.dn = true ∧ o.op.hd = hHolds (slH c most) o.c.h g.M ∧ (hHolds (slH c most) o.c.h g.M = true → o.op.t = stampW (hWord (slH c most) o.c.h g.M)))
    (h3 : o.c.kind = Int.ofNat 3 → o.cl.dn = true ∧ o.cl.hd = hHolds (slH c most) o.c.h g.M ∧ (hHolds (slH c most) o.c.h g.M = true → o.cl.t = stampW (hWord (slH c most) o.c.h g.M))) : Chk (g.all ++ [o]) o := by
  have noS : ¬ FinS o := fun h => by rcases hk with q | q <;> rw [h.1] at q <;> exact absurd q (by decide)
  have noR : ¬ FinR o := fun h => by rcases hk with q | q <;> rw [h.1] at q <;> exact absurd q (by decide)
  have gd : Good o → hHolds (slH c most) o.c.h g.M = true := fun h => by
    rcases h with ⟨a, b⟩ | ⟨a, b, _⟩
    · rw [← (h2 a).2.1]; exact b
    · rw [← (h3 a).2.1]; exact b
  have hH := holdsH (c := c) (most := most) (h := o.c.h) hc2 (M := g.M)
  refine ⟨by rw [hf]; exact hto, fun h => (h2 h).1, fun h => (h3 h).1, fun hg => ?_, fun hg a z h1 hz1 hz2 => ?_, fun a z h1 hz1 hz2 hz3 hz4 => ?_⟩
  · obtain ⟨i, i1, i2, i3, _⟩ := hH.1 (gd hg)
    obtain ⟨b, z, z1, z2, z3, _⟩ := I.held i i1 i2
    exact ⟨b, z, app_kp z1, z2, z3.trans i3.symm, by rw [hto]; exact Int.ofNat_lt.2 (I.frm b z z1).1⟩
  · rcases app_lk h1 with ⟨h1, _⟩ | ⟨_, rfl⟩
    · obtain ⟨i, i1, i2, i3, _⟩ := hH.1 (gd hg)
      obtain ⟨i', gn, n1, n2, n3⟩ := I.relr a z h1 hz1
      obtain ⟨e1, e2⟩ := hnd_inj (by omega) (by omega) ((n2.symm.trans hz2).trans i3)
      subst e1
      omega
    · exact absurd hz1 noR
  · rcases app_lk h1 with ⟨h1, _⟩ | ⟨_, rfl⟩
    · obtain ⟨i, gn, n1, n2, n3, n4⟩ := I.told a z h1 hz1
      rcases n4 with n4 | ⟨n4, n5, n6⟩
      · obtain ⟨b, r, r1, r2, r3⟩ := I.relb i gn n1 n4
        refine absurd ?_ (hz4 b r (app_kp r1) r2 ?_)
        · rw [hto]; exact Int.ofNat_lt.2 (I.frm b r r1).1
        · rw [r3, ← hz2, n3]
      · obtain ⟨g1, g2⟩ := hH.2 i n1 n5 (by rw [← hz2, n3, n4])
        refine ⟨fun e => ⟨by rw [(h2 e).2.1]; exact g1, by rw [(h2 e).2.2 g1, g2]; exact n6⟩, fun e => ?_⟩
        have et : o.cl.t = z.s.sn.stamp := by rw [(h3 e).2.2 g1, g2]; exact n6
        have eh : o.cl.hd = true := by rw [(h3 e).2.1]; exact g1
        constructor
        · rintro (⟨a, _⟩ | ⟨_, _, a⟩)
          · rw [e] at a; exact absurd a (by decide)
          · rw [← a, et]
        · intro q
          exact .inr ⟨e, eh, by rw [et, q]⟩
    · exact absurd hz1 noS
end Go.Proofs.YtocphcgcpjcfjaaGreat

set_option linter.unusedVariables false
set_option linter.unusedSimpArgs false
namespace Go.Proofs.YtocphcgcpjcfjaaGreat
open Go Go.CM
theorem eqZ_of {a b : Int} (h : eqZ a b = true) : a = b := of_decide_eq_true h
theorem eqZ_no {a b : Int} (h : a ≠ b) : eqZ a b = false := decide_eq_false h
theorem end_to {q : Q14} {fin : Bool} {j : Nat} (h : q.to = Int.negSucc 0) : (q.end_ fin j).to = if fin then Int.ofNat j else Int.negSucc 0 := by
  unfold Q14.end_
  cases fin with
  | true => rfl
  | false => exact h
theorem end_fin {q : Q14} {fin : Bool} {j : Nat} (h : q.to = Int.negSucc 0) (h0 : 0 ≤ (q.end_ fin j).to) : fin = true := by
  cases fin with
  | true => rfl
  | false => rw [end_to h] at h0; exact absurd (show (0 : Int) ≤ Int.negSucc 0 from h0) (by decide)
theorem invH_step {c most : Nat} (hc1 : 1 ≤ c) (hc2 : c ≤ 256) (hm : most ≤ 1099511627776) {g : R14} {j k b : Nat} (I : InvH c most g (j + 1)) {q : Q14} (hnow : g.now[k]? = some (some b)) (hq : g.all[b]? = some q) (hinj : ∀ k', g.now[k']? = some (some b) → k' = k)
    (hg : q.Go (slH c most)) (hs : q.Sl) (at_ : List Nat) : InvH c most (g.go (slH c most) j k b q at_ g.all) (j + 1) := by
  obtain ⟨J, hto⟩ := I.pj k b q hnow hq
  have hS : q.s.isS = eqZ q.c.kind (Int.ofNat 0) := by unfold P13.isS; rw [hg.kd]
  have hN : q.s.isN = eqZ q.c.kind (Int.ofNat 2) := by unfold P13.isN; rw [hg.kd]
  cases e0 : eqZ q.c.kind (Int.ofNat 0) with
  | true =>
    have hk0 := eqZ_of e0
    rw [e0] at hS
    have hnk : ¬ (q.c.kind = Int.ofNat 2 ∨ q.c.kind = Int.ofNat 3) := by rw [hk0]; decide
    obtain ⟨J', eff⟩ := snapH_eff hc1 hc2 hm I.len (hg.ok.sn hS) (J.sn hk0) (Int.ofNat k)
    have hat := (hg.ok.sn hS).1
    simp only [R14.go, q14_0 e0, p13_stepS hS]
    generalize (q.s.sn.step g.M (Int.ofNat k)).1 = sn' at *
    generalize (q.s.sn.step g.M (Int.ofNat k)).2 = M' at *
    have hfin : P13.fin { q.s with sn := sn' } = eqZ (Int.ofNat sn'.at_) (Int.ofNat 8) := p13_finS (s := { q.s with sn := sn' }) hS
    have hto2 : Q14.to { q with s := { q.s with sn := sn' } } = Int.negSucc 0 := hto
    generalize hx : Q14.end_ { q with s := { q.s with sn := sn' } } (P13.fin { q.s with sn := sn' }) j = x
    have xc : x.c = q.c := by rw [← hx]; rfl
    have xf : x.from_ = q.from_ := by rw [← hx]; rfl
    have xs : x.s.sn = sn' := by rw [← hx]; rfl
    have xt : x.to = if P13.fin { q.s with sn := sn' } then Int.ofNat j else Int.negSucc 0 := by rw [← hx]; exact end_to hto2
    have noR : ¬ FinR x := fun h => by have := h.1; rw [xc, hk0] at this; exact absurd this (by decide)
    have JX : QJ c most M' x := ⟨fun _ => by rw [xs]; exact J', fun h => by rw [xc, hk0] at h; exact absurd h (by decide)⟩
    have f8 : P13.fin { q.s with sn := sn' } = true → sn'.at_ = 8 := fun h => by
      rw [hfin] at h
      by_cases q : sn'.at_ = 8
      · exact q
      · rw [eqZ_f q] at h; cases h
    have ow : ∀ i, Owns x i → 2 ≤ sn'.at_ ∧ sn'.at_ ≤ 7 ∧ sn'.i = i := fun i ⟨_, q2, q3, q4⟩ => by rw [xs] at q2 q3 q4; exact ⟨q2, q3, q4⟩
    have noS : sn'.err ≠ 0 ∨ sn'.at_ ≠ 8 → ¬ FinS x := fun hq hf => by
      have h1 := f8 (end_fin hto2 (by have := hf.2.1; rw [← hx] at this; exact this))
      have h2 : x.s.sn.err = 0 := hf.2.2
      rw [xs] at h2
      rcases hq with hq | hq
      · exact hq h2
      · exact hq h1
    rcases eff with ⟨E, o1, o2⟩ | ⟨E, K⟩
    · have nS := noS (if q : sn'.at_ = 8 then .inl (o2 q) else .inr q)
      exact invH_core hc2 I hnow hq hinj E.len xc xf xt JX
        (.none (fun i hi => E.oth i hi (by simp)) (fun i ho => by obtain ⟨w1, w2, w3⟩ := ow i ho; obtain ⟨v1, v2⟩ := o1 w1 w2; exact ⟨hk0, v1, by omega, by omega⟩) nS noR) hnk
    · have hic := (J.sn hk0).i0 (by omega)
      have ot : ∀ i', i' < c → i' ≠ q.s.sn.i → WH M' i' = WH g.M i' := fun i' h1 h2 => E.oth i' h1 (by intro q; cases q; exact h2 rfl)
      have own : 2 ≤ q.s.sn.at_ → Owns q q.s.sn.i := fun h => ⟨hk0, h, by omega, rfl⟩
      cases K with
      | claim k1 k2 k3 k4 k5 k6 k7 =>
        have nS := noS (.inr (by omega))
        exact invH_core hc2 I hnow hq hinj E.len xc xf xt JX (.own q.s.sn.i hic ot k3 (by omega) k5 (.inl k2) (fun i' ho => by have := (ow i' ho).2.2; omega) nS noR) hnk
      | ann k1 k2 k3 k4 k5 =>
        have nS := noS (.inr (by omega))
        exact invH_core hc2 I hnow hq hinj E.len xc xf xt JX (.own q.s.sn.i hic ot k2 (by omega) (ownH_kind J (own (by omega))).2.2 (.inr (own (by omega))) (fun i' ho => by have := (ow i' ho).2.2; omega) nS noR) hnk
      | give k1 k2 k3 k4 k5 =>
        have nS := noS (.inl k5)
        exact invH_core hc2 I hnow hq hinj E.len xc xf xt JX (.own q.s.sn.i hic ot k2 (by omega) (ownH_kind J (own (by omega))).2.2 (.inr (own (by omega))) (fun i' ho => by have := (ow i' ho).2.1; omega) nS noR) hnk
      | hold k1 k2 k3 k4 k5 k6 k7 k8 k9 k10 =>
        obtain ⟨w1, w2, w3⟩ := (J.sn hk0).own (by omega) (by omega)
        have hf : P13.fin { q.s with sn := sn' } = true := by rw [hfin]; exact eqZ_t k5
        have hh : x.s.sn.handle = hnd q.s.sn.i (genW (WH g.M q.s.sn.i)) := by
          rw [xs]
          unfold SnapS.handle
          rw [if_pos k6, k7, k8, w2]; rfl
        have hst : x.s.sn.stamp = q.s.sn.t := by
          rw [xs]
          unfold SnapS.stamp
          rw [if_pos k6, k9]
        have fS : FinS x := by
          refine ⟨by rw [xc]; exact hk0, ?_, by rw [xs]; exact k10⟩
          rw [xt, hf]
          exact Int.natCast_nonneg j
        exact invH_core hc2 I hnow hq hinj E.len xc xf xt JX (.hold q.s.sn.i hic ot k2 k3 (own (by omega)) (fun i' ho => by have := (ow i' ho).2.1; omega) hh (hst.trans k4.symm) fS noR) hnk
  | false =>
    have e1 : eqZ q.c.kind (Int.ofNat 1) = true := hs.resolve_left (by rw [e0]; simp)
    have hk1 := eqZ_of e1
    rw [e0] at hS
    have hN' : q.s.isN = false := by rw [hN, hk1]; exact eqZ_f (by omega)
    have hnk : ¬ (q.c.kind = Int.ofNat 2 ∨ q.c.kind = Int.ofNat 3) := by rw [hk1]; decide
    obtain ⟨J', hh, eff⟩ := letH_eff hc2 I.len (hg.ok.lt hS hN').1 (J.lt hk1).1 I.gen (Int.ofNat k)
    have hqh := (J.lt hk1).2
    simp only [R14.go, q14_1 e0 e1, p13_stepL hS hN']
    generalize (q.s.lt.step g.M (Int.ofNat k)).1 = lt' at *
    generalize (q.s.lt.step g.M (Int.ofNat k)).2 = M' at *
    have hfin : P13.fin { q.s with lt := lt' } = eqZ (Int.ofNat lt'.at_) (Int.ofNat 2) := p13_finL (s := { q.s with lt := lt' }) hS hN'
    have hto2 : Q14.to { q with s := { q.s with lt := lt' } } = Int.negSucc 0 := hto
    generalize hx : Q14.end_ { q with s := { q.s with lt := lt' } } (P13.fin { q.s with lt := lt' }) j = x
    have xc : x.c = q.c := by rw [← hx]; rfl
    have xf : x.from_ = q.from_ := by rw [← hx]; rfl
    have xs : x.s.lt = lt' := by rw [← hx]; rfl
    have xt : x.to = if P13.fin { q.s with lt := lt' } then Int.ofNat j else Int.negSucc 0 := by rw [← hx]; exact end_to hto2
    have noS : ¬ FinS x := fun h => by have := h.1; rw [xc, hk1] at this; exact absurd this (by decide)
    have noO : ∀ i, ¬ Owns x i := fun i h => by have := h.1; rw [xc, hk1] at this; exact absurd this (by decide)
    have JX : QJ c most M' x := ⟨fun h => by rw [xc, hk1] at h; exact absurd h (by decide), fun _ => by rw [xs, xc]; exact ⟨J', hh.trans hqh⟩⟩
    rcases eff with ⟨E, o1⟩ | ⟨r1, r2, E, r3, r4, r5, r6, r7⟩
    · have noR : ¬ FinR x := fun h => by
        have h1 := end_fin hto2 (by have := h.2.1; rw [← hx] at this; exact this)
        have h3 : x.s.lt.err = 0 := h.2.2
        rw [xs] at h3
        rw [hfin] at h1
        by_cases q : lt'.at_ = 2
        · exact o1 q h3
        · rw [eqZ_f q] at h1; cases h1
      exact invH_core hc2 I hnow hq hinj E.len xc xf xt JX (.none (fun i hi => E.oth i hi (by simp)) (fun i ho => absurd ho (noO i)) noS noR) hnk
    · refine invH_core hc2 I hnow hq hinj E.len xc xf xt JX (.rel (q.s.lt.h % 65536 - 1) r2 (fun i' h1 h3 => E.oth i' h1 (by intro q; cases q; exact h3 rfl)) r3 (by rw [r6, r4]) r5 noO ?_ hk1 noS) hnk
      rw [r4, ← hqh]
      obtain ⟨b1, b2, b3⟩ := hOk_out r1
      unfold hnd
      omega
theorem ask_cells (s : AskS) (M : Mem) (th : Int) : (s.look M th).2.cells = M.cells := by
  unfold AskS.look
  cases hThere s.sl s.h <;> rfl
theorem invH_pick {c most : Nat} (hc1 : 1 ≤ c) (hc2 : c ≤ 256) (hm : most ≤ 1099511627776) {calls : List (List C14)} (hc : Calls64b calls) {g : R14} {j : Nat} (W : WF14 (slH c most) calls g) (I : InvH c most g j) (t : Int) : InvH c most (g.pick (slH c most) calls false j t) (j + 1) := by
  have hcur : ∀ (k2 b2 : Nat), g.now[k2]? = some (some b2) → b2 < g.all.length := fun k2 b2 h => by
    obtain ⟨q, h1, _⟩ := W.cur k2 b2 h
    exact (List.getElem?_eq_some_iff.1 h1).1
  refine pick_cases14 (slH c most) calls false g j t (fun g' => InvH c most g' (j + 1)) (invH_mono I) (fun k cs a b q _ h1 h2 h3 h4 => ?_) (fun k cs a cl _ h1 h2 h3 h4 h5 => ?_) (fun k cs a cl _ h1 h2 h3 h4 h5 => ?_)
  · obtain ⟨q', e1, e2, e3⟩ := W.cur k b h2
    rw [h4] at e1
    cases e1
    exact invH_step hc1 hc2 hm (invH_mono I) h2 h4 (fun k' h => W.inj k' k b h h2) e2 e3 g.at_
  · have I' := invH_mono I
    exact ⟨I'.len, I'.pj, I'.own, I'.gen, I'.held, I'.told, I'.relb, I'.relr, I'.frm, I'.chk⟩
  · have hkl : k < g.now.length := (List.getElem?_eq_some_iff.1 h2).1
    obtain ⟨l1, l2⟩ := hc cs (List.mem_of_getElem? h1) cl (List.mem_of_getElem? h4)
    have hgo := go_fresh (slH c most) l1 l2 j
    by_cases hsl : (Q14.fresh (slH c most) cl j).Sl
    · have hb := invH_begin hc1 (invH_mono I) cl (g.at_.set k (a + 1)) hkl hcur
      have h := invH_step hc1 hc2 hm hb (k := k) (b := g.all.length) (q := Q14.fresh (slH c most) cl j) (by show (g.now.set k _)[k]? = _; exact List.getElem?_set_self hkl) (app_last _ _) (fun k' hk' => ?_) hgo hsl (g.at_.set k (a + 1))
      · simp only [R14.go, List.set_set] at h ⊢
        exact h
      · have hk' : (g.now.set k (some g.all.length))[k']? = some (some g.all.length) := hk'
        by_cases e : k = k'
        · exact e.symm
        · rw [List.getElem?_set_ne e] at hk'
          exact absurd (hcur k' _ hk') (Nat.lt_irrefl _)
    · have e0 : eqZ cl.kind (Int.ofNat 0) = false := by
        cases e : eqZ cl.kind (Int.ofNat 0) with
        | false => rfl
        | true => exact absurd (Or.inl e) hsl
      have e1 : eqZ cl.kind (Int.ofNat 1) = false := by
        cases e : eqZ cl.kind (Int.ofNat 1) with
        | false => rfl
        | true => exact absurd (Or.inr e) hsl
      have e4 : eqZ cl.kind (Int.ofNat 4) = false := by
        unfold R14.skips at h5
        simpa using h5
      have k0 : cl.kind ≠ Int.ofNat 0 := fun e => by rw [e, eqZ_self] at e0; cases e0
      have k1 : cl.kind ≠ Int.ofNat 1 := fun e => by rw [e, eqZ_self] at e1; cases e1
      have hall : ∀ (x : Q14), (g.all ++ [Q14.fresh (slH c most) cl j]).set g.all.length x = g.all ++ [x] := fun x => by
        rw [List.set_append_right _ _ (Nat.le_refl _), Nat.sub_self]; rfl
      have look := look_hd (slH c most) cl.h g.M (Int.ofNat k)
      simp only [R14.go]
      rw [hall]
      cases e2 : eqZ cl.kind (Int.ofNat 2) with
      | true =>
        rw [q14_2 (q := Q14.fresh (slH c most) cl j) e0 e1 e2]
        have hk2 := eqZ_of e2
        refine invH_look I (g.at_.set k (a + 1)) (by rw [show ((Q14.fresh (slH c most) cl j).op.look g.M (Int.ofNat k)).2.cells = g.M.cells from ask_cells _ _ _]; exact I.len) (fun i hi => ?_) k0 k1 rfl rfl hkl hcur fun hk => chk_new hc2 I rfl rfl hk (fun _ => ⟨look.1, look.2.1, look.2.2.1⟩) fun h => ?_
        · unfold WH Mem.peek
          rw [show ((Q14.fresh (slH c most) cl j).op.look g.M (Int.ofNat k)).2.cells = g.M.cells from ask_cells _ _ _]
        · exact absurd (hk2.symm.trans h) (by decide)
      | false =>
        have k2 : cl.kind ≠ Int.ofNat 2 := fun e => by rw [e, eqZ_self] at e2; cases e2
        cases e3 : eqZ cl.kind (Int.ofNat 3) with
        | true =>
          rw [q14_3 (q := Q14.fresh (slH c most) cl j) e0 e1 e2 e3]
          refine invH_look I (g.at_.set k (a + 1)) (by rw [show ((Q14.fresh (slH c most) cl j).cl.look g.M (Int.ofNat k)).2.cells = g.M.cells from ask_cells _ _ _]; exact I.len) (fun i hi => ?_) k0 k1 rfl rfl hkl hcur fun hk => chk_new hc2 I rfl rfl hk (fun h => absurd h k2) fun _ => ⟨look.1, look.2.1, look.2.2.1⟩
          unfold WH Mem.peek
          rw [show ((Q14.fresh (slH c most) cl j).cl.look g.M (Int.ofNat k)).2.cells = g.M.cells from ask_cells _ _ _]
        | false =>
          have k3 : cl.kind ≠ Int.ofNat 3 := fun e => by rw [e, eqZ_self] at e3; cases e3
          rw [q14_5 (q := Q14.fresh (slH c most) cl j) e0 e1 e2 e3 e4]
          refine invH_look I (g.at_.set k (a + 1)) I.len (fun i hi => rfl) k0 k1 rfl rfl hkl hcur fun hk => ?_
          rcases hk with h | h
          · exact absurd h k2
          · exact absurd h k3
theorem invH_at {c most : Nat} (hc1 : 1 ≤ c) (hc2 : c ≤ 256) (hm : most ≤ 1099511627776) {calls : List (List C14)} (hc : Calls64b calls) {picks : List Int} {g : R14} (W : WF14 (slH c most) calls g) (I : InvH c most g 0) : ∀ j, InvH c most (r14At (slH c most) calls false picks g j) j
  | 0 => I
  | j + 1 => by
    have ih := invH_at hc1 hc2 hm hc (picks := picks) W I j
    show InvH c most (match picks[j]? with | some t => (r14At (slH c most) calls false picks g j).pick (slH c most) calls false j t | none => r14At (slH c most) calls false picks g j) (j + 1)
    split
    · exact invH_pick hc1 hc2 hm hc (r14At_wf hc W j) ih _
    · exact invH_mono ih
theorem slots14_yes {n : Int} {most : Nat} (h : (slots14 n most).2.1 = 0) : ∃ c, 1 ≤ c ∧ c ≤ 256 ∧ 1 ≤ most ∧ most ≤ 1099511627776 ∧ slots14 n most = (slH c most, 0, mem14.alloc (Int.negSucc 0) (List.replicate c 0)) := by
  have hl : mem14.cells.length = 400 := by
    show ((mem0 400).cells.set 399 1).length = 400
    rw [List.length_set]; exact List.length_replicate
  have hfr : mem14.free = 1 := rfl
  unfold slots14 mkSlots at h ⊢
  cases n with
  | negSucc z => exact absurd (show (2 : Nat) = 0 from h) (by decide)
  | ofNat c =>
    simp only at h ⊢
    by_cases h1 : c < 1
    · rw [if_pos h1] at h; exact absurd h (by decide)
    rw [if_neg h1] at h ⊢
    by_cases h2 : 256 < c
    · rw [if_pos h2] at h; exact absurd h (by decide)
    rw [if_neg h2] at h ⊢
    by_cases h3 : most < 1
    · rw [if_pos h3] at h; exact absurd h (by decide)
    rw [if_neg h3] at h ⊢
    by_cases h4 : 1099511627776 < most
    · rw [if_pos h4] at h; exact absurd h (by decide)
    rw [if_neg h4] at h ⊢
    have hr : mem14.room (List.replicate c 0) = 1 := by
      unfold Mem.room
      rw [hl, hfr, List.length_replicate, if_pos (by omega)]
    rw [hr, if_neg (by omega)]
    exact ⟨c, by omega, by omega, by omega, by omega, rfl⟩
theorem ovN_zero : ∀ (n : Nat) (cs : List Nat) (o b : Nat), cs.getD b 0 = 0 → (ovN (List.replicate n 0) cs o).getD b 0 = 0
  | 0, cs, o, b, h => h
  | n + 1, cs, o, b, h => by
    show (ovN (List.replicate n 0) (cs.set o 0) (o + 1)).getD b 0 = 0
    refine ovN_zero n _ _ b ?_
    rw [List.getD_eq_getElem?_getD] at h ⊢
    rw [List.getElem?_set]
    by_cases e : o = b
    · subst e
      by_cases h2 : o < cs.length
      · simp [h2]
      · simp [h2]
    · rw [if_neg e]; exact h
theorem invH0 {c most : Nat} (hc1 : 1 ≤ c) (hc2 : c ≤ 256) (calls : List (List C14)) : InvH c most (g14 (mem14.alloc (Int.negSucc 0) (List.replicate c 0)) calls) 0 := by
  have hl : mem14.cells = (List.replicate 400 0).set 399 1 := rfl
  have hcells : (mem14.alloc (Int.negSucc 0) (List.replicate c 0)).cells = ovN (List.replicate c 0) ((List.replicate 400 0).set 399 1) 1 := by
    rw [alloc_t (by simp; omega) (by rw [hl, show mem14.free = 1 from rfl, List.length_set, List.length_replicate, List.length_replicate]; omega)]
    rfl
  have hlen : (mem14.alloc (Int.negSucc 0) (List.replicate c 0)).cells.length = 400 := by
    rw [hcells, ovN_len, List.length_set, List.length_replicate]
  have hW : ∀ i, i < c → WH (mem14.alloc (Int.negSucc 0) (List.replicate c 0)) i = 0 := fun i hi => by
    unfold WH Mem.peek
    rw [hcells]
    refine ovN_zero _ _ _ _ ?_
    rw [List.getD_eq_getElem?_getD, List.getElem?_set_ne (by omega), List.getElem?_replicate]
    split <;> rfl
  have hn : ∀ (k b : Nat), (g14 (mem14.alloc (Int.negSucc 0) (List.replicate c 0)) calls).now[k]? = some (some b) → False := fun k b h => by
    have := List.eq_of_mem_replicate (List.mem_of_getElem? h)
    cases this
  have ha : ∀ (b : Nat) (z : Q14), (g14 (mem14.alloc (Int.negSucc 0) (List.replicate c 0)) calls).all[b]? = some z → False := fun b z h => by
    have : ([] : List Q14)[b]? = some z := h
    simp at this
  refine ⟨hlen, fun k b q h _ => (hn k b h).elim, fun k k' b b' q q' i _ h _ _ _ _ _ => (hn k b h).elim, fun i hi h => ?_, fun i hi h => ?_, fun b z h => (ha b z h).elim, fun i gn hi h => ?_, fun b z h => (ha b z h).elim, fun b z h => (ha b z h).elim, fun b z h => (ha b z h).elim⟩
  · exact absurd (show kindW (WH (mem14.alloc (Int.negSucc 0) (List.replicate c 0)) i) = 0 by rw [hW i hi]; rfl) h
  · have h : kindW (WH (mem14.alloc (Int.negSucc 0) (List.replicate c 0)) i) = 3 := h
    rw [hW i hi] at h; cases h
  · have h : gn < genW (WH (mem14.alloc (Int.negSucc 0) (List.replicate c 0)) i) := h
    rw [hW i hi] at h
    exact absurd h (Nat.not_lt_zero _)
end Go.Proofs.YtocphcgcpjcfjaaGreat

set_option linter.unusedVariables false
set_option linter.unusedSimpArgs false
namespace Go.Proofs.YtocphcgcpjcfjaaGreat
open Go Go.CM
attribute [local irreducible] AsBool AsWant AsNat AsInt AsCnt AsPtr AsSlc AsLen AsStr AsAgg AsTup AsFn AsIfc Nth Sc NotNil IsNil Must Cd codeW funW Sat SatL wrapN subM mkRow ltZ leZ ltN leN
variable {con : CallT}
def TlA (g : R14) : Prop := ∀ (b : Nat) q, g.all[b]? = some q → q.s.Tl ∧ q.s.kind = q.c.kind
theorem tl_step {q : Q14} {sl : SlotsS} (hg : q.Go sl) (M : Mem) (th : Int) : (q.step sl M th).1.s.Tl ∧ (q.step sl M th).1.s.kind = (q.step sl M th).1.c.kind := by
  have h1 := (p13_step q.s M th hg.ok hg.tl).2.1
  have h2 : (q.s.step M th).1.kind = q.c.kind := (p13_kind q.s M th).trans hg.kd
  unfold Q14.step
  cases eqZ q.c.kind (Int.ofNat 0) with
  | true => exact ⟨h1, h2⟩
  | false =>
    cases eqZ q.c.kind (Int.ofNat 1) with
    | true => exact ⟨h1, h2⟩
    | false =>
      cases eqZ q.c.kind (Int.ofNat 2) with
      | true => exact ⟨hg.tl, hg.kd⟩
      | false =>
        cases eqZ q.c.kind (Int.ofNat 3) with
        | true => exact ⟨hg.tl, hg.kd⟩
        | false =>
          cases eqZ q.c.kind (Int.ofNat 4) with
          | true => exact ⟨hg.tl, hg.kd⟩
          | false => exact ⟨hg.tl, hg.kd⟩
theorem tl_go {sl : SlotsS} {g : R14} {i k b : Nat} {q : Q14} {at_ : List Nat} {all : List Q14} (hg : q.Go sl) (h : ∀ (b : Nat) q, all[b]? = some q → q.s.Tl ∧ q.s.kind = q.c.kind) : TlA (g.go sl i k b q at_ all) := fun a z hz => by
  have hz : (all.set b ((q.step sl g.M (Int.ofNat k)).1.end_ (q.step sl g.M (Int.ofNat k)).2.2 i))[a]? = some z := hz
  rw [List.getElem?_set] at hz
  by_cases e : b = a
  · rw [if_pos e] at hz
    split at hz
    · cases hz; exact tl_step hg g.M (Int.ofNat k)
    · cases hz
  · rw [if_neg e] at hz; exact h a z hz
theorem tl_at {sl : SlotsS} {calls : List (List C14)} (hc : Calls64b calls) {stores : Bool} {picks : List Int} {g : R14} (W : WF14 sl calls g) (T : TlA g) : ∀ j, TlA (r14At sl calls stores picks g j)
  | 0 => T
  | j + 1 => by
    have ih := tl_at hc (stores := stores) (picks := picks) W T j
    have hw := r14At_wf hc (stores := stores) (picks := picks) W j
    show TlA (match picks[j]? with | some t => (r14At sl calls stores picks g j).pick sl calls stores j t | none => r14At sl calls stores picks g j)
    split
    · generalize r14At sl calls stores picks g j = g' at *
      refine pick_cases14 sl calls stores g' j _ TlA ih (fun k cs a b q _ h1 h2 h3 h4 => ?_) (fun k cs a c _ h1 h2 h3 h4 h5 => ih) (fun k cs a c _ h1 h2 h3 h4 h5 => ?_)
      · obtain ⟨q', e1, e2, _⟩ := hw.cur k b h2
        rw [h4] at e1
        cases e1
        exact tl_go e2 ih
      · obtain ⟨l1, l2⟩ := hc cs (List.mem_of_getElem? h1) c (List.mem_of_getElem? h4)
        have hgo := go_fresh sl l1 l2 j
        refine tl_go hgo fun b q hq => ?_
        rcases app_lk hq with ⟨hq, _⟩ | ⟨_, rfl⟩
        · exact ih b q hq
        · exact ⟨hgo.tl, hgo.kd⟩
    · exact ih
theorem qat_cells {sl : SlotsS} {L : List HP} {H : CH} {p : Nat} {q : Q14} (hs : Sat L H) (hq : Has L (QAt sl p q)) : ∃ (p3 p4 p5 p6 p7 g : Nat) (sn : Bool) (oA oS oE cA cE : Nat), JG q.s.sn g ∧
    Sat [Own p (qC sl q p3 p4 p5 p6 p7 oA oS oE cA cE q.to), Own p3 (snapC q.s.sn.at_ q.s.sn g), Own p4 (letC (q.lt sl) sn), Own p5 (askC q.op []), Own p6 (askC q.cl [u64 q.c.st])] H := by
  obtain ⟨p3, p4, p5, p6, p7, g, sn, oA, oS, oE, cA, cE, ⟨hg1, _, _, _⟩, hin⟩ := hs.has hq
  refine ⟨p3, p4, p5, p6, p7, g, sn, oA, oS, oE, cA, cE, hg1, ?_⟩
  have h2 : Sat [Own p (qC sl q p3 p4 p5 p6 p7 oA oS oE cA cE q.to), Own p3 (snapC q.s.sn.at_ q.s.sn g), Own p4 (letC (q.lt sl) sn), Own p5 (askC q.op []), Own p6 (askC q.cl [u64 q.c.st]), RAt13 p7 q.s] H := Sat.mk hin
  exact h2.ent ee
def MayP (o q : Q14) : Prop := FinS q ∧ q.s.sn.handle = o.c.h ∧ Int.ofNat q.from_ < o.to
def GoneP (o q : Q14) : Prop := q.c.kind = Int.ofNat 1 ∧ q.c.h = o.c.h ∧ Int.ofNat q.from_ < o.to
structure InB (all : List Q14) (o : Q14) (n : Nat) (told may over gone : Bool) (st : Nat) : Prop where
  told : told = true → ∃ (a : Nat) (q : Q14), all[a]? = some q ∧ FinS q ∧ q.s.sn.handle = o.c.h ∧ q.to < Int.ofNat o.from_ ∧ st = q.s.sn.stamp
  may : may = false → ∀ (a : Nat) q, a < n → all[a]? = some q → ¬ MayP o q
  over : over = true → ∃ (a : Nat) (q : Q14), all[a]? = some q ∧ FinR q ∧ q.c.h = o.c.h ∧ q.to < Int.ofNat o.from_
  gone : gone = false → ∀ (a : Nat) q, a < n → all[a]? = some q → ¬ GoneP o q
theorem inB0 (all : List Q14) (o : Q14) : InB all o 0 false false false false 0 := ⟨(fun h => nomatch h), fun _ a q h => absurd h (Nat.not_lt_zero a), (fun h => nomatch h), fun _ a q h => absurd h (Nat.not_lt_zero a)⟩
theorem inB_next {all : List Q14} {o q : Q14} {n st : Nat} {told may over gone : Bool} (I : InB all o n told may over gone st) (hq : all[n]? = some q) {told' may' over' gone' : Bool} {st' : Nat}
    (h1 : (MayP o q → may' = true) ∧ (may = true → may' = true)) (h2 : (told' = told ∧ st' = st) ∨ (told' = true ∧ st' = q.s.sn.stamp ∧ FinS q ∧ q.s.sn.handle = o.c.h ∧ q.to < Int.ofNat o.from_))
    (h3 : (GoneP o q → gone' = true) ∧ (gone = true → gone' = true)) (h4 : over' = over ∨ (FinR q ∧ q.c.h = o.c.h ∧ q.to < Int.ofNat o.from_)) : InB all o (n + 1) told' may' over' gone' st' := by
  refine ⟨fun h => ?_, fun h a z ha hz hm => ?_, fun h => ?_, fun h a z ha hz hm => ?_⟩
  · rcases h2 with ⟨e1, e2⟩ | ⟨_, e2, r1, r2, r3⟩
    · rw [e2]; exact I.told (e1 ▸ h)
    · exact ⟨n, q, hq, r1, r2, r3, e2⟩
  · by_cases e : a = n
    · subst e
      rw [hq] at hz
      cases hz
      rw [h1.1 hm] at h; cases h
    · have hf : may = false := by
        cases hmm : may with
        | false => rfl
        | true => rw [h1.2 hmm] at h; cases h
      exact I.may hf a z (by omega) hz hm
  · rcases h4 with e | r
    · exact I.over (e ▸ h)
    · exact ⟨n, q, hq, r⟩
  · by_cases e : a = n
    · subst e
      rw [hq] at hz
      cases hz
      rw [h3.1 hm] at h; cases h
    · have hf : gone = false := by
        cases hmm : gone with
        | false => rfl
        | true => rw [h3.2 hmm] at h; cases h
      exact I.gone hf a z (by omega) hz hm
def KeepB (a b : TF) : Prop := b 3 = a 3 ∧ b 7 = a 7 ∧ b 8 = a 8
theorem KeepB.trans {a b c : TF} (h : KeepB a b) (g : KeepB b c) : KeepB a c := ⟨g.1.trans h.1, g.2.1.trans h.2.1, g.2.2.trans h.2.2⟩
structure Fl (σ : TF) (told may over gone : Bool) (st : Nat) : Prop where
  f9 : σ 9 = .bool told
  f10 : σ 10 = .bool may
  f11 : σ 11 = .bool over
  f12 : σ 12 = .bool gone
  f13 : σ 13 = u64 st
theorem hp_lpB : lpAt Tryz.prog 8 1 = blkC (lpAt Tryz.prog 8 1) := by kernel_rfl
theorem hp_slB : sliceC 2 1 (blkC (lpAt Tryz.prog 8 1)) = seqL [(flatC (blkC (lpAt Tryz.prog 8 1))).getD 2 .skip] := by kernel_rfl
theorem hp_bkB : (flatC (blkC (lpAt Tryz.prog 8 1))).getD 2 .skip = .block 3 (blkC ((flatC (blkC (lpAt Tryz.prog 8 1))).getD 2 .skip)) := by kernel_rfl
set_option maxRecDepth 100000 in
theorem hp_d2 (hc : Con con lives) {sl : SlotsS} {H : CH} {pa po : Nat} {q o : Q14} {st : Nat} {told may over gone : Bool} {p3 p4 p5 p6 p7 g oA oS oE cA cE r3 r4 r5 r6 r7 r8 r9 r10 r11 r12 : Nat} {sn : Bool} {σ : TF} {Q : KX}
    (hA : Sat [Own pa (qC sl q p3 p4 p5 p6 p7 oA oS oE cA cE q.to), Own p3 (snapC q.s.sn.at_ q.s.sn g), Own p4 (letC (q.lt sl) sn), Own p5 (askC q.op []), Own p6 (askC q.cl [u64 q.c.st])] H)
    (hO : Sat [Own po (qC sl o r3 r4 r5 r6 r7 r8 r9 r10 r11 r12 o.to)] H) (hm : MayP o q)
    (e8 : σ 8 = ptr po 0) (e15 : σ 15 = ptr pa 0) (e113 : σ 113 = .bool true) (fl : Fl σ told may over gone st)
    (k : ∀ σ1 told' may' st', KeepB σ σ1 → σ1 14 = σ 14 → σ1 15 = ptr pa 0 → Fl σ1 told' may' over gone st' → (MayP o q → may' = true) ∧ (may = true → may' = true) → ((told' = told ∧ st' = st) ∨ (told' = true ∧ st' = q.s.sn.stamp ∧ FinS q ∧ q.s.sn.handle = o.c.h ∧ q.to < Int.ofNat o.from_)) →
      codeW (dropC 3 (blkC ((flatC (blkC (lpAt Tryz.prog 8 1))).getD 2 .skip))) Tryz.prog con σ1 H Q) :
    codeW (dropC 2 (blkC ((flatC (blkC (lpAt Tryz.prog 8 1))).getD 2 .skip))) Tryz.prog con σ H Q := by
  rw [codeW_cut2 2 1, hpD2_W, e113, e8, e15]
  refine AsBool.mk (Cd.t rfl ?_)
  repeat (refine gO ?_; intros)
  refine ld hA rfl ?_
  repeat (refine gO ?_; intros)
  repeat (refine gO ?_; intros)
  try refine ld hO rfl ?_
  repeat (refine gO ?_; intros)
  by_cases hlt : q.to < Int.ofNat o.from_
  · refine Cd.t (ltZ_z.2 hlt) ?_
    repeat (refine gO ?_; intros)
    refine ld hA rfl ?_
    repeat (refine gO ?_; intros)
    refine snapStamp_ok hc q.s.sn hA ?_
    rw [ceP_n]
    exact k _ true true q.s.sn.stamp ⟨rfl, rfl, rfl⟩ rfl e15 ⟨rfl, rfl, fl.f11, fl.f12, rfl⟩ ⟨fun _ => rfl, fun _ => rfl⟩ (.inr ⟨rfl, rfl, hm.1, hm.2.1, hlt⟩)
  · refine Cd.f (ltZ_zf hlt) ?_
    rw [ceP_n]
    exact k _ told true st ⟨rfl, rfl, rfl⟩ rfl e15 ⟨fl.f9, rfl, fl.f11, fl.f12, fl.f13⟩ ⟨fun _ => rfl, fun _ => rfl⟩ (.inl ⟨rfl, rfl⟩)
set_option maxRecDepth 100000 in
theorem hp_snap (hc : Con con lives) {sl : SlotsS} {H : CH} {pa po : Nat} {all : List Q14} {q o : Q14} {n st : Nat} {told may over gone : Bool} {p3 p4 p5 p6 p7 g oA oS oE cA cE r3 r4 r5 r6 r7 r8 r9 r10 r11 r12 : Nat} {sn : Bool} {ra rb rc rd re : List Value → Prop} {σ : TF} {Q : KX}
    (hA : Sat [Own pa (qC sl q p3 p4 p5 p6 p7 oA oS oE cA cE q.to), Own p3 (snapC q.s.sn.at_ q.s.sn g), Own p4 (letC (q.lt sl) sn), Own p5 (askC q.op []), Own p6 (askC q.cl [u64 q.c.st])] H)
    (hO : Sat [Own po (qC sl o r3 r4 r5 r6 r7 r8 r9 r10 r11 r12 o.to)] H) (hjg : JG q.s.sn g) (htl : q.s.Tl) (hkd : q.s.kind = q.c.kind)
    (e8 : σ 8 = ptr po 0) (e15 : σ 15 = ptr pa 0) (fl : Fl σ told may over gone st)
    (k : ∀ σ1 told' may' st', KeepB σ σ1 → σ1 14 = σ 14 → σ1 15 = ptr pa 0 → Fl σ1 told' may' over gone st' → (MayP o q → may' = true) ∧ (may = true → may' = true) → ((told' = told ∧ st' = st) ∨ (told' = true ∧ st' = q.s.sn.stamp ∧ FinS q ∧ q.s.sn.handle = o.c.h ∧ q.to < Int.ofNat o.from_)) →
      codeW (dropC 3 (blkC ((flatC (blkC (lpAt Tryz.prog 8 1))).getD 2 .skip))) Tryz.prog con σ1 H Q) :
    codeW (dropC 1 (blkC ((flatC (blkC (lpAt Tryz.prog 8 1))).getD 2 .skip))) Tryz.prog con σ H Q := by
  have no : ∀ (σ1 : TF), ¬ MayP o q → KeepB σ σ1 → σ1 14 = σ 14 → σ1 15 = ptr pa 0 → Fl σ1 told may over gone st → σ1 113 = .bool false → codeW (dropC (1 + 1) (blkC ((flatC (blkC (lpAt Tryz.prog 8 1))).getD 2 .skip))) Tryz.prog con σ1 H Q := fun σ1 hm h1 h2 h3 h4 h5 => by
    rw [codeW_cut2 2 1, hpD2_W, h5]
    refine AsBool.mk (Cd.f rfl ?_)
    rw [ceP_n]
    exact k σ1 told may st h1 h2 h3 h4 ⟨fun h => absurd h hm, id⟩ (.inl ⟨rfl, rfl⟩)
  rw [codeW_cut2 1 1, hpD1_W, e8, e15]
  repeat (refine gO ?_; intros)
  refine ld hA rfl ?_
  repeat (refine gO ?_; intros)
  by_cases h0 : q.c.kind = Int.ofNat 0
  · refine Cd.t (by rw [h0]; exact eqZ_self _) ?_
    repeat (refine gO ?_; intros)
    refine ld hA rfl ?_
    repeat (refine gO ?_; intros)
    by_cases hto : 0 ≤ q.to
    · refine Cd.t (leZ_zt hto) ?_
      repeat (refine gO ?_; intros)
      refine ld hA rfl ?_
      repeat (refine gO ?_; intros)
      refine snapErrno_ok hc q.s.sn hA ?_
      repeat (refine gO ?_; intros)
      by_cases her : q.s.sn.err = 0
      · refine Cd.t (eqZ_t her) ?_
        repeat (refine gO ?_; intros)
        refine ld hA rfl ?_
        repeat (refine gO ?_; intros)
        refine snapHandle_ok hc q.s.sn hA hjg (htl.sn (by unfold P13.isS; rw [hkd, h0]; exact eqZ_self _)) ?_
        repeat (refine gO ?_; intros)
        try refine ld hO rfl ?_
        repeat (refine gO ?_; intros)
        by_cases hh : q.s.sn.handle = o.c.h
        · refine Cd.t (eqN_t hh) ?_
          repeat (refine gO ?_; intros)
          refine ld hA rfl ?_
          repeat (refine gO ?_; intros)
          repeat (refine gO ?_; intros)
          try refine ld hO rfl ?_
          repeat (refine gO ?_; intros)
          repeat (refine gO ?_; intros)
          try refine ld hO rfl ?_
          repeat (refine gO ?_; intros)
          repeat (refine gO ?_; intros)
          try refine ld hO rfl ?_
          repeat (refine gO ?_; intros)
          rw [ceP_n]
          by_cases hft : Int.ofNat q.from_ < o.to
          · exact hp_d2 hc hA hO ⟨⟨h0, hto, her⟩, hh, hft⟩ e8 e15 (by show Value.bool (ltZ _ _) = _; rw [ltZ_z.2 hft]) ⟨fl.f9, fl.f10, fl.f11, fl.f12, fl.f13⟩ fun σ1 told' may' st' hK => k σ1 told' may' st' (KeepB.trans ⟨rfl, rfl, rfl⟩ hK)
          · exact no _ (fun h => hft h.2.2) ⟨rfl, rfl, rfl⟩ rfl e15 ⟨fl.f9, fl.f10, fl.f11, fl.f12, fl.f13⟩ (by show Value.bool (ltZ _ _) = _; rw [ltZ_zf hft])
        · refine Cd.f (eqN_f hh) ?_
          repeat (refine gO ?_; intros)
          try refine ld hO rfl ?_
          repeat (refine gO ?_; intros)
          repeat (refine gO ?_; intros)
          try refine ld hO rfl ?_
          repeat (refine gO ?_; intros)
          rw [ceP_n]
          exact no _ (fun h => hh h.2.1) ⟨rfl, rfl, rfl⟩ rfl e15 ⟨fl.f9, fl.f10, fl.f11, fl.f12, fl.f13⟩ rfl
      · refine Cd.f (eqZ_f her) ?_
        rw [ceP_n]
        exact no _ (fun h => her h.1.2.2) ⟨rfl, rfl, rfl⟩ rfl e15 ⟨fl.f9, fl.f10, fl.f11, fl.f12, fl.f13⟩ rfl
    · refine Cd.f (leZ_zf hto) ?_
      rw [ceP_n]
      exact no _ (fun h => hto h.1.2.1) ⟨rfl, rfl, rfl⟩ rfl e15 ⟨fl.f9, fl.f10, fl.f11, fl.f12, fl.f13⟩ rfl
  · refine Cd.f (eqZ_no h0) ?_
    rw [ceP_n]
    exact no _ (fun h => h0 h.1.1) ⟨rfl, rfl, rfl⟩ rfl e15 ⟨fl.f9, fl.f10, fl.f11, fl.f12, fl.f13⟩ rfl
end Go.Proofs.YtocphcgcpjcfjaaGreat

set_option linter.unusedVariables false
set_option linter.unusedSimpArgs false
namespace Go.Proofs.YtocphcgcpjcfjaaGreat
open Go Go.CM
attribute [local irreducible] AsBool AsWant AsNat AsInt AsCnt AsPtr AsSlc AsLen AsStr AsAgg AsTup AsFn AsIfc Nth Sc NotNil IsNil Must Cd codeW funW Sat SatL wrapN subM mkRow ltZ leZ ltN leN
variable {con : CallT}
set_option maxRecDepth 100000 in
theorem hp_d4 (hc : Con con lives) {sl : SlotsS} {H : CH} {pa po : Nat} {q o : Q14} {st : Nat} {told may over gone : Bool} {p3 p4 p5 p6 p7 g oA oS oE cA cE r3 r4 r5 r6 r7 r8 r9 r10 r11 r12 : Nat} {sn : Bool} {σ : TF} {Q : KX}
    (hA : Sat [Own pa (qC sl q p3 p4 p5 p6 p7 oA oS oE cA cE q.to), Own p3 (snapC q.s.sn.at_ q.s.sn g), Own p4 (letC (q.lt sl) sn), Own p5 (askC q.op []), Own p6 (askC q.cl [u64 q.c.st])] H)
    (hO : Sat [Own po (qC sl o r3 r4 r5 r6 r7 r8 r9 r10 r11 r12 o.to)] H) (hm : GoneP o q)
    (e8 : σ 8 = ptr po 0) (e15 : σ 15 = ptr pa 0) (e157 : σ 157 = .bool true) (fl : Fl σ told may over gone st)
    (k : ∀ σ1 over' gone', KeepB σ σ1 → σ1 14 = σ 14 → Fl σ1 told may over' gone' st → (GoneP o q → gone' = true) ∧ (gone = true → gone' = true) → (over' = over ∨ (FinR q ∧ q.c.h = o.c.h ∧ q.to < Int.ofNat o.from_)) → Q .normal σ1 H) :
    codeW (dropC 4 (blkC ((flatC (blkC (lpAt Tryz.prog 8 1))).getD 2 .skip))) Tryz.prog con σ H Q := by
  have elt : q.lt sl = q.s.lt := by unfold Q14.lt; rw [hm.1, eqZ_self]; rfl
  rw [codeW_cut2 4 1, hpD4_W, e157, e8, e15]
  refine AsBool.mk (Cd.t rfl ?_)
  repeat (refine gO ?_; intros)
  refine ld hA rfl ?_
  repeat (refine gO ?_; intros)
  by_cases hto : 0 ≤ q.to
  · refine Cd.t (leZ_zt hto) ?_
    repeat (refine gO ?_; intros)
    refine ld hA rfl ?_
    repeat (refine gO ?_; intros)
    repeat (refine gO ?_; intros)
    try refine ld hO rfl ?_
    repeat (refine gO ?_; intros)
    by_cases hlt : q.to < Int.ofNat o.from_
    · refine Cd.t (ltZ_z.2 hlt) ?_
      repeat (refine gO ?_; intros)
      refine ld hA rfl ?_
      repeat (refine gO ?_; intros)
      refine letErrno_ok hc (q.lt sl) hA ?_
      rw [elt]
      repeat (refine gO ?_; intros)
      by_cases her : q.s.lt.err = 0
      · refine Cd.t (eqZ_t her) ?_
        rw [ceP_n, hpD5_W]
        exact k _ true true ⟨rfl, rfl, rfl⟩ rfl ⟨fl.f9, fl.f10, rfl, rfl, fl.f13⟩ ⟨fun _ => rfl, fun _ => rfl⟩ (.inr ⟨⟨hm.1, hto, her⟩, hm.2.1, hlt⟩)
      · refine Cd.f (eqZ_f her) ?_
        rw [ceP_n, hpD5_W]
        exact k _ over true ⟨rfl, rfl, rfl⟩ rfl ⟨fl.f9, fl.f10, fl.f11, rfl, fl.f13⟩ ⟨fun _ => rfl, fun _ => rfl⟩ (.inl rfl)
    · refine Cd.f (ltZ_zf hlt) ?_
      rw [ceP_n, hpD5_W]
      exact k _ over true ⟨rfl, rfl, rfl⟩ rfl ⟨fl.f9, fl.f10, fl.f11, rfl, fl.f13⟩ ⟨fun _ => rfl, fun _ => rfl⟩ (.inl rfl)
  · refine Cd.f (leZ_zf hto) ?_
    rw [ceP_n, hpD5_W]
    exact k _ over true ⟨rfl, rfl, rfl⟩ rfl ⟨fl.f9, fl.f10, fl.f11, rfl, fl.f13⟩ ⟨fun _ => rfl, fun _ => rfl⟩ (.inl rfl)
set_option maxRecDepth 100000 in
theorem hp_rel (hc : Con con lives) {sl : SlotsS} {H : CH} {pa po : Nat} {q o : Q14} {st : Nat} {told may over gone : Bool} {p3 p4 p5 p6 p7 g oA oS oE cA cE r3 r4 r5 r6 r7 r8 r9 r10 r11 r12 : Nat} {sn : Bool} {σ : TF} {Q : KX}
    (hA : Sat [Own pa (qC sl q p3 p4 p5 p6 p7 oA oS oE cA cE q.to), Own p3 (snapC q.s.sn.at_ q.s.sn g), Own p4 (letC (q.lt sl) sn), Own p5 (askC q.op []), Own p6 (askC q.cl [u64 q.c.st])] H)
    (hO : Sat [Own po (qC sl o r3 r4 r5 r6 r7 r8 r9 r10 r11 r12 o.to)] H)
    (e8 : σ 8 = ptr po 0) (e15 : σ 15 = ptr pa 0) (fl : Fl σ told may over gone st)
    (k : ∀ σ1 over' gone', KeepB σ σ1 → σ1 14 = σ 14 → Fl σ1 told may over' gone' st → (GoneP o q → gone' = true) ∧ (gone = true → gone' = true) → (over' = over ∨ (FinR q ∧ q.c.h = o.c.h ∧ q.to < Int.ofNat o.from_)) → Q .normal σ1 H) :
    codeW (dropC 3 (blkC ((flatC (blkC (lpAt Tryz.prog 8 1))).getD 2 .skip))) Tryz.prog con σ H Q := by
  have no : ∀ (σ1 : TF), ¬ GoneP o q → KeepB σ σ1 → σ1 14 = σ 14 → Fl σ1 told may over gone st → σ1 157 = .bool false → codeW (dropC (3 + 1) (blkC ((flatC (blkC (lpAt Tryz.prog 8 1))).getD 2 .skip))) Tryz.prog con σ1 H Q := fun σ1 hm h1 h2 h4 h5 => by
    rw [codeW_cut2 4 1, hpD4_W, h5]
    refine AsBool.mk (Cd.f rfl ?_)
    rw [ceP_n, hpD5_W]
    exact k σ1 over gone h1 h2 h4 ⟨fun h => absurd h hm, id⟩ (.inl rfl)
  rw [codeW_cut2 3 1, hpD3_W, e8, e15]
  repeat (refine gO ?_; intros)
  refine ld hA rfl ?_
  repeat (refine gO ?_; intros)
  by_cases h1 : q.c.kind = Int.ofNat 1
  · refine Cd.t (by rw [h1]; exact eqZ_self _) ?_
    repeat (refine gO ?_; intros)
    refine ld hA rfl ?_
    repeat (refine gO ?_; intros)
    repeat (refine gO ?_; intros)
    try refine ld hO rfl ?_
    repeat (refine gO ?_; intros)
    by_cases hh : q.c.h = o.c.h
    · refine Cd.t (eqN_t hh) ?_
      repeat (refine gO ?_; intros)
      refine ld hA rfl ?_
      repeat (refine gO ?_; intros)
      repeat (refine gO ?_; intros)
      try refine ld hO rfl ?_
      repeat (refine gO ?_; intros)
      rw [ceP_n]
      by_cases hft : Int.ofNat q.from_ < o.to
      · exact hp_d4 hc hA hO ⟨h1, hh, hft⟩ e8 e15 (by show Value.bool (ltZ _ _) = _; rw [ltZ_z.2 hft]) ⟨fl.f9, fl.f10, fl.f11, fl.f12, fl.f13⟩ fun σ1 over' gone' hK => k σ1 over' gone' (KeepB.trans ⟨rfl, rfl, rfl⟩ hK)
      · exact no _ (fun h => hft h.2.2) ⟨rfl, rfl, rfl⟩ rfl ⟨fl.f9, fl.f10, fl.f11, fl.f12, fl.f13⟩ (by show Value.bool (ltZ _ _) = _; rw [ltZ_zf hft])
    · refine Cd.f (eqN_f hh) ?_
      rw [ceP_n]
      exact no _ (fun h => hh h.2.1) ⟨rfl, rfl, rfl⟩ rfl ⟨fl.f9, fl.f10, fl.f11, fl.f12, fl.f13⟩ rfl
  · refine Cd.f (eqZ_no h1) ?_
    rw [ceP_n]
    exact no _ (fun h => h1 h.1) ⟨rfl, rfl, rfl⟩ rfl ⟨fl.f9, fl.f10, fl.f11, fl.f12, fl.f13⟩ rfl
theorem qat_mono {sl : SlotsS} {p : Nat} {q : Q14} {g h : PH} (a : QAt sl p q g) (s : Subh g h) : QAt sl p q h := by
  obtain ⟨p3, p4, p5, p6, p7, g, sn, oA, oS, oE, cA, cE, hj, hin⟩ := a
  exact ⟨p3, p4, p5, p6, p7, g, sn, oA, oS, oE, cA, cE, hj, hin.mono s⟩
set_option maxRecDepth 100000 in
theorem hp_B (hc : Con con lives) {sl : SlotsS} {L : List HP} {H : CH} {po : Nat} {all : List Q14} {ps : List Nat} {o : Q14} {va : Value} {r3 r4 r5 r6 r7 r8 r9 r10 r11 r12 : Nat} {σ : TF} {Q : KX}
    (hs : Sat L H) (hV : Has L (Vec va 96 1 (ps.map fun p => [ptr p 0]))) (hQ : Has L (SatL (List.zipWith (QAt sl) ps all))) (hps : ps.length = all.length) (hl : all.length ≤ 2000000) (hT : ∀ (b : Nat) q, all[b]? = some q → q.s.Tl ∧ q.s.kind = q.c.kind)
    (hO : Sat [Own po (qC sl o r3 r4 r5 r6 r7 r8 r9 r10 r11 r12 o.to)] H) (e3 : σ 3 = va) (e8 : σ 8 = ptr po 0) (e14 : σ 14 = iN 0) (fl : Fl σ false false false false 0)
    (k : ∀ σ1 told may over gone st, KeepB σ σ1 → Fl σ1 told may over gone st → InB all o all.length told may over gone st → Q (.exit 2) σ1 H) :
    LoopC Tryz.prog con (lpAt Tryz.prog 8 1) σ H Q := by
  obtain ⟨pv, ev⟩ := (hs.has hV).shape
  rw [List.length_map, hps] at ev
  refine LoopC.indP (n := 300) (id := 2) (fun σ1 H1 => H1 = H ∧ KeepB σ σ1 ∧ ∃ told may over gone st, Fl σ1 told may over gone st ∧ InB all o all.length told may over gone st) (by kernel_rfl)
    (fun (n : Nat) σ1 H1 => n ≤ all.length ∧ H1 = H ∧ KeepB σ σ1 ∧ σ1 14 = iN n ∧ ∃ told may over gone st, Fl σ1 told may over gone st ∧ InB all o n told may over gone st)
    (fun n => all.length - n) (fun n σ1 H1 hI => ?_) (fun σ1 H1 hP => ?_) 0 _ _ ⟨Nat.zero_le _, rfl, ⟨rfl, rfl, rfl⟩, e14, false, false, false, false, 0, fl, inB0 all o⟩
  · obtain ⟨hn, rfl, hK, a14, told, may, over, gone, st, fl1, I⟩ := hI
    have hK' := hK
    obtain ⟨k3, k7, k8⟩ := hK
    have a3 := k3.trans e3
    have a8 := k8.trans e8
    rw [hp_lpB, codeW_cut 2, hpB0_W, a14]
    refine AsLen.eq (a3.trans ev) ?_
    repeat (refine gO ?_; intros)
    by_cases h : n < all.length
    · refine Cd.t (ltZ_t h) ?_
      obtain ⟨q, eq⟩ : ∃ q, all[n]? = some q := ⟨_, List.getElem?_eq_getElem h⟩
      obtain ⟨pa, ep⟩ : ∃ p, ps[n]? = some p := ⟨_, List.getElem?_eq_getElem (by omega)⟩
      obtain ⟨htl, hkd⟩ := hT n q eq
      obtain ⟨p3, p4, p5, p6, p7, g, sn, oA, oS, oE, cA, cE, hjg, hA⟩ := qat_cells hs (hQ.all (zip_get' _ ep eq) qat_mono)
      have hr : (ps.map fun p => [ptr p 0])[n]? = some [ptr pa 0] := by rw [List.getElem?_map, ep]; rfl
      obtain ⟨b, evb, _⟩ := (hs.has hV).slot hr
      rw [List.length_map, hps] at evb
      rw [ceP_n, codeW_cut2 2 1, hp_slB, codeW_one, codeW_blk (id := 3) hp_bkB, codeW_cut 1, hpD0_W]
      refine AsSlc.eq (a3.trans evb) ?_
      show AsCnt (σ1 14) _
      rw [a14]
      repeat (refine gO ?_; intros)
      refine Must.mk (ltN_t h) ?_
      refine ldVec hs hV evb hr (j := 0) (by show 0 + n * 1 = _; omega) (by omega) rfl ?_
      rw [ceP_n]
      refine hp_snap hc (all := all) (n := n) (ra := fun _ => True) (rb := fun _ => True) (rc := fun _ => True) (rd := fun _ => True) (re := fun _ => True) hA hO hjg htl hkd a8 rfl ⟨fl1.f9, fl1.f10, fl1.f11, fl1.f12, fl1.f13⟩ fun σ2 told' may' st' hK2 b14 b15 fl2 m1 m2 => ?_
      refine hp_rel hc hA hO (hK2.2.2.trans a8) b15 fl2 fun σ3 over' gone' hK3 c14 fl3 m3 m4 => ?_
      show ceP CE.normal _ _ _ σ3 H1
      rw [ceP_n, ceP_n]
      have d14 : σ3 14 = iN n := c14.trans (b14.trans a14)
      rw [hpB3_W, d14]
      repeat (refine gO ?_; intros)
      try rw [addInt]
      refine inR_nat (by omega) ?_
      repeat (refine gO ?_; intros)
      show ∃ y, _ ∧ _
      exact ⟨n + 1, by omega, h, rfl, KeepB.trans hK' (KeepB.trans ⟨rfl, rfl, rfl⟩ (KeepB.trans hK2 (KeepB.trans hK3 ⟨rfl, rfl, rfl⟩))), rfl, told', may', over', gone', st', ⟨fl3.f9, fl3.f10, fl3.f11, fl3.f12, fl3.f13⟩, inB_next I eq m1 m2 m3 m4⟩
    · refine Cd.f (ltZ_f (by omega)) ?_
      rw [ceP_x]
      show _ = _ ∧ _
      obtain rfl : n = all.length := by omega
      exact ⟨rfl, rfl, KeepB.trans hK' ⟨rfl, rfl, rfl⟩, told, may, over, gone, st, ⟨fl1.f9, fl1.f10, fl1.f11, fl1.f12, fl1.f13⟩, I⟩
  · obtain ⟨rfl, hK, told, may, over, gone, st, fl1, I⟩ := hP
    exact k σ1 told may over gone st hK fl1 I
end Go.Proofs.YtocphcgcpjcfjaaGreat

set_option linter.unusedVariables false
set_option linter.unusedSimpArgs false
namespace Go.Proofs.YtocphcgcpjcfjaaGreat
open Go Go.CM
attribute [local irreducible] AsBool AsWant AsNat AsInt AsCnt AsPtr AsSlc AsLen AsStr AsAgg AsTup AsFn AsIfc Nth Sc NotNil IsNil Must Cd codeW funW Sat SatL wrapN subM mkRow ltZ leZ ltN leN
variable {con : CallT}
theorem hp_lpA : lpAt Tryz.prog 8 0 = blkC (lpAt Tryz.prog 8 0) := by kernel_rfl
theorem hp_slA : sliceC 2 1 (blkC (lpAt Tryz.prog 8 0)) = seqL [(flatC (blkC (lpAt Tryz.prog 8 0))).getD 2 .skip] := by kernel_rfl
theorem hp_bkA : (flatC (blkC (lpAt Tryz.prog 8 0))).getD 2 .skip = .block 1 (blkC ((flatC (blkC (lpAt Tryz.prog 8 0))).getD 2 .skip)) := by kernel_rfl
def KeepA (a b : TF) : Prop := b 3 = a 3 ∧ b 7 = a 7
theorem KeepA.trans {a b c : TF} (h : KeepA a b) (g : KeepA b c) : KeepA a c := ⟨g.1.trans h.1, g.2.trans h.2⟩
theorem hp_c13 {H : CH} {all : List Q14} {o : Q14} {st : Nat} {told may over gone gb : Bool} {σ : TF} {Q : KX} (I : InB all o all.length told may over gone st) (C : Chk all o) (hgb : gb = true → Good o)
    (fl : Fl σ told may over gone st) (e16 : σ 16 = .bool gb) (k : ∀ σ1, KeepA σ σ1 → Q .normal σ1 H) :
    codeW (dropC 13 (blkC ((flatC (blkC (lpAt Tryz.prog 8 0))).getD 2 .skip))) Tryz.prog con σ H Q := by
  have fin : ∀ (σ1 : TF), KeepA σ σ1 → σ1 241 = .bool false → codeW (dropC (13 + 1) (blkC ((flatC (blkC (lpAt Tryz.prog 8 0))).getD 2 .skip))) Tryz.prog con σ1 H Q := fun σ1 h1 h2 => by
    rw [hpC14_W, h2]
    exact AsBool.mk (Cd.f rfl (k σ1 h1))
  rw [codeW_cut2 13 1, hpC13_W, e16, fl.f10, fl.f11]
  refine AsWant.mk ?_
  cases gb with
  | false =>
    refine Cd.f rfl ?_
    rw [ceP_n]
    exact fin _ ⟨rfl, rfl⟩ rfl
  | true =>
    have hG := hgb rfl
    refine Cd.t rfl (AsWant.mk ?_)
    cases over with
    | true =>
      obtain ⟨a, q, q1, q2, q3, q4⟩ := I.over rfl
      exact absurd q4 (C.over hG a q q1 q2 q3)
    | false =>
      refine Cd.f rfl (AsBool.mk ?_)
      cases may with
      | false =>
        obtain ⟨a, q, q1, q2, q3, q4⟩ := C.may hG
        exact absurd ⟨q2, q3, q4⟩ (I.may rfl a q (List.getElem?_eq_some_iff.1 q1).1 q1)
      | true =>
        rw [ceP_n]
        exact fin _ ⟨rfl, rfl⟩ rfl
set_option maxRecDepth 100000 in
theorem hp_c12 (hc : Con con lives) {sl : SlotsS} {H : CH} {po : Nat} {all : List Q14} {o : Q14} {st : Nat} {told may over gone : Bool} {r3 r4 r5 r6 r7 g r8 r9 r10 r11 r12 : Nat} {sn : Bool} {σ : TF} {Q : KX}
    (hO : Sat [Own po (qC sl o r3 r4 r5 r6 r7 r8 r9 r10 r11 r12 o.to), Own r3 (snapC o.s.sn.at_ o.s.sn g), Own r4 (letC (o.lt sl) sn), Own r5 (askC o.op []), Own r6 (askC o.cl [u64 o.c.st])] H)
    (hk : o.c.kind = Int.ofNat 2 ∨ o.c.kind = Int.ofNat 3) (I : InB all o all.length told may over gone st) (C : Chk all o)
    (fl : Fl σ told may over gone st) (e8 : σ 8 = ptr po 0) (e187 : σ 187 = .bool (eqZ o.c.kind (Int.ofNat 2))) (k : ∀ σ1, KeepA σ σ1 → Q .normal σ1 H) :
    codeW (dropC 12 (blkC ((flatC (blkC (lpAt Tryz.prog 8 0))).getD 2 .skip))) Tryz.prog con σ H Q := by
  have hy : told = true → gone = false → (o.c.kind = Int.ofNat 2 → o.op.hd = true ∧ o.op.t = st) ∧ (o.c.kind = Int.ofNat 3 → (Good o ↔ o.c.st = st)) := fun h1 h2 => by
    obtain ⟨a, q, q1, q2, q3, q4, q5⟩ := I.told h1
    rw [q5]
    exact C.yes a q q1 q2 q3 q4 fun b r r1 r2 r3 r4 => I.gone h2 b r (List.getElem?_eq_some_iff.1 r1).1 r1 ⟨r2, r3, r4⟩
  have fin : ∀ (σ1 : TF) (gb : Bool), (gb = true → Good o) → KeepA σ σ1 → Fl σ1 told may over gone st → σ1 16 = .bool gb → codeW (dropC (12 + 1) (blkC ((flatC (blkC (lpAt Tryz.prog 8 0))).getD 2 .skip))) Tryz.prog con σ1 H Q := fun σ1 gb h0 h1 h2 h3 => hp_c13 I C h0 h2 h3 fun σ2 h => k σ2 (h1.trans h)
  rw [codeW_cut2 12 1, hpC12_W, e187, e8, fl.f9, fl.f12, fl.f13]
  refine AsBool.mk ?_
  rcases hk with h2 | h3
  · have hdn := C.dn2 h2
    refine Cd.t (by rw [h2]; exact eqZ_self _) ?_
    repeat (refine gO ?_; intros)
    try refine ld hO rfl ?_
    repeat (refine gO ?_; intros)
    refine hOpenErr_ok hc o.op (ex := []) hO ?_
    have ez : eqZ (Int.ofNat (if (o.op.dn && !o.op.hd) = true then 33 else 0)) (Int.ofNat 0) = o.op.hd := by
      rw [hdn]
      cases o.op.hd with
      | true => exact eqZ_self _
      | false => exact eqZ_f (by simp)
    have hgb : o.op.hd = true → Good o := fun h => .inl ⟨h2, h⟩
    repeat (refine gO ?_; intros)
    rw [ez]
    cases told with
    | false =>
      refine Cd.f rfl ?_
      rw [ceP_n]
      exact fin _ o.op.hd hgb ⟨rfl, rfl⟩ ⟨fl.f9, fl.f10, fl.f11, fl.f12, fl.f13⟩ rfl
    | true =>
      refine Cd.t rfl ?_
      refine AsBool.mk ?_
      cases gone with
      | true =>
        refine Cd.f rfl ?_
        rw [ceP_n]
        exact fin _ o.op.hd hgb ⟨rfl, rfl⟩ ⟨fl.f9, fl.f10, fl.f11, fl.f12, fl.f13⟩ rfl
      | false =>
        obtain ⟨y1, y2⟩ := (hy rfl rfl).1 h2
        refine Cd.t rfl ?_
        refine Cd.f (by rw [y1]; rfl) ?_
        repeat (refine gO ?_; intros)
        try refine ld hO rfl ?_
        repeat (refine gO ?_; intros)
        refine hOpenStamp_ok hc o.op (ex := []) hO ?_
        repeat (refine gO ?_; intros)
        refine Cd.f (by rw [y1, y2, if_pos rfl, eqN_self]; rfl) ?_
        rw [ceP_n]
        exact fin _ o.op.hd hgb ⟨rfl, rfl⟩ ⟨fl.f9, fl.f10, fl.f11, fl.f12, fl.f13⟩ rfl
  · have hdn := C.dn3 h3
    refine Cd.f (by rw [h3]; exact eqZ_f (by omega)) ?_
    repeat (refine gO ?_; intros)
    try refine ld hO rfl ?_
    repeat (refine gO ?_; intros)
    refine hCloseErr_ok hc o.cl (st := o.c.st) hO ?_
    have ez : eqZ (Int.ofNat (if (o.cl.dn && !(o.cl.hd && eqN o.cl.t o.c.st)) = true then 34 else 0)) (Int.ofNat 0) = (o.cl.hd && eqN o.cl.t o.c.st) := by
      rw [hdn]
      cases (o.cl.hd && eqN o.cl.t o.c.st) with
      | true => exact eqZ_self _
      | false => exact eqZ_f (by simp)
    have hgb : (o.cl.hd && eqN o.cl.t o.c.st) = true → Good o := fun h => by
      rw [Bool.and_eq_true] at h
      exact .inr ⟨h3, h.1, Nat.eq_of_beq_eq_true h.2⟩
    have hbg : Good o → (o.cl.hd && eqN o.cl.t o.c.st) = true := fun h => by
      rcases h with ⟨a, _⟩ | ⟨_, a, b⟩
      · rw [h3] at a; exact absurd a (by decide)
      · rw [a, eqN_t b]; rfl
    repeat (refine gO ?_; intros)
    rw [ez]
    cases told with
    | false =>
      refine Cd.f rfl ?_
      rw [ceP_n]
      exact fin _ _ hgb ⟨rfl, rfl⟩ ⟨fl.f9, fl.f10, fl.f11, fl.f12, fl.f13⟩ rfl
    | true =>
      refine Cd.t rfl ?_
      refine AsBool.mk ?_
      cases gone with
      | true =>
        refine Cd.f rfl ?_
        rw [ceP_n]
        exact fin _ _ hgb ⟨rfl, rfl⟩ ⟨fl.f9, fl.f10, fl.f11, fl.f12, fl.f13⟩ rfl
      | false =>
        have y := (hy rfl rfl).2 h3
        refine Cd.t rfl ?_
        repeat (refine gO ?_; intros)
        try refine ld hO rfl ?_
        repeat (refine gO ?_; intros)
        have eb : eqB (o.cl.hd && eqN o.cl.t o.c.st) (eqN o.c.st st) = true := by
          cases e : eqN o.c.st st with
          | true => rw [hbg (y.2 (Nat.eq_of_beq_eq_true e))]; rfl
          | false =>
            cases e2 : (o.cl.hd && eqN o.cl.t o.c.st) with
            | false => rfl
            | true => rw [eqN_t (y.1 (hgb e2))] at e; cases e
        refine Cd.f (by rw [eb]; rfl) ?_
        rw [ceP_n]
        exact fin _ _ hgb ⟨rfl, rfl⟩ ⟨fl.f9, fl.f10, fl.f11, fl.f12, fl.f13⟩ rfl
end Go.Proofs.YtocphcgcpjcfjaaGreat

set_option linter.unusedVariables false
set_option linter.unusedSimpArgs false
namespace Go.Proofs.YtocphcgcpjcfjaaGreat
open Go Go.CM
attribute [local irreducible] AsBool AsWant AsNat AsInt AsCnt AsPtr AsSlc AsLen AsStr AsAgg AsTup AsFn AsIfc Nth Sc NotNil IsNil Must Cd codeW funW Sat SatL wrapN subM mkRow ltZ leZ ltN leN
variable {con : CallT}
set_option maxRecDepth 100000 in
theorem hp_o (hc : Con con lives) {sl : SlotsS} {L : List HP} {H : CH} {po : Nat} {all : List Q14} {ps : List Nat} {o : Q14} {va : Value} {r3 r4 r5 r6 r7 g r8 r9 r10 r11 r12 : Nat} {sn : Bool} {σ : TF} {Q : KX}
    (hs : Sat L H) (hV : Has L (Vec va 96 1 (ps.map fun p => [ptr p 0]))) (hQ : Has L (SatL (List.zipWith (QAt sl) ps all))) (hps : ps.length = all.length) (hl : all.length ≤ 2000000) (hT : ∀ (b : Nat) q, all[b]? = some q → q.s.Tl ∧ q.s.kind = q.c.kind)
    (hO : Sat [Own po (qC sl o r3 r4 r5 r6 r7 r8 r9 r10 r11 r12 o.to), Own r3 (snapC o.s.sn.at_ o.s.sn g), Own r4 (letC (o.lt sl) sn), Own r5 (askC o.op []), Own r6 (askC o.cl [u64 o.c.st])] H)
    (hk : o.c.kind = Int.ofNat 2 ∨ o.c.kind = Int.ofNat 3) (C : Chk all o) (e3 : σ 3 = va) (e8 : σ 8 = ptr po 0) (k : ∀ σ1, KeepA σ σ1 → Q .normal σ1 H) :
    codeW (dropC 3 (blkC ((flatC (blkC (lpAt Tryz.prog 8 0))).getD 2 .skip))) Tryz.prog con σ H Q := by
  have hO1 : Sat [Own po (qC sl o r3 r4 r5 r6 r7 r8 r9 r10 r11 r12 o.to)] H := hO.ent ee
  rw [codeW_cut2 3 7, hpC3_W]
  refine hp_B hc (all := all) hs hV hQ hps hl hT hO1 e3 e8 rfl ⟨rfl, rfl, rfl, rfl, rfl⟩ fun σ1 told may over gone st hK fl I => ?_
  show ceP (CE.exit 2) _ _ _ _ _
  rw [ceP_x]
  refine Cd.t (eqN_self 2) ?_
  rw [ceP_n]
  obtain ⟨k3, k7, k8⟩ := hK
  have b8 : σ1 8 = ptr po 0 := k8.trans e8
  have c8 : upd σ1 16 (.bool false) 8 = ptr po 0 := b8
  rw [codeW_cut2 10 1, hpC10_W, ceP_n, codeW_cut2 11 1, hpC11_W]
  rw [c8]
  repeat (refine gO ?_; intros)
  try refine ld hO rfl ?_
  repeat (refine gO ?_; intros)
  rw [ceP_n]
  exact hp_c12 hc hO hk I C ⟨fl.f9, fl.f10, fl.f11, fl.f12, fl.f13⟩ b8 rfl fun σ2 h => k σ2 (KeepA.trans ⟨k3, k7⟩ (KeepA.trans ⟨rfl, rfl⟩ h))
set_option maxRecDepth 100000 in
theorem hp_c1 (hc : Con con lives) {sl : SlotsS} {H : CH} {po : Nat} {o : Q14} {r3 r4 r5 r6 r7 r8 r9 r10 r11 r12 : Nat} {σ : TF} {Q : KX}
    (hO : Sat [Own po (qC sl o r3 r4 r5 r6 r7 r8 r9 r10 r11 r12 o.to)] H) (e8 : σ 8 = ptr po 0)
    (ks : ∀ σ1, KeepA σ σ1 → σ1 58 = .bool true → codeW (dropC 2 (blkC ((flatC (blkC (lpAt Tryz.prog 8 0))).getD 2 .skip))) Tryz.prog con σ1 H Q)
    (kg : (o.c.kind = Int.ofNat 2 ∨ o.c.kind = Int.ofNat 3) → 0 ≤ o.to → ∀ σ1, KeepA σ σ1 → σ1 8 = ptr po 0 → σ1 58 = .bool false → codeW (dropC 2 (blkC ((flatC (blkC (lpAt Tryz.prog 8 0))).getD 2 .skip))) Tryz.prog con σ1 H Q) :
    codeW (dropC 1 (blkC ((flatC (blkC (lpAt Tryz.prog 8 0))).getD 2 .skip))) Tryz.prog con σ H Q := by
  rw [codeW_cut2 1 1, hpC1_W, e8]
  repeat (refine gO ?_; intros)
  try refine ld hO rfl ?_
  repeat (refine gO ?_; intros)
  by_cases h2 : o.c.kind = Int.ofNat 2
  · refine Cd.f (by rw [h2, eqZ_self]; rfl) ?_
    repeat (refine gO ?_; intros)
    try refine ld hO rfl ?_
    repeat (refine gO ?_; intros)
    rw [ceP_n]
    by_cases h0 : 0 ≤ o.to
    · exact kg (.inl h2) h0 _ ⟨rfl, rfl⟩ e8 (by show Value.bool (ltZ _ _) = _; rw [ltZ_zf (show ¬ o.to < Int.ofNat 0 from fun q => by have : o.to < 0 := q; omega)])
    · exact ks _ ⟨rfl, rfl⟩ (by show Value.bool (ltZ _ _) = _; rw [ltZ_z.2 (show o.to < Int.ofNat 0 from by show o.to < 0; omega)])
  · refine Cd.t (by rw [eqZ_no h2]; rfl) ?_
    repeat (refine gO ?_; intros)
    try refine ld hO rfl ?_
    repeat (refine gO ?_; intros)
    by_cases h3 : o.c.kind = Int.ofNat 3
    · refine Cd.f (by rw [h3, eqZ_self]; rfl) ?_
      repeat (refine gO ?_; intros)
      try refine ld hO rfl ?_
      repeat (refine gO ?_; intros)
      rw [ceP_n]
      by_cases h0 : 0 ≤ o.to
      · exact kg (.inr h3) h0 _ ⟨rfl, rfl⟩ e8 (by show Value.bool (ltZ _ _) = _; rw [ltZ_zf (show ¬ o.to < Int.ofNat 0 from fun q => by have : o.to < 0 := q; omega)])
      · exact ks _ ⟨rfl, rfl⟩ (by show Value.bool (ltZ _ _) = _; rw [ltZ_z.2 (show o.to < Int.ofNat 0 from by show o.to < 0; omega)])
    · refine Cd.t (by rw [eqZ_no h3]; rfl) ?_
      rw [ceP_n]
      exact ks _ ⟨rfl, rfl⟩ rfl
set_option maxRecDepth 100000 in
theorem hp_A (hc : Con con lives) {sl : SlotsS} {L : List HP} {H : CH} {all : List Q14} {ps : List Nat} {va : Value} {σ : TF} {Q : KX}
    (hs : Sat L H) (hV : Has L (Vec va 96 1 (ps.map fun p => [ptr p 0]))) (hQ : Has L (SatL (List.zipWith (QAt sl) ps all))) (hps : ps.length = all.length) (hl : all.length ≤ 2000000) (hT : ∀ (b : Nat) q, all[b]? = some q → q.s.Tl ∧ q.s.kind = q.c.kind)
    (hC : ∀ (b : Nat) o, all[b]? = some o → (o.c.kind = Int.ofNat 2 ∨ o.c.kind = Int.ofNat 3) → 0 ≤ o.to → Chk all o)
    (e3 : σ 3 = va) (e7 : σ 7 = iN 0) (k : ∀ σ1, Q (.exit 0) σ1 H) :
    LoopC Tryz.prog con (lpAt Tryz.prog 8 0) σ H Q := by
  obtain ⟨pv, ev⟩ := (hs.has hV).shape
  rw [List.length_map, hps] at ev
  refine LoopC.indP (n := 300) (id := 0) (fun σ1 H1 => H1 = H) (by kernel_rfl)
    (fun (n : Nat) σ1 H1 => n ≤ all.length ∧ H1 = H ∧ σ1 3 = va ∧ σ1 7 = iN n) (fun n => all.length - n) (fun n σ1 H1 hI => ?_) (fun σ1 H1 hP => by obtain rfl := hP; exact k σ1) 0 _ _ ⟨Nat.zero_le _, rfl, e3, e7⟩
  obtain ⟨hn, rfl, a3, a7⟩ := hI
  rw [hp_lpA, codeW_cut 2, hpA0_W, a7]
  refine AsLen.eq (a3.trans ev) ?_
  repeat (refine gO ?_; intros)
  by_cases h : n < all.length
  · refine Cd.t (ltZ_t h) ?_
    obtain ⟨o, eo⟩ : ∃ q, all[n]? = some q := ⟨_, List.getElem?_eq_getElem h⟩
    obtain ⟨po, ep⟩ : ∃ p, ps[n]? = some p := ⟨_, List.getElem?_eq_getElem (by omega)⟩
    obtain ⟨r3, r4, r5, r6, r7, g, sn, r8, r9, r10, r11, r12, _, hO⟩ := qat_cells hs (hQ.all (zip_get' _ ep eo) qat_mono)
    have hr : (ps.map fun p => [ptr p 0])[n]? = some [ptr po 0] := by rw [List.getElem?_map, ep]; rfl
    obtain ⟨b, evb, _⟩ := (hs.has hV).slot hr
    rw [List.length_map, hps] at evb
    have post : ∀ (σ2 : TF), σ2 3 = va → σ2 7 = iN n → codeW (dropC (2 + 1) (blkC (lpAt Tryz.prog 8 0))) Tryz.prog con σ2 H1 (fun e => ceP e (fun σ3 H3 => ∃ y, all.length - y < all.length - n ∧ y ≤ all.length ∧ H3 = H1 ∧ σ3 3 = va ∧ σ3 7 = iN y) (fun i σ3 H3 => i = 0 ∧ H3 = H1) (Q .ret)) := fun σ2 b3 b7 => by
      rw [hpA3_W, b7]
      repeat (refine gO ?_; intros)
      try rw [addInt]
      refine inR_nat (by omega) ?_
      repeat (refine gO ?_; intros)
      show ∃ y, _ ∧ _
      exact ⟨n + 1, by omega, h, rfl, b3, rfl⟩
    rw [ceP_n, codeW_cut2 2 1, hp_slA, codeW_one, codeW_blk (id := 1) hp_bkA, codeW_cut 1, hpC0_W]
    refine AsSlc.eq (a3.trans evb) ?_
    show AsCnt (σ1 7) _
    rw [a7]
    repeat (refine gO ?_; intros)
    refine Must.mk (ltN_t h) ?_
    refine ldVec hs hV evb hr (j := 0) (by show 0 + n * 1 = _; omega) (by omega) rfl ?_
    rw [ceP_n]
    have hO1 : Sat [Own po (qC sl o r3 r4 r5 r6 r7 r8 r9 r10 r11 r12 o.to)] H1 := hO.ent ee
    refine hp_c1 hc hO1 rfl (fun σ2 hK h58 => ?_) (fun hk h0 σ2 hK h8 h58 => ?_)
    · rw [codeW_cut2 2 1, hpC2_W, h58]
      refine AsBool.mk (Cd.t rfl ?_)
      rw [ceP_x, ceP_x]
      refine Cd.t (eqN_self 1) ?_
      rw [ceP_n]
      exact post σ2 (hK.1.trans a3) (hK.2.trans a7)
    · rw [codeW_cut2 2 1, hpC2_W, h58]
      refine AsBool.mk (Cd.f rfl ?_)
      rw [ceP_n]
      refine hp_o hc hs hV hQ hps hl hT hO hk (hC n o eo hk h0) (hK.1.trans a3) h8 fun σ3 hK3 => ?_
      show ceP CE.normal _ _ _ σ3 H1
      rw [ceP_n, ceP_n]
      exact post σ3 (hK3.1.trans (hK.1.trans a3)) (hK3.2.trans (hK.2.trans a7))
  · refine Cd.f (ltZ_f (by omega)) ?_
    rw [ceP_x]
    show _ = _ ∧ _
    exact ⟨rfl, rfl⟩
theorem hHolds_ok (hc : Con con lives) (hlive : ∀ H, con 22 ⟨[]⟩ H = some (.bool true, H)) {n0 : Int} {most : Nat} {calls : List (List C14)} (hc64 : Calls64b calls) {picks : List Int} {xv xw : Value} {R : List HP} {H : CH}
    (hl1 : calls.length ≤ 1048576) (hl2 : ∀ cs ∈ calls, cs.length ≤ 1048576) (hpc : picks.length ≤ 1048576) (hs : Sat (Thr14 xv calls :: IntsR xw picks :: R) H) :
    Call1 Tryz.prog con 8 [.agg ⟨[i64 n0, u64 most, xv, xw]⟩] H (fun v _ => v = .bool true) := by
  obtain ⟨pxv, cxv, exv⟩ := (hs.has has_thr14).len
  obtain ⟨pxw, cxw, exw⟩ := (hs.has (Has.skip has_ints)).len
  have hcx : isCell xv = true := by rw [exv]; rfl
  have hcw : isCell xw = true := by rw [exw]; rfl
  refine call_of (hc _ _ _ rfl) ?_
  rw [hHolds_W]
  refine na fun p1 H2 h2 => ?_
  refine call_yes (hlive _) ?_
  repeat (refine gO ?_; intros)
  refine l14ran_ok hc hc64 hl1 hl2 hpc (R := Own p1 [i64 n0, u64 most, xv, xw] :: R) (h2.ent ee) (fun _ H1 h1 => ?_) (fun h0 va ps m H1 hps h1 => ?_)
  · generalize (slots14 n0 most).1 = s at *
    obtain ⟨cam, first, count, ms⟩ := s
    repeat (refine gO ?_; intros)
    refine stN (by assumption) (Nat.le_of_ble_eq_true rfl) rfl fun H46 h46 => ?_
    repeat (refine gO ?_; intros)
    have h47 : Sat [Vec snil 96 1 (([] : List Nat).map fun p => [ptr p 0]), SatL (List.zipWith (QAt ⟨cam, first, count, ms⟩) [] [])] H46 := (Sat.none h46).nilV.ent ee
    refine hp_A hc (all := []) (ps := []) h47 Has.vec (Has.skip Has.sat) rfl (by simp) (fun b q h => by simp at h) (fun b o h => by simp at h) rfl rfl fun σ1 => ?_
    show Cd _ _ _
    refine Cd.t (eqN_self 0) ?_
    rfl
  · obtain ⟨c, c1, c2, c3, c4, es⟩ := slots14_yes h0
    have hsf := slots14_fine n0 most
    have hw0 := wf14 (slots14 n0 most).1 hsf.1 calls
    have hz := r14At_sz hc64 (stores := false) (picks := picks) hw0 picks.length
    have hT := tl_at hc64 (stores := false) (picks := picks) hw0 (fun b q h => by have h : ([] : List Q14)[b]? = some q := h; simp at h) picks.length
    have hI := invH_at c1 c2 c4 hc64 (picks := picks) (g := g14 (slots14 n0 most).2.2 calls) (most := most) (c := c) (by have := hw0; rw [es] at this ⊢; exact this) (by rw [es]; exact invH0 c1 c2 calls) picks.length
    have hI : InvH c most (run14 n0 most calls false picks picks.length) picks.length := by
      unfold run14
      rw [show (slots14 n0 most).1 = slH c most from by rw [es]]
      exact hI
    change TlA (run14 n0 most calls false picks picks.length) at hT
    change (run14 n0 most calls false picks picks.length).all.length ≤ _ ∧ _ at hz
    have hz1 : (g14 (slots14 n0 most).2.2 calls).all.length = 0 := rfl
    generalize run14 n0 most calls false picks picks.length = g at *
    generalize (slots14 n0 most).1 = s at *
    obtain ⟨cam, first, count, ms⟩ := s
    repeat (refine gO ?_; intros)
    refine stN (by assumption) (Nat.le_of_ble_eq_true rfl) rfl fun H46 h46 => ?_
    repeat (refine gO ?_; intros)
    have h47 : Sat [Vec va 96 1 (ps.map fun p => [ptr p 0]), SatL (List.zipWith (QAt ⟨cam, first, count, ms⟩) ps g.all)] H46 := h46.ent ee
    refine hp_A hc h47 Has.vec (Has.skip Has.sat) hps (by omega) hT hI.chk rfl rfl fun σ1 => ?_
    show Cd _ _ _
    refine Cd.t (eqN_self 0) ?_
    rfl
end Go.Proofs.YtocphcgcpjcfjaaGreat

