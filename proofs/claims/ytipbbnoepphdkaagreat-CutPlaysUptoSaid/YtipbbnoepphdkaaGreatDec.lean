/- What some functions' texts ask for, step by step, each checked by the kernel. No conditions. -/
import Derived.Test.YtipbbnoepphdkaaGreatProg
import Derived.Test.YtipbbnoepphdkaaGreatCmE
set_option linter.unusedVariables false
set_option linter.unusedSimpArgs false

/- What some functions' texts ask for, step by step, each checked by the kernel. No conditions. -/
set_option linter.unusedVariables false
namespace Go.Proofs.YtipbbnoepphdkaaGreat
open Go Go.CM

theorem arenaNew_W (con : CallT) (z : Int) (b : Bool) (H : CH) (K : KP) : funW Tryz.prog con 7 [.int .i64 z, .bool b] H K =
  (Cd (ltZ z (Int.ofNat 128)) (
    K (.tuple ⟨[(.pointer none), (.int .i64 (Int.ofNat 2))]⟩) H) (
    Cd (ltZ (Int.ofNat 4194304) z) (
      K (.tuple ⟨[(.pointer none), (.int .i64 (Int.ofNat 2))]⟩) H) (
      Cd b (
        MkS Tryz.prog H 134 (.int .i64 z) (.int .i64 z) fun v1 H2 =>
        Sc v1 (Nw H2 (mkRow 141 0 [v1, (.int .i64 (Int.ofNat 0))]) fun p3 H4 =>
        Call1 Tryz.prog con 43 [(ptr p3 1), (.int .i64 (Int.ofNat 1))] H4 fun v5 H6 =>
        Nw H6 (mkRow 146 0 [(.iface 133 (ptr p3 0)), (.bool true), (.slice none 0 0)]) fun p7 H8 =>
        K (.tuple ⟨[(ptr p7 0), (.int .i64 (Int.ofNat 0))]⟩) H8)) (
        MkS Tryz.prog H 36 (.int .i64 z) (.int .i64 z) fun v9 H10 =>
        Sc v9 (Nw H10 (mkRow 149 0 [v9, (.int .i64 (Int.ofNat 1))]) fun p11 H12 =>
        Nw H12 (mkRow 146 0 [(.iface 147 (ptr p11 0)), (.bool false), (.slice none 0 0)]) fun p13 H14 =>
        K (.tuple ⟨[(ptr p13 0), (.int .i64 (Int.ofNat 0))]⟩) H14))))) := by kernel_rfl

theorem memView_W (con : CallT) (m : Nat) (z : Int) (H : CH) (K : KP) : funW Tryz.prog con 10 [ptr m 0, .int .i64 z] H K =
  (Nw H (mkRow 156 0 [(ptr m 0), (.int .i64 z), (.int .i64 (Int.ofNat 0))]) fun p1 H2 =>
  K (ptr p1 0) H2) := by kernel_rfl

theorem viewStore_W (con : CallT) (p a x : Nat) (H : CH) (K : KP) : funW Tryz.prog con 20 [ptr p 0, .int .u64 (Int.ofNat a), .int .u64 (Int.ofNat x)] H K =
  (Ld H p 0 fun v1 =>
  Call1 Tryz.prog con 65 [v1, (.int .u64 (Int.ofNat a))] H fun v2 H3 =>
  AsBool v2 fun b4 =>
  Cd b4 (
    Ld H3 p 0 fun v5 =>
    NotNil Tryz.prog v5 (
    AsPtr v5 fun p6 o7 =>
    Ld H3 p6 (Nat.add o7 0) fun v8 =>
    Mth Tryz.prog con v8 "shutter/arena.store" [(.int .u64 (Int.ofNat a)), (.int .u64 (Int.ofNat x))] H3 fun v9 H10 =>
    Call1 Tryz.prog con 49 [(ptr p 0), (.agg ⟨[(.int .i64 (Int.ofNat 0)), (.int .u8 (Int.ofNat 2)), (.int .u64 (Int.ofNat a)), (.int .u64 (Int.ofNat x)), (.int .u64 (Int.ofNat 0)), (.slice none 0 0), (.int .u64 (Int.ofNat 0)), (.bool false)]⟩)] H10 fun v11 H12 =>
    K (.tuple ⟨[]⟩) H12)) (
    Call1 Tryz.prog con 49 [(ptr p 0), (.agg ⟨[(.int .i64 (Int.ofNat 0)), (.int .u8 (Int.ofNat 2)), (.int .u64 (Int.ofNat a)), (.int .u64 (Int.ofNat x)), (.int .u64 (Int.ofNat 0)), (.slice none 0 0), (.int .u64 (Int.ofNat 0)), (.bool false)]⟩)] H3 fun v13 H14 =>
    K (.tuple ⟨[]⟩) H14)) := by kernel_rfl

theorem viewLoad_W (con : CallT) (p a : Nat) (H : CH) (K : KP) : funW Tryz.prog con 125 [ptr p 0, .int .u64 (Int.ofNat a)] H K =
  (Ld H p 0 fun v1 =>
  Call1 Tryz.prog con 48 [v1, (.int .u64 (Int.ofNat a))] H fun v2 H3 =>
  Sc v2 (Call1 Tryz.prog con 49 [(ptr p 0), (.agg ⟨[(.int .i64 (Int.ofNat 0)), (.int .u8 (Int.ofNat 1)), (.int .u64 (Int.ofNat a)), (.int .u64 (Int.ofNat 0)), (.int .u64 (Int.ofNat 0)), (.slice none 0 0), v2, (.bool false)]⟩)] H3 fun v4 H5 =>
  K v2 H5)) := by kernel_rfl

theorem memPeek_W (con : CallT) (m a : Nat) (H : CH) (K : KP) : funW Tryz.prog con 48 [ptr m 0, .int .u64 (Int.ofNat a)] H K =
  (Call1 Tryz.prog con 65 [(ptr m 0), (.int .u64 (Int.ofNat a))] H fun v1 H2 =>
  AsBool v1 fun b3 =>
  Cd (notB b3) (
    K (.int .u64 (Int.ofNat 0)) H2) (
    Ld H2 m 0 fun v4 =>
    Mth Tryz.prog con v4 "shutter/arena.load" [(.int .u64 (Int.ofNat a))] H2 fun v5 H6 =>
    K v5 H6)) := by kernel_rfl

theorem memHas_W (con : CallT) (m a : Nat) (H : CH) (K : KP) : funW Tryz.prog con 65 [ptr m 0, .int .u64 (Int.ofNat a)] H K =
  (Ld H m 0 fun v1 =>
  Mth Tryz.prog con v1 "shutter/arena.size" [] H fun v2 H3 =>
  AsInt .i64 v2 fun z4 =>
  Must (cvOk .i64 z4) (
  K (.bool (ltN a (wrapN .u64 z4))) H3)) := by kernel_rfl

theorem viewNote_W (con : CallT) (p : Nat) (c0 c1 c2 c3 c4 c5 c6 c7 : Value) (H : CH) (K : KP) : funW Tryz.prog con 49 [ptr p 0, .agg ⟨[c0, c1, c2, c3, c4, c5, c6, c7]⟩] H K =
  (Nw H (mkRow 161 0 [c0, c1, c2, c3, c4, c5, c6, c7]) fun p1 H2 =>
  Ld H2 p 2 fun v3 =>
  AsInt .i64 v3 fun z4 =>
  InR (Int.add z4 (Int.ofNat 1)) (
  St H2 p 2 [(.int .i64 (Int.add z4 (Int.ofNat 1)))] fun H5 =>
  Ld H5 p 0 fun v6 =>
  NotNil Tryz.prog v6 (
  AsPtr v6 fun p7 o8 =>
  Ld H5 p7 (Nat.add o8 1) fun v9 =>
  AsBool v9 fun b10 =>
  Cd (notB b10) (
    Ld H5 p 1 fun v11 =>
    Sc v11 (St H5 p1 0 [v11] fun H12 =>
    Ld H12 p 0 fun v13 =>
    Ld H12 p 0 fun v14 =>
    NotNil Tryz.prog v14 (
    AsPtr v14 fun p15 o16 =>
    Ld H12 p15 (Nat.add o16 2) fun v17 =>
    Ld H12 p1 0 fun v18 =>
    Ld H12 p1 1 fun v19 =>
    Ld H12 p1 2 fun v20 =>
    Ld H12 p1 3 fun v21 =>
    Ld H12 p1 4 fun v22 =>
    Ld H12 p1 5 fun v23 =>
    Ld H12 p1 6 fun v24 =>
    Ld H12 p1 7 fun v25 =>
    Nw H12 (mkRow 161 0 [v18, v19, v20, v21, v22, v23, v24, v25]) fun p26 H27 =>
    App Tryz.prog 55 55 H27 v17 (.slice (some ⟨p26, 0, none⟩) 1 1) fun v28 H29 =>
    NotNil Tryz.prog v13 (
    AsPtr v13 fun p30 o31 =>
    Sc v28 (St H29 p30 (Nat.add o31 2) [v28] fun H32 =>
    Ld H12 p15 (Nat.add o16 2) fun v33 =>
    Same v17 v33 (
    Ld H27 p15 (Nat.add o16 2) fun v34 =>
    Same v17 v34 (
    Ld H12 p 0 fun v35 =>
    Same v14 v35 (
    Ld H27 p 0 fun v36 =>
    Same v14 v36 (
    Ld H12 p 0 fun v37 =>
    Same v13 v37 (
    Ld H27 p 0 fun v38 =>
    Same v13 v38 (
    Ld H29 p 0 fun v39 =>
    Same v13 v39 (
    K (.tuple ⟨[]⟩) H32)))))))))))) (
    K (.tuple ⟨[]⟩) H5)))) := by kernel_rfl

theorem memTrace_W (con : CallT) (m : Nat) (H : CH) (K : KP) : funW Tryz.prog con 19 [ptr m 0] H K =
  (Ld H m 2 fun v1 =>
  Call1 Tryz.prog con 64 [v1] H fun v2 H3 =>
  AsLen v2 fun l4 =>
  LoopC Tryz.prog con (lpAt Tryz.prog 19 0) (upd (upd (upd (upd (upd (upd (upd (upd (upd (upd (upd (upd (upd (fun _ => undV) 0 (ptr m 0)) 2 (.slice none 0 0)) 5 (ptr m 0)) 6 (.bool false)) 7 (ptr m 0)) 8 (ptr m 0)) 9 (ptr m 2)) 10 v1) 11 v2) 3 v2) 12 v2) 13 (.int .i64 (Int.ofNat l4))) 14 (.int .i64 (Int.ofNat 0))) H3 (fun e => ceP e
  (fun a5 H6 =>
    K (a5 3) H6)
  (fun i7 => fun a5 H6 =>
    Cd (eqN i7 0) (
      K (a5 3) H6) (
      False))
  (fun a5 H6 =>
    K (a5 2) H6))) := by kernel_rfl

theorem memMade_W (con : CallT) (m : Nat) (H : CH) (K : KP) : funW Tryz.prog con 113 [ptr m 0] H K =
  (Ld H m 2 fun v1 =>
  AsLen v1 fun l2 =>
  K (.int .i64 (Int.ofNat l2)) H) := by kernel_rfl

theorem viewCas_W (con : CallT) (p a x y : Nat) (H : CH) (K : KP) : funW Tryz.prog con 129 [ptr p 0, .int .u64 (Int.ofNat a), .int .u64 (Int.ofNat x), .int .u64 (Int.ofNat y)] H K =
  (Ld H p 0 fun v1 =>
  Call1 Tryz.prog con 65 [v1, (.int .u64 (Int.ofNat a))] H fun v2 H3 =>
  AsWant v2 (False) fun b4 =>
  Cd b4 (
    Ld H3 p 0 fun v5 =>
    NotNil Tryz.prog v5 (
    AsPtr v5 fun p6 o7 =>
    Ld H3 p6 (Nat.add o7 0) fun v8 =>
    Mth Tryz.prog con v8 "shutter/arena.cas" [(.int .u64 (Int.ofNat a)), (.int .u64 (Int.ofNat x)), (.int .u64 (Int.ofNat y))] H3 fun v9 H10 =>
    Sc v9 (Call1 Tryz.prog con 49 [(ptr p 0), (.agg ⟨[(.int .i64 (Int.ofNat 0)), (.int .u8 (Int.ofNat 3)), (.int .u64 (Int.ofNat a)), (.int .u64 (Int.ofNat x)), (.int .u64 (Int.ofNat y)), (.slice none 0 0), (.int .u64 (Int.ofNat 0)), v9]⟩)] H10 fun v11 H12 =>
    K v9 H12))) (
    Call1 Tryz.prog con 49 [(ptr p 0), (.agg ⟨[(.int .i64 (Int.ofNat 0)), (.int .u8 (Int.ofNat 3)), (.int .u64 (Int.ofNat a)), (.int .u64 (Int.ofNat x)), (.int .u64 (Int.ofNat y)), (.slice none 0 0), (.int .u64 (Int.ofNat 0)), (.bool false)]⟩)] H3 fun v13 H14 =>
    K (.bool false) H14)) := by kernel_rfl

theorem viewAlloc_W (con : CallT) (p : Nat) (v : Value) (H : CH) (K : KP) : funW Tryz.prog con 11 [ptr p 0, v] H K =
  (AsLen v fun l1 =>
  Cd (ltZ (Int.ofNat 0) (Int.ofNat l1)) (
    Ld H p 0 fun v2 =>
    NotNil Tryz.prog v2 (
    AsPtr v2 fun p3 o4 =>
    Ld H p3 (Nat.add o4 0) fun v5 =>
    Mth Tryz.prog con v5 "shutter/arena.alloc" [v] H fun v6 H7 =>
    Call1 Tryz.prog con 50 [v] H7 fun v8 H9 =>
    Sc v6 (Sc v8 (Call1 Tryz.prog con 49 [(ptr p 0), (.agg ⟨[(.int .i64 (Int.ofNat 0)), (.int .u8 (Int.ofNat 5)), v6, (.int .u64 (Int.ofNat 0)), (.int .u64 (Int.ofNat 0)), v8, (.int .u64 (Int.ofNat 0)), (.bool false)]⟩)] H9 fun v10 H11 =>
    K v6 H11)))) (
    Call1 Tryz.prog con 50 [v] H fun v12 H13 =>
    Sc v12 (Call1 Tryz.prog con 49 [(ptr p 0), (.agg ⟨[(.int .i64 (Int.ofNat 0)), (.int .u8 (Int.ofNat 5)), (.int .u64 (Int.ofNat 0)), (.int .u64 (Int.ofNat 0)), (.int .u64 (Int.ofNat 0)), v12, (.int .u64 (Int.ofNat 0)), (.bool false)]⟩)] H13 fun v14 H15 =>
    K (.int .u64 (Int.ofNat 0)) H15))) := by kernel_rfl

theorem plainAdd_W (con : CallT) (p a x : Nat) (H : CH) (K : KP) : funW Tryz.prog con 205 [ptr p 0, .int .u64 (Int.ofNat a), .int .u64 (Int.ofNat x)] H K =
  (False) := by kernel_rfl

theorem plainAlloc_W (con : CallT) (p : Nat) (v : Value) (H : CH) (K : KP) : funW Tryz.prog con 206 [ptr p 0, v] H K =
  (AsLen v fun l1 =>
  Ld H p 0 fun v2 =>
  AsLen v2 fun l3 =>
  Ld H p 1 fun v4 =>
  AsInt .i64 v4 fun z5 =>
  InR (Int.sub (Int.ofNat l3) z5) (
  Cd (ltZ (Int.sub (Int.ofNat l3) z5) (Int.ofNat l1)) (
    K (.int .u64 (Int.ofNat 0)) H) (
    Ld H p 1 fun v6 =>
    Ld H p 1 fun v7 =>
    Ld H p 0 fun v8 =>
    Slc Tryz.prog H 36 v8 (some v6) none none fun v9 =>
    Cpy Tryz.prog 36 H v9 v fun v10 H11 =>
    AsInt .i64 v7 fun z12 =>
    AsInt .i64 v10 fun z13 =>
    InR (Int.add z12 z13) (
    St H11 p 1 [(.int .i64 (Int.add z12 z13))] fun H14 =>
    Ld H p 1 fun v15 =>
    Same v7 v15 (
    Ld H11 p 1 fun v16 =>
    Same v7 v16 (
    AsInt .i64 v6 fun z17 =>
    Must (cvOk .i64 z17) (
    K (.int .u64 (Int.ofNat (wrapN .u64 z17))) H14))))))) := by kernel_rfl

theorem plainCas_W (con : CallT) (p a x y : Nat) (H : CH) (K : KP) : funW Tryz.prog con 207 [ptr p 0, .int .u64 (Int.ofNat a), .int .u64 (Int.ofNat x), .int .u64 (Int.ofNat y)] H K =
  (Ld H p 0 fun v1 =>
  AsSlc v1 fun p2 o3 l4 c5 =>
  Must (ltN a l4) (
  Ld H p2 (Nat.add o3 (Nat.mul a 1)) fun v6 =>
  AsNat .u64 v6 fun n7 =>
  Cd (notB (eqN n7 x)) (
    K (.bool false) H) (
    Ld H p 0 fun v8 =>
    AsSlc v8 fun p9 o10 l11 c12 =>
    Must (ltN a l11) (
    St H p9 (Nat.add o10 (Nat.mul a 1)) [(.int .u64 (Int.ofNat y))] fun H13 =>
    K (.bool true) H13)))) := by kernel_rfl

theorem plainLoad_W (con : CallT) (p a : Nat) (H : CH) (K : KP) : funW Tryz.prog con 209 [ptr p 0, .int .u64 (Int.ofNat a)] H K =
  (Ld H p 0 fun v1 =>
  AsSlc v1 fun p2 o3 l4 c5 =>
  Must (ltN a l4) (
  Ld H p2 (Nat.add o3 (Nat.mul a 1)) fun v6 =>
  K v6 H)) := by kernel_rfl

theorem plainNext_W (con : CallT) (p : Nat) (H : CH) (K : KP) : funW Tryz.prog con 210 [ptr p 0] H K =
  (False) := by kernel_rfl

theorem plainSize_W (con : CallT) (p : Nat) (H : CH) (K : KP) : funW Tryz.prog con 211 [ptr p 0] H K =
  (Ld H p 0 fun v1 =>
  AsLen v1 fun l2 =>
  K (.int .i64 (Int.ofNat l2)) H) := by kernel_rfl

theorem plainStore_W (con : CallT) (p a x : Nat) (H : CH) (K : KP) : funW Tryz.prog con 212 [ptr p 0, .int .u64 (Int.ofNat a), .int .u64 (Int.ofNat x)] H K =
  (Ld H p 0 fun v1 =>
  AsSlc v1 fun p2 o3 l4 c5 =>
  Must (ltN a l4) (
  St H p2 (Nat.add o3 (Nat.mul a 1)) [(.int .u64 (Int.ofNat x))] fun H6 =>
  K (.tuple ⟨[]⟩) H6)) := by kernel_rfl

theorem cloneN_W (con : CallT) (v : Value) (H : CH) (K : KP) : funW Tryz.prog con 50 [v] H K =
  (IsNil .slc v fun b1 =>
  Cd b1 (
    K (.slice none 0 0) H) (
    Nw H (mkRow 32 0 []) fun p2 H3 =>
    App Tryz.prog 36 36 H3 (.slice (some ⟨p2, 0, none⟩) 0 0) v fun v4 H5 =>
    K v4 H5)) := by kernel_rfl

theorem cloneA_W (con : CallT) (v : Value) (H : CH) (K : KP) : funW Tryz.prog con 64 [v] H K =
  (IsNil .slc v fun b1 =>
  Cd b1 (
    K (.slice none 0 0) H) (
    Nw H (mkRow 161 0 []) fun p2 H3 =>
    App Tryz.prog 55 55 H3 (.slice (some ⟨p2, 0, none⟩) 0 0) v fun v4 H5 =>
    K v4 H5)) := by kernel_rfl

theorem refNew_W (con : CallT) (z : Int) (b : Bool) (H : CH) (K : KP) : funW Tryz.prog con 9 [.int .i64 z, .bool b] H K =
  (Cd (ltZ z (Int.ofNat 128)) (
    K (.tuple ⟨[(.pointer none), (.int .i64 (Int.ofNat 2))]⟩) H) (
    Cd (ltZ (Int.ofNat 4194304) z) (
      K (.tuple ⟨[(.pointer none), (.int .i64 (Int.ofNat 2))]⟩) H) (
      MkS Tryz.prog H 36 (.int .i64 z) (.int .i64 z) fun v1 H2 =>
      Sc v1 (Nw H2 (mkRow 58 0 [v1, (.int .i64 (Int.ofNat 1)), (.slice none 0 0), (.bool b)]) fun p3 H4 =>
      K (.tuple ⟨[(ptr p3 0), (.int .i64 (Int.ofNat 0))]⟩) H4)))) := by kernel_rfl

theorem refStore_W (con : CallT) (p a x : Nat) (t : Int) (H : CH) (K : KP) : funW Tryz.prog con 21 [ptr p 0, .int .i64 t, .int .u64 (Int.ofNat a), .int .u64 (Int.ofNat x)] H K =
  (Call1 Tryz.prog con 66 [(ptr p 0), (.int .u64 (Int.ofNat a)), (.int .u64 (Int.ofNat x))] H fun v1 H2 =>
  Call1 Tryz.prog con 52 [(ptr p 0), (.agg ⟨[(.int .i64 t), (.int .u8 (Int.ofNat 2)), (.int .u64 (Int.ofNat a)), (.int .u64 (Int.ofNat x)), (.int .u64 (Int.ofNat 0)), (.slice none 0 0), (.int .u64 (Int.ofNat 0)), (.bool false)]⟩)] H2 fun v3 H4 =>
  K (.tuple ⟨[]⟩) H4) := by kernel_rfl

theorem refLoad_W (con : CallT) (p a : Nat) (t : Int) (H : CH) (K : KP) : funW Tryz.prog con 115 [ptr p 0, .int .i64 t, .int .u64 (Int.ofNat a)] H K =
  (Call1 Tryz.prog con 86 [(ptr p 0), (.int .u64 (Int.ofNat a))] H fun v1 H2 =>
  Sc v1 (Call1 Tryz.prog con 52 [(ptr p 0), (.agg ⟨[(.int .i64 t), (.int .u8 (Int.ofNat 1)), (.int .u64 (Int.ofNat a)), (.int .u64 (Int.ofNat 0)), (.int .u64 (Int.ofNat 0)), (.slice none 0 0), v1, (.bool false)]⟩)] H2 fun v3 H4 =>
  K v1 H4)) := by kernel_rfl

theorem refPeek_W (con : CallT) (p a : Nat) (H : CH) (K : KP) : funW Tryz.prog con 86 [ptr p 0, .int .u64 (Int.ofNat a)] H K =
  (Ld H p 0 fun v1 =>
  AsLen v1 fun l2 =>
  Must (cvOk .i64 (Int.ofNat l2)) (
  Cd (leN (wrapN .u64 (Int.ofNat l2)) a) (
    K (.int .u64 (Int.ofNat 0)) H) (
    Ld H p 0 fun v3 =>
    AsSlc v3 fun p4 o5 l6 c7 =>
    Must (ltN a l6) (
    Ld H p4 (Nat.add o5 (Nat.mul a 1)) fun v8 =>
    K v8 H)))) := by kernel_rfl

theorem refSet_W (con : CallT) (p a x : Nat) (H : CH) (K : KP) : funW Tryz.prog con 66 [ptr p 0, .int .u64 (Int.ofNat a), .int .u64 (Int.ofNat x)] H K =
  (Ld H p 0 fun v1 =>
  AsLen v1 fun l2 =>
  Must (cvOk .i64 (Int.ofNat l2)) (
  Cd (ltN a (wrapN .u64 (Int.ofNat l2))) (
    Ld H p 0 fun v3 =>
    AsSlc v3 fun p4 o5 l6 c7 =>
    Must (ltN a l6) (
    St H p4 (Nat.add o5 (Nat.mul a 1)) [(.int .u64 (Int.ofNat x))] fun H8 =>
    K (.tuple ⟨[]⟩) H8)) (
    K (.tuple ⟨[]⟩) H))) := by kernel_rfl

theorem refNote_W (con : CallT) (p : Nat) (c0 c1 c2 c3 c4 c5 c6 c7 : Value) (H : CH) (K : KP) : funW Tryz.prog con 52 [ptr p 0, .agg ⟨[c0, c1, c2, c3, c4, c5, c6, c7]⟩] H K =
  (Nw H (mkRow 161 0 [c0, c1, c2, c3, c4, c5, c6, c7]) fun p1 H2 =>
  Ld H2 p 3 fun v3 =>
  AsBool v3 fun b4 =>
  Cd (notB b4) (
    Ld H2 p 2 fun v5 =>
    Ld H2 p1 0 fun v6 =>
    Ld H2 p1 1 fun v7 =>
    Ld H2 p1 2 fun v8 =>
    Ld H2 p1 3 fun v9 =>
    Ld H2 p1 4 fun v10 =>
    Ld H2 p1 5 fun v11 =>
    Ld H2 p1 6 fun v12 =>
    Ld H2 p1 7 fun v13 =>
    Nw H2 (mkRow 161 0 [v6, v7, v8, v9, v10, v11, v12, v13]) fun p14 H15 =>
    App Tryz.prog 55 55 H15 v5 (.slice (some ⟨p14, 0, none⟩) 1 1) fun v16 H17 =>
    Sc v16 (St H17 p 2 [v16] fun H18 =>
    Ld H2 p 2 fun v19 =>
    Same v5 v19 (
    Ld H15 p 2 fun v20 =>
    Same v5 v20 (
    K (.tuple ⟨[]⟩) H18)))) (
    K (.tuple ⟨[]⟩) H2)) := by kernel_rfl

theorem refAlloc_W (con : CallT) (p : Nat) (t : Int) (v : Value) (H : CH) (K : KP) : funW Tryz.prog con 12 [ptr p 0, .int .i64 t, v] H K =
  (AsLen v fun l1 =>
  Cd (ltZ (Int.ofNat 0) (Int.ofNat l1)) (
    AsLen v fun l2 =>
    Call1 Tryz.prog con 51 [(ptr p 0)] H fun v3 H4 =>
    AsInt .i64 v3 fun z5 =>
    Cd (leZ (Int.ofNat l2) z5) (
      Ld H4 p 1 fun v6 =>
      Ld H4 p 1 fun v7 =>
      AsLen v fun l8 =>
      AsInt .i64 v7 fun z9 =>
      InR (Int.add z9 (Int.ofNat l8)) (
      St H4 p 1 [(.int .i64 (Int.add z9 (Int.ofNat l8)))] fun H10 =>
      LoopC Tryz.prog con (lpAt Tryz.prog 12 0) (upd (upd (upd (upd (upd (upd (upd (upd (upd (upd (upd (upd (upd (upd (upd (upd (upd (upd (upd (upd (upd (upd (upd (upd (upd (upd (upd (upd (upd (upd (upd (upd (upd (upd (upd (upd (upd (fun _ => undV) 2 v) 1 (.int .i64 t)) 0 (ptr p 0)) 6 (.int .u64 (Int.ofNat 0))) 10 (ptr p 0)) 11 (.bool false)) 7 (.int .i64 (Int.ofNat 0))) 12 v) 13 (.int .i64 (Int.ofNat l1))) 14 (.bool (ltZ (Int.ofNat 0) (Int.ofNat l1)))) 15 (.bool (ltZ (Int.ofNat 0) (Int.ofNat l1)))) 15 (.bool true)) 16 v) 15 (.bool true)) 17 (.int .i64 (Int.ofNat l2))) 15 (.bool true)) 18 (ptr p 0)) 15 (.bool true)) 19 v3) 15 (.bool true)) 20 (.bool (leZ (Int.ofNat l2) z5))) 21 (.bool (leZ (Int.ofNat l2) z5))) 22 (ptr p 0)) 23 (ptr p 0)) 24 (ptr p 1)) 25 v6) 7 v6) 26 (ptr p 0)) 27 (ptr p 0)) 28 (ptr p 1)) 29 v7) 30 v) 31 (.int .i64 (Int.ofNat l8))) 32 (.int .i64 (Int.add z9 (Int.ofNat l8)))) 33 (ptr p 0)) 34 (ptr p 1)) 8 (.int .i64 (Int.ofNat 0))) H10 (fun e => ceP e
      (fun a11 H12 =>
        App Tryz.prog 36 36 H12 (.slice none 0 0) (a11 2) fun v14 H15 =>
        AsInt .i64 (a11 7) fun z16 =>
        Must (cvOk .i64 z16) (
        Sc (a11 1) (Sc v14 (Call1 Tryz.prog con 52 [(a11 0), (.agg ⟨[(a11 1), (.int .u8 (Int.ofNat 5)), (.int .u64 (Int.ofNat (wrapN .u64 z16))), (.int .u64 (Int.ofNat 0)), (.int .u64 (Int.ofNat 0)), v14, (.int .u64 (Int.ofNat 0)), (.bool false)]⟩)] H15 fun v17 H18 =>
        AsInt .i64 (a11 7) fun z19 =>
        Must (cvOk .i64 z19) (
        K (.int .u64 (Int.ofNat (wrapN .u64 z19))) H18)))))
      (fun i13 => fun a11 H12 =>
        Cd (eqN i13 0) (
          App Tryz.prog 36 36 H12 (.slice none 0 0) (a11 2) fun v20 H21 =>
          AsInt .i64 (a11 7) fun z22 =>
          Must (cvOk .i64 z22) (
          Sc (a11 1) (Sc v20 (Call1 Tryz.prog con 52 [(a11 0), (.agg ⟨[(a11 1), (.int .u8 (Int.ofNat 5)), (.int .u64 (Int.ofNat (wrapN .u64 z22))), (.int .u64 (Int.ofNat 0)), (.int .u64 (Int.ofNat 0)), v20, (.int .u64 (Int.ofNat 0)), (.bool false)]⟩)] H21 fun v23 H24 =>
          AsInt .i64 (a11 7) fun z25 =>
          Must (cvOk .i64 z25) (
          K (.int .u64 (Int.ofNat (wrapN .u64 z25))) H24))))) (
          False))
      (fun a11 H12 =>
        K (a11 6) H12)))) (
      App Tryz.prog 36 36 H4 (.slice none 0 0) v fun v26 H27 =>
      Must (cvOk .i64 (Int.ofNat 0)) (
      Sc v26 (Call1 Tryz.prog con 52 [(ptr p 0), (.agg ⟨[(.int .i64 t), (.int .u8 (Int.ofNat 5)), (.int .u64 (Int.ofNat (wrapN .u64 (Int.ofNat 0)))), (.int .u64 (Int.ofNat 0)), (.int .u64 (Int.ofNat 0)), v26, (.int .u64 (Int.ofNat 0)), (.bool false)]⟩)] H27 fun v28 H29 =>
      Must (cvOk .i64 (Int.ofNat 0)) (
      K (.int .u64 (Int.ofNat (wrapN .u64 (Int.ofNat 0)))) H29))))) (
    App Tryz.prog 36 36 H (.slice none 0 0) v fun v30 H31 =>
    Must (cvOk .i64 (Int.ofNat 0)) (
    Sc v30 (Call1 Tryz.prog con 52 [(ptr p 0), (.agg ⟨[(.int .i64 t), (.int .u8 (Int.ofNat 5)), (.int .u64 (Int.ofNat (wrapN .u64 (Int.ofNat 0)))), (.int .u64 (Int.ofNat 0)), (.int .u64 (Int.ofNat 0)), v30, (.int .u64 (Int.ofNat 0)), (.bool false)]⟩)] H31 fun v32 H33 =>
    Must (cvOk .i64 (Int.ofNat 0)) (
    K (.int .u64 (Int.ofNat (wrapN .u64 (Int.ofNat 0)))) H33))))) := by kernel_rfl

theorem refLeft_W (con : CallT) (p : Nat) (H : CH) (K : KP) : funW Tryz.prog con 51 [ptr p 0] H K =
  (Ld H p 0 fun v1 =>
  AsLen v1 fun l2 =>
  Ld H p 1 fun v3 =>
  AsInt .i64 v3 fun z4 =>
  InR (Int.sub (Int.ofNat l2) z4) (
  K (.int .i64 (Int.sub (Int.ofNat l2) z4)) H)) := by kernel_rfl

theorem sameTrace_W (con : CallT) (v w : Value) (H : CH) (K : KP) : funW Tryz.prog con 18 [v, w] H K =
  (AsLen v fun l1 =>
  AsLen w fun l2 =>
  Cd (notB (eqZ (Int.ofNat l1) (Int.ofNat l2))) (
    K (.bool false) H) (
    LoopC Tryz.prog con (lpAt Tryz.prog 18 0) (upd (upd (upd (upd (upd (upd (upd (upd (upd (fun _ => undV) 1 w) 0 v) 4 (.bool false)) 6 v) 7 (.int .i64 (Int.ofNat l1))) 8 w) 9 (.int .i64 (Int.ofNat l2))) 10 (.bool (notB (eqZ (Int.ofNat l1) (Int.ofNat l2))))) 5 (.int .i64 (Int.ofNat 0))) H (fun e => ceP e
    (fun a3 H4 =>
      K (.bool true) H4)
    (fun i5 => fun a3 H4 =>
      Cd (eqN i5 0) (
        K (.bool true) H4) (
        False))
    (fun a3 H4 =>
      K (a3 4) H4)))) := by kernel_rfl

theorem sameAccess_W (con : CallT) (c0 c1 c2 c3 c4 c5 c6 c7 d0 d1 d2 d3 d4 d5 d6 d7 : Value) (H : CH) (K : KP) : funW Tryz.prog con 63 [.agg ⟨[c0, c1, c2, c3, c4, c5, c6, c7]⟩, .agg ⟨[d0, d1, d2, d3, d4, d5, d6, d7]⟩] H K =
  (Nw H (mkRow 161 0 [c0, c1, c2, c3, c4, c5, c6, c7]) fun p1 H2 =>
  Nw H2 (mkRow 161 0 [d0, d1, d2, d3, d4, d5, d6, d7]) fun p3 H4 =>
  Ld H4 p1 0 fun v5 =>
  Ld H4 p3 0 fun v6 =>
  AsInt .i64 v5 fun z7 =>
  AsInt .i64 v6 fun z8 =>
  Cd (notB (eqZ z7 z8)) (
    K (.bool false) H4) (
    Ld H4 p1 1 fun v9 =>
    Ld H4 p3 1 fun v10 =>
    AsNat .u8 v9 fun n11 =>
    AsNat .u8 v10 fun n12 =>
    Cd (notB (eqN n11 n12)) (
      K (.bool false) H4) (
      Ld H4 p1 2 fun v13 =>
      Ld H4 p3 2 fun v14 =>
      AsNat .u64 v13 fun n15 =>
      AsNat .u64 v14 fun n16 =>
      Cd (notB (eqN n15 n16)) (
        K (.bool false) H4) (
        Ld H4 p1 3 fun v17 =>
        Ld H4 p3 3 fun v18 =>
        AsNat .u64 v17 fun n19 =>
        AsNat .u64 v18 fun n20 =>
        Cd (notB (eqN n19 n20)) (
          K (.bool false) H4) (
          Ld H4 p1 4 fun v21 =>
          Ld H4 p3 4 fun v22 =>
          AsNat .u64 v21 fun n23 =>
          AsNat .u64 v22 fun n24 =>
          Cd (notB (eqN n23 n24)) (
            K (.bool false) H4) (
            Ld H4 p1 6 fun v25 =>
            Ld H4 p3 6 fun v26 =>
            AsNat .u64 v25 fun n27 =>
            AsNat .u64 v26 fun n28 =>
            Cd (notB (eqN n27 n28)) (
              K (.bool false) H4) (
              Ld H4 p1 7 fun v29 =>
              Ld H4 p3 7 fun v30 =>
              AsBool v29 fun b31 =>
              AsBool v30 fun b32 =>
              Cd (notB (eqB b31 b32)) (
                K (.bool false) H4) (
                Ld H4 p1 5 fun v33 =>
                AsLen v33 fun l34 =>
                Ld H4 p3 5 fun v35 =>
                AsLen v35 fun l36 =>
                Cd (notB (eqZ (Int.ofNat l34) (Int.ofNat l36))) (
                  K (.bool false) H4) (
                  LoopC Tryz.prog con (lpAt Tryz.prog 63 0) (upd (upd (upd (upd (upd (upd (upd (upd (upd (upd (upd (upd (upd (upd (upd (upd (upd (upd (upd (upd (upd (upd (upd (upd (upd (upd (upd (upd (upd (upd (upd (upd (upd (upd (upd (upd (upd (upd (upd (upd (upd (upd (upd (upd (upd (upd (upd (upd (upd (upd (upd (upd (upd (upd (upd (upd (upd (upd (upd (upd (upd (upd (upd (upd (upd (upd (upd (upd (upd (upd (upd (upd (upd (upd (upd (upd (upd (upd (upd (upd (upd (upd (upd (upd (upd (upd (upd (upd (upd (upd (upd (upd (upd (upd (upd (upd (upd (upd (upd (fun _ => undV) 1 (.agg ⟨[d0, d1, d2, d3, d4, d5, d6, d7]⟩)) 0 (.agg ⟨[c0, c1, c2, c3, c4, c5, c6, c7]⟩)) 2 (ptr p1 0)) 3 (ptr p3 0)) 4 (.bool false)) 6 (ptr p1 0)) 7 v5) 8 (ptr p3 0)) 9 v6) 10 (.bool (notB (eqZ z7 z8)))) 11 (.bool (notB (eqZ z7 z8)))) 11 (.bool false)) 12 (ptr p1 1)) 11 (.bool false)) 13 v9) 11 (.bool false)) 14 (ptr p3 1)) 11 (.bool false)) 15 v10) 11 (.bool false)) 16 (.bool (notB (eqN n11 n12)))) 17 (.bool (notB (eqN n11 n12)))) 18 (.bool (notB (eqN n11 n12)))) 18 (.bool false)) 19 (ptr p1 2)) 18 (.bool false)) 20 v13) 18 (.bool false)) 21 (ptr p3 2)) 18 (.bool false)) 22 v14) 18 (.bool false)) 23 (.bool (notB (eqN n15 n16)))) 24 (.bool (notB (eqN n15 n16)))) 25 (.bool (notB (eqN n15 n16)))) 25 (.bool false)) 26 (ptr p1 3)) 25 (.bool false)) 27 v17) 25 (.bool false)) 28 (ptr p3 3)) 25 (.bool false)) 29 v18) 25 (.bool false)) 30 (.bool (notB (eqN n19 n20)))) 31 (.bool (notB (eqN n19 n20)))) 32 (.bool (notB (eqN n19 n20)))) 32 (.bool false)) 33 (ptr p1 4)) 32 (.bool false)) 34 v21) 32 (.bool false)) 35 (ptr p3 4)) 32 (.bool false)) 36 v22) 32 (.bool false)) 37 (.bool (notB (eqN n23 n24)))) 38 (.bool (notB (eqN n23 n24)))) 39 (.bool (notB (eqN n23 n24)))) 39 (.bool false)) 40 (ptr p1 6)) 39 (.bool false)) 41 v25) 39 (.bool false)) 42 (ptr p3 6)) 39 (.bool false)) 43 v26) 39 (.bool false)) 44 (.bool (notB (eqN n27 n28)))) 45 (.bool (notB (eqN n27 n28)))) 46 (.bool (notB (eqN n27 n28)))) 46 (.bool false)) 47 (ptr p1 7)) 46 (.bool false)) 48 v29) 46 (.bool false)) 49 (ptr p3 7)) 46 (.bool false)) 50 v30) 46 (.bool false)) 51 (.bool (notB (eqB b31 b32)))) 52 (.bool (notB (eqB b31 b32)))) 53 (.bool (notB (eqB b31 b32)))) 53 (.bool false)) 54 (ptr p1 5)) 53 (.bool false)) 55 v33) 53 (.bool false)) 56 (.int .i64 (Int.ofNat l34))) 53 (.bool false)) 57 (ptr p3 5)) 53 (.bool false)) 58 v35) 53 (.bool false)) 59 (.int .i64 (Int.ofNat l36))) 53 (.bool false)) 60 (.bool (notB (eqZ (Int.ofNat l34) (Int.ofNat l36))))) 61 (.bool (notB (eqZ (Int.ofNat l34) (Int.ofNat l36))))) 5 (.int .i64 (Int.ofNat 0))) H4 (fun e => ceP e
                  (fun a37 H38 =>
                    K (.bool true) H38)
                  (fun i39 => fun a37 H38 =>
                    Cd (eqN i39 0) (
                      K (.bool true) H38) (
                      False))
                  (fun a37 H38 =>
                    K (a37 4) H38))))))))))) := by kernel_rfl

end Go.Proofs.YtipbbnoepphdkaaGreat

/- What some functions' texts ask for, step by step, each checked by the kernel. No conditions. -/
set_option linter.unusedVariables false
namespace Go.Proofs.YtipbbnoepphdkaaGreat
open Go Go.CM

theorem sameAccessL_W (con : CallT) (a : TF) (H : CH) (K : KX) : codeW (lpAt Tryz.prog 63 0) Tryz.prog con a H K =
  (AsPtr (a 2) fun p1 o2 =>
  Ld H p1 (Nat.add o2 5) fun v3 =>
  AsLen v3 fun l4 =>
  AsInt .i64 (a 5) fun z5 =>
  Cd (ltZ z5 (Int.ofNat l4)) (
    AsPtr (a 2) fun p6 o7 =>
    Ld H p6 (Nat.add o7 5) fun v8 =>
    AsSlc v8 fun p9 o10 l11 c12 =>
    AsCnt (a 5) fun n13 =>
    Must (ltN n13 l11) (
    Ld H p9 (Nat.add o10 (Nat.mul n13 1)) fun v14 =>
    AsPtr (a 3) fun p15 o16 =>
    Ld H p15 (Nat.add o16 5) fun v17 =>
    AsSlc v17 fun p18 o19 l20 c21 =>
    AsCnt (a 5) fun n22 =>
    Must (ltN n22 l20) (
    Ld H p18 (Nat.add o19 (Nat.mul n22 1)) fun v23 =>
    AsNat .u64 v14 fun n24 =>
    AsNat .u64 v23 fun n25 =>
    Cd (notB (eqN n24 n25)) (
      K .ret (upd (upd (upd (upd (upd (upd (upd (upd (upd (upd (upd (upd (upd (upd (upd (upd (upd a 62 (a 5)) 63 (ptr p1 (Nat.add o2 5))) 64 v3) 65 (.int .i64 (Int.ofNat l4))) 66 (.bool (ltZ z5 (Int.ofNat l4)))) 69 (ptr p6 (Nat.add o7 5))) 70 v8) 71 (a 5)) 72 (ptr p9 (Nat.add o10 (Nat.mul n13 1)))) 73 v14) 74 (ptr p15 (Nat.add o16 5))) 75 v17) 76 (a 5)) 77 (ptr p18 (Nat.add o19 (Nat.mul n22 1)))) 78 v23) 79 (.bool (notB (eqN n24 n25)))) 4 (.bool false)) H) (
      AsInt .i64 (a 5) fun z26 =>
      InR (Int.add z26 (Int.ofNat 1)) (
      K .normal (upd (upd (upd (upd (upd (upd (upd (upd (upd (upd (upd (upd (upd (upd (upd (upd (upd (upd (upd a 62 (a 5)) 63 (ptr p1 (Nat.add o2 5))) 64 v3) 65 (.int .i64 (Int.ofNat l4))) 66 (.bool (ltZ z5 (Int.ofNat l4)))) 69 (ptr p6 (Nat.add o7 5))) 70 v8) 71 (a 5)) 72 (ptr p9 (Nat.add o10 (Nat.mul n13 1)))) 73 v14) 74 (ptr p15 (Nat.add o16 5))) 75 v17) 76 (a 5)) 77 (ptr p18 (Nat.add o19 (Nat.mul n22 1)))) 78 v23) 79 (.bool (notB (eqN n24 n25)))) 67 (a 5)) 68 (.int .i64 (Int.add z26 (Int.ofNat 1)))) 5 (.int .i64 (Int.add z26 (Int.ofNat 1)))) H))))) (
    K (.exit 0) (upd (upd (upd (upd (upd a 62 (a 5)) 63 (ptr p1 (Nat.add o2 5))) 64 v3) 65 (.int .i64 (Int.ofNat l4))) 66 (.bool (ltZ z5 (Int.ofNat l4)))) H)) := by kernel_rfl

theorem sameTraceL_W (con : CallT) (a : TF) (H : CH) (K : KX) : codeW (lpAt Tryz.prog 18 0) Tryz.prog con a H K =
  (AsLen (a 0) fun l1 =>
  AsInt .i64 (a 5) fun z2 =>
  Cd (ltZ z2 (Int.ofNat l1)) (
    AsSlc (a 0) fun p3 o4 l5 c6 =>
    AsCnt (a 5) fun n7 =>
    Must (ltN n7 l5) (
    Ld H p3 (Nat.add (Nat.add o4 (Nat.mul n7 8)) 0) fun v8 =>
    Ld H p3 (Nat.add (Nat.add o4 (Nat.mul n7 8)) 1) fun v9 =>
    Ld H p3 (Nat.add (Nat.add o4 (Nat.mul n7 8)) 2) fun v10 =>
    Ld H p3 (Nat.add (Nat.add o4 (Nat.mul n7 8)) 3) fun v11 =>
    Ld H p3 (Nat.add (Nat.add o4 (Nat.mul n7 8)) 4) fun v12 =>
    Ld H p3 (Nat.add (Nat.add o4 (Nat.mul n7 8)) 5) fun v13 =>
    Ld H p3 (Nat.add (Nat.add o4 (Nat.mul n7 8)) 6) fun v14 =>
    Ld H p3 (Nat.add (Nat.add o4 (Nat.mul n7 8)) 7) fun v15 =>
    AsSlc (a 1) fun p16 o17 l18 c19 =>
    AsCnt (a 5) fun n20 =>
    Must (ltN n20 l18) (
    Ld H p16 (Nat.add (Nat.add o17 (Nat.mul n20 8)) 0) fun v21 =>
    Ld H p16 (Nat.add (Nat.add o17 (Nat.mul n20 8)) 1) fun v22 =>
    Ld H p16 (Nat.add (Nat.add o17 (Nat.mul n20 8)) 2) fun v23 =>
    Ld H p16 (Nat.add (Nat.add o17 (Nat.mul n20 8)) 3) fun v24 =>
    Ld H p16 (Nat.add (Nat.add o17 (Nat.mul n20 8)) 4) fun v25 =>
    Ld H p16 (Nat.add (Nat.add o17 (Nat.mul n20 8)) 5) fun v26 =>
    Ld H p16 (Nat.add (Nat.add o17 (Nat.mul n20 8)) 6) fun v27 =>
    Ld H p16 (Nat.add (Nat.add o17 (Nat.mul n20 8)) 7) fun v28 =>
    Call1 Tryz.prog con 63 [(.agg ⟨[v8, v9, v10, v11, v12, v13, v14, v15]⟩), (.agg ⟨[v21, v22, v23, v24, v25, v26, v27, v28]⟩)] H fun v29 H30 =>
    AsBool v29 fun b31 =>
    Cd (notB b31) (
      K .ret (upd (upd (upd (upd (upd (upd (upd (upd (upd (upd (upd (upd (upd (upd (upd a 11 (a 5)) 12 (a 0)) 13 (.int .i64 (Int.ofNat l1))) 14 (.bool (ltZ z2 (Int.ofNat l1)))) 17 (a 0)) 18 (a 5)) 19 (ptr p3 (Nat.add o4 (Nat.mul n7 8)))) 20 (.agg ⟨[v8, v9, v10, v11, v12, v13, v14, v15]⟩)) 21 (a 1)) 22 (a 5)) 23 (ptr p16 (Nat.add o17 (Nat.mul n20 8)))) 24 (.agg ⟨[v21, v22, v23, v24, v25, v26, v27, v28]⟩)) 25 v29) 26 (.bool (notB b31))) 4 (.bool false)) H30) (
      AsInt .i64 (a 5) fun z32 =>
      InR (Int.add z32 (Int.ofNat 1)) (
      K .normal (upd (upd (upd (upd (upd (upd (upd (upd (upd (upd (upd (upd (upd (upd (upd (upd (upd a 11 (a 5)) 12 (a 0)) 13 (.int .i64 (Int.ofNat l1))) 14 (.bool (ltZ z2 (Int.ofNat l1)))) 17 (a 0)) 18 (a 5)) 19 (ptr p3 (Nat.add o4 (Nat.mul n7 8)))) 20 (.agg ⟨[v8, v9, v10, v11, v12, v13, v14, v15]⟩)) 21 (a 1)) 22 (a 5)) 23 (ptr p16 (Nat.add o17 (Nat.mul n20 8)))) 24 (.agg ⟨[v21, v22, v23, v24, v25, v26, v27, v28]⟩)) 25 v29) 26 (.bool (notB b31))) 15 (a 5)) 16 (.int .i64 (Int.add z32 (Int.ofNat 1)))) 5 (.int .i64 (Int.add z32 (Int.ofNat 1)))) H30))))) (
    K (.exit 0) (upd (upd (upd (upd a 11 (a 5)) 12 (a 0)) 13 (.int .i64 (Int.ofNat l1))) 14 (.bool (ltZ z2 (Int.ofNat l1)))) H)) := by kernel_rfl

theorem memTraceL_W (con : CallT) (a : TF) (H : CH) (K : KX) : codeW (lpAt Tryz.prog 19 0) Tryz.prog con a H K =
  (AsInt .i64 (a 14) fun z1 =>
  AsInt .i64 (a 13) fun z2 =>
  Cd (ltZ z1 z2) (
    AsSlc (a 3) fun p3 o4 l5 c6 =>
    AsCnt (a 14) fun n7 =>
    Must (ltN n7 l5) (
    Ld H p3 (Nat.add (Nat.add o4 (Nat.mul n7 8)) 5) fun v8 =>
    Call1 Tryz.prog con 50 [v8] H fun v9 H10 =>
    AsSlc (a 3) fun p11 o12 l13 c14 =>
    AsCnt (a 14) fun n15 =>
    Must (ltN n15 l13) (
    Sc v9 (St H10 p11 (Nat.add (Nat.add o12 (Nat.mul n15 8)) 5) [v9] fun H16 =>
    AsInt .i64 (a 14) fun z17 =>
    InR (Int.add z17 (Int.ofNat 1)) (
    K .normal (upd (upd (upd (upd (upd (upd (upd (upd (upd (upd (upd (upd (upd (upd (upd a 15 (.bool (ltZ z1 z2))) 16 (a 14)) 4 (a 14)) 17 (a 3)) 18 (a 14)) 19 (a 3)) 20 (a 14)) 21 (ptr p3 (Nat.add o4 (Nat.mul n7 8)))) 22 (ptr p3 (Nat.add (Nat.add o4 (Nat.mul n7 8)) 5))) 23 v8) 24 v9) 25 (ptr p11 (Nat.add o12 (Nat.mul n15 8)))) 26 (ptr p11 (Nat.add (Nat.add o12 (Nat.mul n15 8)) 5))) 27 (.int .i64 (Int.add z17 (Int.ofNat 1)))) 14 (.int .i64 (Int.add z17 (Int.ofNat 1)))) H16))))) (
    K (.exit 0) (upd a 15 (.bool (ltZ z1 z2))) H)) := by kernel_rfl

theorem refAllocL_W (con : CallT) (a : TF) (H : CH) (K : KX) : codeW (lpAt Tryz.prog 12 0) Tryz.prog con a H K =
  (AsLen (a 2) fun l1 =>
  AsInt .i64 (a 8) fun z2 =>
  Cd (ltZ z2 (Int.ofNat l1)) (
    NotNil Tryz.prog (a 0) (
    AsPtr (a 0) fun p3 o4 =>
    Ld H p3 (Nat.add o4 0) fun v5 =>
    AsInt .i64 (a 7) fun z6 =>
    AsInt .i64 (a 8) fun z7 =>
    InR (Int.add z6 z7) (
    AsSlc (a 2) fun p8 o9 l10 c11 =>
    AsCnt (a 8) fun n12 =>
    Must (ltN n12 l10) (
    Ld H p8 (Nat.add o9 (Nat.mul n12 1)) fun v13 =>
    AsSlc v5 fun p14 o15 l16 c17 =>
    AsCnt (.int .i64 (Int.add z6 z7)) fun n18 =>
    Must (ltN n18 l16) (
    Sc v13 (St H p14 (Nat.add o15 (Nat.mul n18 1)) [v13] fun H19 =>
    AsInt .i64 (a 8) fun z20 =>
    InR (Int.add z20 (Int.ofNat 1)) (
    K .normal (upd (upd (upd (upd (upd (upd (upd (upd (upd (upd (upd (upd (upd (upd (upd (upd (upd (upd (upd a 35 (a 8)) 36 (a 2)) 37 (.int .i64 (Int.ofNat l1))) 38 (.bool (ltZ z2 (Int.ofNat l1)))) 41 (a 0)) 42 (a 0)) 43 (ptr p3 (Nat.add o4 0))) 44 v5) 45 (a 7)) 46 (a 8)) 47 (.int .i64 (Int.add z6 z7))) 48 (a 2)) 49 (a 8)) 50 (ptr p8 (Nat.add o9 (Nat.mul n12 1)))) 51 v13) 52 (ptr p14 (Nat.add o15 (Nat.mul n18 1)))) 39 (a 8)) 40 (.int .i64 (Int.add z20 (Int.ofNat 1)))) 8 (.int .i64 (Int.add z20 (Int.ofNat 1)))) H19))))))) (
    K (.exit 0) (upd (upd (upd (upd a 35 (a 8)) 36 (a 2)) 37 (.int .i64 (Int.ofNat l1))) 38 (.bool (ltZ z2 (Int.ofNat l1)))) H)) := by kernel_rfl

end Go.Proofs.YtipbbnoepphdkaaGreat

/- What some functions' texts ask for, step by step, each checked by the kernel. No conditions. -/
set_option linter.unusedVariables false
namespace Go.Proofs.YtipbbnoepphdkaaGreat
open Go Go.CM

theorem needed_W (con : CallT) (xa xb xc xd : Value) (H : CH) (K : KP) : funW Tryz.prog con 44 [.agg ⟨[xa, xb]⟩, xc, xd] H K =
  (Nw H (mkRow 45 0 [xa, xb]) fun p1 H2 =>
  Sc xc (Nw H2 (mkRow 32 0 [xc]) fun p3 H4 =>
  Sc xd (Nw H4 (mkRow 32 0 [xd]) fun p5 H6 =>
  Ld H6 p5 0 fun v7 =>
  Ld H6 p3 0 fun v8 =>
  AsNat .u64 v7 fun n9 =>
  AsNat .u64 v8 fun n10 =>
  Cd (leN n9 n10) (
    K (.bool false) H6) (
    Ld H6 p5 0 fun v11 =>
    Ld H6 p1 0 fun v12 =>
    AsNat .u64 v11 fun n13 =>
    AsNat .u64 v12 fun n14 =>
    Cd (ltN n14 n13) (
      K (.bool true) H6) (
      Ld H6 p1 1 fun v15 =>
      Call1 Tryz.prog con 110 [v15, (.func (.func 109) ⟨[]⟩ ⟨[(ptr p3 0), (ptr p5 0)]⟩)] H6 fun v16 H17 =>
      K v16 H17))))) := by kernel_rfl

theorem refNeeded_W (con : CallT) (xa xb xc xd : Value) (H : CH) (K : KP) : funW Tryz.prog con 117 [.agg ⟨[xa, xb]⟩, xc, xd] H K =
  (Nw H (mkRow 45 0 [xa, xb]) fun p1 H2 =>
  AsNat .u64 xc fun n3 =>
  AsNat .u64 xd fun n4 =>
  Cd (leN n4 n3) (
    K (.bool false) H2) (
    Ld H2 p1 0 fun v5 =>
    AsNat .u64 v5 fun n6 =>
    AsNat .u64 xd fun n7 =>
    Cd (ltN n6 n7) (
      K (.bool true) H2) (
      LoopC Tryz.prog con (lpAt Tryz.prog 117 0) (upd (upd (upd (upd (upd (upd (upd (upd (upd (upd (upd (upd (upd (fun _ => undV) 2 xd) 1 xc) 0 (.agg ⟨[xa, xb]⟩)) 3 (ptr p1 0)) 6 (.bool false)) 8 xc) 9 xd) 10 (.bool (leN n4 n3))) 11 (ptr p1 0)) 12 v5) 13 xd) 14 (.bool (ltN n6 n7))) 7 (.int .i64 (Int.ofNat 0))) H2 (fun e => ceP e
      (fun a8 H9 =>
        K (.bool false) H9)
      (fun i10 => fun a8 H9 =>
        Cd (eqN i10 0) (
          K (.bool false) H9) (
          False))
      (fun a8 H9 =>
        K (a8 6) H9))))) := by kernel_rfl

theorem neededC_W (con : CallT) (x p q : Nat) (H : CH) (K : KP) : funW Tryz.prog con 109 [u64 x, ptr p 0, ptr q 0] H K =
  (Ld H p 0 fun v1 =>
  AsNat .u64 v1 fun n2 =>
  Cd (leN n2 x) (
    Ld H q 0 fun v3 =>
    AsNat .u64 v3 fun n4 =>
    K (.bool (ltN x n4)) H) (
    K (.bool false) H)) := by kernel_rfl

theorem containsF_W (con : CallT) (xa xf : Value) (H : CH) (K : KP) : funW Tryz.prog con 110 [xa, xf] H K =
  (Call1 Tryz.prog con 138 [xa, xf] H fun v1 H2 =>
  AsInt .i64 v1 fun z3 =>
  K (.bool (leZ (Int.ofNat 0) z3)) H2) := by kernel_rfl

theorem indexF_W (con : CallT) (xa xf : Value) (H : CH) (K : KP) : funW Tryz.prog con 138 [xa, xf] H K =
  (AsLen xa fun l1 =>
  LoopC Tryz.prog con (lpAt Tryz.prog 138 0) (upd (upd (upd (upd (upd (upd (fun _ => undV) 1 xf) 0 xa) 4 (.int .i64 (Int.ofNat 0))) 6 xa) 7 (.int .i64 (Int.ofNat l1))) 8 (.int .i64 (Int.ofNat 0))) H (fun e => ceP e
  (fun a2 H3 =>
    K (.int .i64 (Int.negSucc 0)) H3)
  (fun i4 => fun a2 H3 =>
    Cd (eqN i4 0) (
      K (.int .i64 (Int.negSucc 0)) H3) (
      False))
  (fun a2 H3 =>
    K (a2 4) H3))) := by kernel_rfl

theorem newCut_W (con : CallT) (xa xb : Nat) (xc xd : Value) (H : CH) (K : KP) : funW Tryz.prog con 45 [u64 xa, u64 xb, .agg ⟨[xc, xd]⟩] H K =
  (Nw H (mkRow 45 0 [xc, xd]) fun p1 H2 =>
  Ld H2 p1 0 fun v3 =>
  Ld H2 p1 1 fun v4 =>
  Call1 Tryz.prog con 50 [v4] H2 fun v5 H6 =>
  Sc v3 (Sc v5 (Nw H6 (mkRow 220 0 [(.int .u64 (Int.ofNat xb)), v3, v5, (.int .i64 (Int.ofNat 0)), (.int .u64 (Int.ofNat 0)), (.int .u64 (Int.ofNat 0)), (.int .u64 (Int.ofNat 0)), (.int .u64 (Int.ofNat 0)), (.int .u64 (Int.ofNat 0)), (.int .u64 (Int.ofNat 0)), (.int .u64 (Int.ofNat 0)), (.int .u64 (Int.ofNat 0))]) fun p7 H8 =>
  Ld H2 p1 0 fun v9 =>
  Same v3 v9 (
  Ld H6 p1 0 fun v10 =>
  Same v3 v10 (
  K (ptr p7 0) H8))))) := by kernel_rfl

theorem cutStep_W (con : CallT) (p q : Nat) (H : CH) (K : KP) : funW Tryz.prog con 213 [ptr p 0, ptr q 0] H K =
  (Ld H p 3 fun v1 =>
  AsInt .i64 v1 fun z2 =>
  Cd (eqZ z2 (Int.ofNat 0)) (
    Ld H p 0 fun v3 =>
    Call1 Tryz.prog con 125 [(ptr q 0), v3] H fun v4 H5 =>
    Sc v4 (St H5 p 4 [v4] fun H6 =>
    St H6 p 3 [(.int .i64 (Int.ofNat 1))] fun H7 =>
    Ld H7 p 4 fun v8 =>
    AsNat .u64 v8 fun n9 =>
    Cd (eqN n9 0) (
      St H7 p 3 [(.int .i64 (Int.ofNat 7))] fun H10 =>
      Ld H10 p 3 fun v11 =>
      AsInt .i64 v11 fun z12 =>
      Cd (eqZ z12 (Int.ofNat 7)) (
        Ld H10 p 11 fun v13 =>
        Sc v13 (St H10 p 10 [v13] fun H14 =>
        Ld H14 p 3 fun v15 =>
        AsInt .i64 v15 fun z16 =>
        K (.bool (eqZ z16 (Int.ofNat 7))) H14)) (
        Ld H10 p 3 fun v17 =>
        AsInt .i64 v17 fun z18 =>
        K (.bool (eqZ z18 (Int.ofNat 7))) H10)) (
      Ld H7 p 3 fun v19 =>
      AsInt .i64 v19 fun z20 =>
      Cd (eqZ z20 (Int.ofNat 7)) (
        Ld H7 p 11 fun v21 =>
        Sc v21 (St H7 p 10 [v21] fun H22 =>
        Ld H22 p 3 fun v23 =>
        AsInt .i64 v23 fun z24 =>
        K (.bool (eqZ z24 (Int.ofNat 7))) H22)) (
        Ld H7 p 3 fun v25 =>
        AsInt .i64 v25 fun z26 =>
        K (.bool (eqZ z26 (Int.ofNat 7))) H7)))) (
    AsInt .i64 v1 fun z27 =>
    Cd (eqZ z27 (Int.ofNat 1)) (
      Ld H p 4 fun v28 =>
      AsNat .u64 v28 fun n29 =>
      Call1 Tryz.prog con 125 [(ptr q 0), (.int .u64 (Int.ofNat (Nat.mod (Nat.add n29 1) 18446744073709551616)))] H fun v30 H31 =>
      Sc v30 (St H31 p 5 [v30] fun H32 =>
      Ld H32 p 5 fun v33 =>
      AsNat .u64 v33 fun n34 =>
      Cd (eqN n34 0) (
        St H32 p 5 [(.int .u64 (Int.ofNat 18446744073709551615))] fun H35 =>
        St H35 p 3 [(.int .i64 (Int.ofNat 2))] fun H36 =>
        Ld H36 p 3 fun v37 =>
        AsInt .i64 v37 fun z38 =>
        Cd (eqZ z38 (Int.ofNat 7)) (
          Ld H36 p 11 fun v39 =>
          Sc v39 (St H36 p 10 [v39] fun H40 =>
          Ld H40 p 3 fun v41 =>
          AsInt .i64 v41 fun z42 =>
          K (.bool (eqZ z42 (Int.ofNat 7))) H40)) (
          Ld H36 p 3 fun v43 =>
          AsInt .i64 v43 fun z44 =>
          K (.bool (eqZ z44 (Int.ofNat 7))) H36)) (
        St H32 p 3 [(.int .i64 (Int.ofNat 2))] fun H45 =>
        Ld H45 p 3 fun v46 =>
        AsInt .i64 v46 fun z47 =>
        Cd (eqZ z47 (Int.ofNat 7)) (
          Ld H45 p 11 fun v48 =>
          Sc v48 (St H45 p 10 [v48] fun H49 =>
          Ld H49 p 3 fun v50 =>
          AsInt .i64 v50 fun z51 =>
          K (.bool (eqZ z51 (Int.ofNat 7))) H49)) (
          Ld H45 p 3 fun v52 =>
          AsInt .i64 v52 fun z53 =>
          K (.bool (eqZ z53 (Int.ofNat 7))) H45)))) (
      AsInt .i64 v1 fun z54 =>
      Cd (eqZ z54 (Int.ofNat 2)) (
        Ld H p 4 fun v55 =>
        Call1 Tryz.prog con 125 [(ptr q 0), v55] H fun v56 H57 =>
        Sc v56 (St H57 p 11 [v56] fun H58 =>
        St H58 p 3 [(.int .i64 (Int.ofNat 3))] fun H59 =>
        Ld H59 p 3 fun v60 =>
        AsInt .i64 v60 fun z61 =>
        Cd (eqZ z61 (Int.ofNat 7)) (
          Ld H59 p 11 fun v62 =>
          Sc v62 (St H59 p 10 [v62] fun H63 =>
          Ld H63 p 3 fun v64 =>
          AsInt .i64 v64 fun z65 =>
          K (.bool (eqZ z65 (Int.ofNat 7))) H63)) (
          Ld H59 p 3 fun v66 =>
          AsInt .i64 v66 fun z67 =>
          K (.bool (eqZ z67 (Int.ofNat 7))) H59))) (
        AsInt .i64 v1 fun z68 =>
        Cd (eqZ z68 (Int.ofNat 3)) (
          Ld H p 4 fun v69 =>
          AsNat .u64 v69 fun n70 =>
          Call1 Tryz.prog con 125 [(ptr q 0), (.int .u64 (Int.ofNat (Nat.mod (Nat.add n70 2) 18446744073709551616)))] H fun v71 H72 =>
          Sc v71 (St H72 p 7 [v71] fun H73 =>
          Ld H73 p 7 fun v74 =>
          Sc v74 (St H73 p 6 [v74] fun H75 =>
          Call1 Tryz.prog con 215 [(ptr p 0)] H75 fun v76 H77 =>
          Ld H77 p 3 fun v78 =>
          AsInt .i64 v78 fun z79 =>
          Cd (eqZ z79 (Int.ofNat 7)) (
            Ld H77 p 11 fun v80 =>
            Sc v80 (St H77 p 10 [v80] fun H81 =>
            Ld H81 p 3 fun v82 =>
            AsInt .i64 v82 fun z83 =>
            K (.bool (eqZ z83 (Int.ofNat 7))) H81)) (
            Ld H77 p 3 fun v84 =>
            AsInt .i64 v84 fun z85 =>
            K (.bool (eqZ z85 (Int.ofNat 7))) H77)))) (
          AsInt .i64 v1 fun z86 =>
          Cd (eqZ z86 (Int.ofNat 4)) (
            Ld H p 6 fun v87 =>
            AsNat .u64 v87 fun n88 =>
            Call1 Tryz.prog con 125 [(ptr q 0), (.int .u64 (Int.ofNat (Nat.mod (Nat.add n88 1) 18446744073709551616)))] H fun v89 H90 =>
            Sc v89 (St H90 p 8 [v89] fun H91 =>
            Ld H91 p 1 fun v92 =>
            Ld H91 p 2 fun v93 =>
            Ld H91 p 8 fun v94 =>
            Ld H91 p 5 fun v95 =>
            Call1 Tryz.prog con 44 [(.agg ⟨[v92, v93]⟩), v94, v95] H91 fun v96 H97 =>
            AsBool v96 fun b98 =>
            Cd b98 (
              Call1 Tryz.prog con 216 [(ptr p 0)] H97 fun v99 H100 =>
              Ld H100 p 3 fun v101 =>
              AsInt .i64 v101 fun z102 =>
              Cd (eqZ z102 (Int.ofNat 7)) (
                Ld H100 p 11 fun v103 =>
                Sc v103 (St H100 p 10 [v103] fun H104 =>
                Ld H104 p 3 fun v105 =>
                AsInt .i64 v105 fun z106 =>
                K (.bool (eqZ z106 (Int.ofNat 7))) H104)) (
                Ld H100 p 3 fun v107 =>
                AsInt .i64 v107 fun z108 =>
                K (.bool (eqZ z108 (Int.ofNat 7))) H100)) (
              Ld H97 p 9 fun v109 =>
              AsNat .u64 v109 fun n110 =>
              St H97 p 9 [(.int .u64 (Int.ofNat (Nat.mod (Nat.add n110 1) 18446744073709551616)))] fun H111 =>
              St H111 p 3 [(.int .i64 (Int.ofNat 5))] fun H112 =>
              Ld H112 p 3 fun v113 =>
              AsInt .i64 v113 fun z114 =>
              Cd (eqZ z114 (Int.ofNat 7)) (
                Ld H112 p 11 fun v115 =>
                Sc v115 (St H112 p 10 [v115] fun H116 =>
                Ld H116 p 3 fun v117 =>
                AsInt .i64 v117 fun z118 =>
                K (.bool (eqZ z118 (Int.ofNat 7))) H116)) (
                Ld H112 p 3 fun v119 =>
                AsInt .i64 v119 fun z120 =>
                K (.bool (eqZ z120 (Int.ofNat 7))) H112)))) (
            AsInt .i64 v1 fun z121 =>
            Cd (eqZ z121 (Int.ofNat 5)) (
              Ld H p 6 fun v122 =>
              AsNat .u64 v122 fun n123 =>
              Call1 Tryz.prog con 125 [(ptr q 0), (.int .u64 (Int.ofNat (Nat.mod (Nat.add n123 2) 18446744073709551616)))] H fun v124 H125 =>
              Sc v124 (St H125 p 6 [v124] fun H126 =>
              Call1 Tryz.prog con 215 [(ptr p 0)] H126 fun v127 H128 =>
              Ld H128 p 3 fun v129 =>
              AsInt .i64 v129 fun z130 =>
              Cd (eqZ z130 (Int.ofNat 7)) (
                Ld H128 p 11 fun v131 =>
                Sc v131 (St H128 p 10 [v131] fun H132 =>
                Ld H132 p 3 fun v133 =>
                AsInt .i64 v133 fun z134 =>
                K (.bool (eqZ z134 (Int.ofNat 7))) H132)) (
                Ld H128 p 3 fun v135 =>
                AsInt .i64 v135 fun z136 =>
                K (.bool (eqZ z136 (Int.ofNat 7))) H128))) (
              AsInt .i64 v1 fun z137 =>
              Cd (eqZ z137 (Int.ofNat 6)) (
                Ld H p 4 fun v138 =>
                AsNat .u64 v138 fun n139 =>
                Ld H p 6 fun v140 =>
                Call1 Tryz.prog con 20 [(ptr q 0), (.int .u64 (Int.ofNat (Nat.mod (Nat.add n139 2) 18446744073709551616))), v140] H fun v141 H142 =>
                Call1 Tryz.prog con 214 [(ptr p 0)] H142 fun v143 H144 =>
                Ld H144 p 3 fun v145 =>
                AsInt .i64 v145 fun z146 =>
                Cd (eqZ z146 (Int.ofNat 7)) (
                  Ld H144 p 11 fun v147 =>
                  Sc v147 (St H144 p 10 [v147] fun H148 =>
                  Ld H148 p 3 fun v149 =>
                  AsInt .i64 v149 fun z150 =>
                  K (.bool (eqZ z150 (Int.ofNat 7))) H148)) (
                  Ld H144 p 3 fun v151 =>
                  AsInt .i64 v151 fun z152 =>
                  K (.bool (eqZ z152 (Int.ofNat 7))) H144)) (
                Ld H p 3 fun v153 =>
                AsInt .i64 v153 fun z154 =>
                Cd (eqZ z154 (Int.ofNat 7)) (
                  Ld H p 11 fun v155 =>
                  Sc v155 (St H p 10 [v155] fun H156 =>
                  Ld H156 p 3 fun v157 =>
                  AsInt .i64 v157 fun z158 =>
                  K (.bool (eqZ z158 (Int.ofNat 7))) H156)) (
                  Ld H p 3 fun v159 =>
                  AsInt .i64 v159 fun z160 =>
                  K (.bool (eqZ z160 (Int.ofNat 7))) H))))))))) := by kernel_rfl

theorem cutOn_W (con : CallT) (p : Nat) (H : CH) (K : KP) : funW Tryz.prog con 215 [ptr p 0] H K =
  (St H p 3 [(.int .i64 (Int.ofNat 4))] fun H1 =>
  Ld H1 p 6 fun v2 =>
  AsNat .u64 v2 fun n3 =>
  Cd (eqN n3 0) (
    Call1 Tryz.prog con 216 [(ptr p 0)] H1 fun v4 H5 =>
    K (.tuple ⟨[]⟩) H5) (
    K (.tuple ⟨[]⟩) H1)) := by kernel_rfl

theorem cutStay_W (con : CallT) (p : Nat) (H : CH) (K : KP) : funW Tryz.prog con 216 [ptr p 0] H K =
  (Ld H p 6 fun v1 =>
  Ld H p 7 fun v2 =>
  AsNat .u64 v1 fun n3 =>
  AsNat .u64 v2 fun n4 =>
  Cd (notB (eqN n3 n4)) (
    St H p 3 [(.int .i64 (Int.ofNat 6))] fun H5 =>
    K (.tuple ⟨[]⟩) H5) (
    Call1 Tryz.prog con 214 [(ptr p 0)] H fun v6 H7 =>
    K (.tuple ⟨[]⟩) H7)) := by kernel_rfl

theorem cutFurther_W (con : CallT) (p : Nat) (H : CH) (K : KP) : funW Tryz.prog con 214 [ptr p 0] H K =
  (St H p 3 [(.int .i64 (Int.ofNat 7))] fun H1 =>
  Ld H1 p 6 fun v2 =>
  AsNat .u64 v2 fun n3 =>
  Cd (notB (eqN n3 0)) (
    Ld H1 p 6 fun v4 =>
    Ld H1 p 8 fun v5 =>
    Sc v4 (St H1 p 4 [v4] fun H6 =>
    Sc v5 (St H6 p 5 [v5] fun H7 =>
    St H7 p 3 [(.int .i64 (Int.ofNat 3))] fun H8 =>
    K (.tuple ⟨[]⟩) H8))) (
    K (.tuple ⟨[]⟩) H1)) := by kernel_rfl

theorem cutCount_W (con : CallT) (p : Nat) (H : CH) (K : KP) : funW Tryz.prog con 46 [ptr p 0] H K =
  (Ld H p 3 fun v1 =>
  AsInt .i64 v1 fun z2 =>
  Cd (notB (eqZ z2 (Int.ofNat 7))) (
    K (.int .u64 (Int.ofNat 0)) H) (
    Ld H p 9 fun v3 =>
    K v3 H)) := by kernel_rfl

theorem cutHead_W (con : CallT) (p : Nat) (H : CH) (K : KP) : funW Tryz.prog con 47 [ptr p 0] H K =
  (Ld H p 10 fun v1 =>
  K v1 H) := by kernel_rfl

theorem rcutStep_W (con : CallT) (p m : Nat) (t : Int) (H : CH) (K : KP) : funW Tryz.prog con 61 [ptr p 0, ptr m 0, i64 t] H K =
  (Ld H p 0 fun v1 =>
  AsInt .i64 v1 fun z2 =>
  Cd (eqZ z2 (Int.ofNat 0)) (
    Ld H p 1 fun v3 =>
    Call1 Tryz.prog con 115 [(ptr m 0), (.int .i64 t), v3] H fun v4 H5 =>
    Sc v4 (St H5 p 4 [v4] fun H6 =>
    St H6 p 0 [(.int .i64 (Int.ofNat 1))] fun H7 =>
    Ld H7 p 4 fun v8 =>
    AsNat .u64 v8 fun n9 =>
    Cd (eqN n9 0) (
      Call1 Tryz.prog con 116 [(ptr p 0)] H7 fun v10 H11 =>
      Ld H11 p 0 fun v12 =>
      AsInt .i64 v12 fun z13 =>
      K (.bool (eqZ z13 (Int.ofNat 9))) H11) (
      Ld H7 p 0 fun v14 =>
      AsInt .i64 v14 fun z15 =>
      K (.bool (eqZ z15 (Int.ofNat 9))) H7))) (
    AsInt .i64 v1 fun z16 =>
    Cd (eqZ z16 (Int.ofNat 1)) (
      Ld H p 4 fun v17 =>
      AsNat .u64 v17 fun n18 =>
      Call1 Tryz.prog con 115 [(ptr m 0), (.int .i64 t), (.int .u64 (Int.ofNat (Nat.mod (Nat.add n18 1) 18446744073709551616)))] H fun v19 H20 =>
      Sc v19 (St H20 p 5 [v19] fun H21 =>
      Ld H21 p 5 fun v22 =>
      AsNat .u64 v22 fun n23 =>
      Cd (eqN n23 0) (
        St H21 p 5 [(.int .u64 (Int.ofNat 18446744073709551615))] fun H24 =>
        St H24 p 0 [(.int .i64 (Int.ofNat 2))] fun H25 =>
        Ld H25 p 0 fun v26 =>
        AsInt .i64 v26 fun z27 =>
        K (.bool (eqZ z27 (Int.ofNat 9))) H25) (
        St H21 p 0 [(.int .i64 (Int.ofNat 2))] fun H28 =>
        Ld H28 p 0 fun v29 =>
        AsInt .i64 v29 fun z30 =>
        K (.bool (eqZ z30 (Int.ofNat 9))) H28))) (
      AsInt .i64 v1 fun z31 =>
      Cd (eqZ z31 (Int.ofNat 2)) (
        Ld H p 4 fun v32 =>
        Call1 Tryz.prog con 115 [(ptr m 0), (.int .i64 t), v32] H fun v33 H34 =>
        Sc v33 (St H34 p 10 [v33] fun H35 =>
        St H35 p 0 [(.int .i64 (Int.ofNat 3))] fun H36 =>
        Ld H36 p 0 fun v37 =>
        AsInt .i64 v37 fun z38 =>
        K (.bool (eqZ z38 (Int.ofNat 9))) H36)) (
        AsInt .i64 v1 fun z39 =>
        Cd (eqZ z39 (Int.ofNat 3)) (
          Ld H p 4 fun v40 =>
          AsNat .u64 v40 fun n41 =>
          Call1 Tryz.prog con 115 [(ptr m 0), (.int .i64 t), (.int .u64 (Int.ofNat (Nat.mod (Nat.add n41 2) 18446744073709551616)))] H fun v42 H43 =>
          Sc v42 (St H43 p 6 [v42] fun H44 =>
          Ld H44 p 6 fun v45 =>
          Sc v45 (St H44 p 7 [v45] fun H46 =>
          St H46 p 0 [(.int .i64 (Int.ofNat 4))] fun H47 =>
          Ld H47 p 6 fun v48 =>
          AsNat .u64 v48 fun n49 =>
          Cd (eqN n49 0) (
            Call1 Tryz.prog con 116 [(ptr p 0)] H47 fun v50 H51 =>
            Ld H51 p 0 fun v52 =>
            AsInt .i64 v52 fun z53 =>
            K (.bool (eqZ z53 (Int.ofNat 9))) H51) (
            Ld H47 p 0 fun v54 =>
            AsInt .i64 v54 fun z55 =>
            K (.bool (eqZ z55 (Int.ofNat 9))) H47)))) (
          AsInt .i64 v1 fun z56 =>
          Cd (eqZ z56 (Int.ofNat 4)) (
            Ld H p 6 fun v57 =>
            AsNat .u64 v57 fun n58 =>
            Call1 Tryz.prog con 115 [(ptr m 0), (.int .i64 t), (.int .u64 (Int.ofNat (Nat.mod (Nat.add n58 1) 18446744073709551616)))] H fun v59 H60 =>
            Ld H60 p 2 fun v61 =>
            Ld H60 p 3 fun v62 =>
            Ld H60 p 5 fun v63 =>
            Call1 Tryz.prog con 117 [(.agg ⟨[v61, v62]⟩), v59, v63] H60 fun v64 H65 =>
            AsBool v64 fun b66 =>
            Cd b66 (
              Call1 Tryz.prog con 118 [(ptr p 0), v59] H65 fun v67 H68 =>
              Ld H68 p 0 fun v69 =>
              AsInt .i64 v69 fun z70 =>
              K (.bool (eqZ z70 (Int.ofNat 9))) H68) (
              Ld H65 p 9 fun v71 =>
              AsNat .u64 v71 fun n72 =>
              St H65 p 9 [(.int .u64 (Int.ofNat (Nat.mod (Nat.add n72 1) 18446744073709551616)))] fun H73 =>
              St H73 p 0 [(.int .i64 (Int.ofNat 5))] fun H74 =>
              Ld H74 p 0 fun v75 =>
              AsInt .i64 v75 fun z76 =>
              K (.bool (eqZ z76 (Int.ofNat 9))) H74)) (
            AsInt .i64 v1 fun z77 =>
            Cd (eqZ z77 (Int.ofNat 5)) (
              Ld H p 6 fun v78 =>
              AsNat .u64 v78 fun n79 =>
              Call1 Tryz.prog con 115 [(ptr m 0), (.int .i64 t), (.int .u64 (Int.ofNat (Nat.mod (Nat.add n79 2) 18446744073709551616)))] H fun v80 H81 =>
              Sc v80 (St H81 p 6 [v80] fun H82 =>
              St H82 p 0 [(.int .i64 (Int.ofNat 4))] fun H83 =>
              Ld H83 p 6 fun v84 =>
              AsNat .u64 v84 fun n85 =>
              Cd (eqN n85 0) (
                Call1 Tryz.prog con 118 [(ptr p 0), (.int .u64 (Int.ofNat 0))] H83 fun v86 H87 =>
                Ld H87 p 0 fun v88 =>
                AsInt .i64 v88 fun z89 =>
                K (.bool (eqZ z89 (Int.ofNat 9))) H87) (
                Ld H83 p 0 fun v90 =>
                AsInt .i64 v90 fun z91 =>
                K (.bool (eqZ z91 (Int.ofNat 9))) H83))) (
              AsInt .i64 v1 fun z92 =>
              Cd (eqZ z92 (Int.ofNat 6)) (
                Ld H p 4 fun v93 =>
                AsNat .u64 v93 fun n94 =>
                Ld H p 6 fun v95 =>
                Call1 Tryz.prog con 21 [(ptr m 0), (.int .i64 t), (.int .u64 (Int.ofNat (Nat.mod (Nat.add n94 2) 18446744073709551616))), v95] H fun v96 H97 =>
                St H97 p 0 [(.int .i64 (Int.ofNat 3))] fun H98 =>
                Ld H98 p 6 fun v99 =>
                AsNat .u64 v99 fun n100 =>
                Cd (eqN n100 0) (
                  Call1 Tryz.prog con 116 [(ptr p 0)] H98 fun v101 H102 =>
                  Ld H102 p 0 fun v103 =>
                  AsInt .i64 v103 fun z104 =>
                  K (.bool (eqZ z104 (Int.ofNat 9))) H102) (
                  Ld H98 p 6 fun v105 =>
                  Ld H98 p 8 fun v106 =>
                  Sc v105 (St H98 p 4 [v105] fun H107 =>
                  Sc v106 (St H107 p 5 [v106] fun H108 =>
                  Ld H108 p 0 fun v109 =>
                  AsInt .i64 v109 fun z110 =>
                  K (.bool (eqZ z110 (Int.ofNat 9))) H108)))) (
                Ld H p 0 fun v111 =>
                AsInt .i64 v111 fun z112 =>
                K (.bool (eqZ z112 (Int.ofNat 9))) H)))))))) := by kernel_rfl

theorem rcutEnd_W (con : CallT) (p : Nat) (H : CH) (K : KP) : funW Tryz.prog con 116 [ptr p 0] H K =
  (Ld H p 9 fun v1 =>
  Sc v1 (St H p 11 [v1] fun H2 =>
  Ld H2 p 10 fun v3 =>
  Sc v3 (St H2 p 12 [v3] fun H4 =>
  St H4 p 0 [(.int .i64 (Int.ofNat 9))] fun H5 =>
  K (.tuple ⟨[]⟩) H5))) := by kernel_rfl

theorem rcutEnough_W (con : CallT) (p a : Nat) (H : CH) (K : KP) : funW Tryz.prog con 118 [ptr p 0, u64 a] H K =
  (St H p 8 [(.int .u64 (Int.ofNat a))] fun H1 =>
  Ld H1 p 6 fun v2 =>
  Ld H1 p 7 fun v3 =>
  AsNat .u64 v2 fun n4 =>
  AsNat .u64 v3 fun n5 =>
  Cd (notB (eqN n4 n5)) (
    St H1 p 0 [(.int .i64 (Int.ofNat 6))] fun H6 =>
    K (.tuple ⟨[]⟩) H6) (
    Ld H1 p 6 fun v7 =>
    AsNat .u64 v7 fun n8 =>
    Cd (eqN n8 0) (
      Call1 Tryz.prog con 116 [(ptr p 0)] H1 fun v9 H10 =>
      K (.tuple ⟨[]⟩) H10) (
      Ld H1 p 6 fun v11 =>
      Sc v11 (St H1 p 4 [v11] fun H12 =>
      St H12 p 5 [(.int .u64 (Int.ofNat a))] fun H13 =>
      St H13 p 0 [(.int .i64 (Int.ofNat 3))] fun H14 =>
      K (.tuple ⟨[]⟩) H14)))) := by kernel_rfl

theorem indexFL_W (con : CallT) (a : TF) (H : CH) (K : KX) : codeW (lpAt Tryz.prog 138 0) Tryz.prog con a H K =
  (AsInt .i64 (a 8) fun z1 =>
  AsInt .i64 (a 7) fun z2 =>
  Cd (ltZ z1 z2) (
    AsSlc (a 0) fun p3 o4 l5 c6 =>
    AsCnt (a 8) fun n7 =>
    Must (ltN n7 l5) (
    Ld H p3 (Nat.add o4 (Nat.mul n7 1)) fun v8 =>
    AsFn (a 1) fun g9 l10 l11 =>
    Must (isFunT Tryz.prog g9) (
    Call1 Tryz.prog con g9 (appF l10 (v8 :: l11)) H fun v12 H13 =>
    AsBool v12 fun b14 =>
    Cd b14 (
      K .ret (upd (upd (upd (upd (upd (upd (upd (upd (upd (upd (upd a 9 (.bool (ltZ z1 z2))) 10 (a 8)) 5 (a 8)) 11 (a 1)) 12 (a 0)) 13 (a 8)) 14 (ptr p3 (Nat.add o4 (Nat.mul n7 1)))) 15 v8) 16 v12) 17 (a 8)) 4 (a 8)) H13) (
      AsInt .i64 (a 8) fun z15 =>
      InR (Int.add z15 (Int.ofNat 1)) (
      K .normal (upd (upd (upd (upd (upd (upd (upd (upd (upd (upd (upd a 9 (.bool (ltZ z1 z2))) 10 (a 8)) 5 (a 8)) 11 (a 1)) 12 (a 0)) 13 (a 8)) 14 (ptr p3 (Nat.add o4 (Nat.mul n7 1)))) 15 v8) 16 v12) 18 (.int .i64 (Int.add z15 (Int.ofNat 1)))) 8 (.int .i64 (Int.add z15 (Int.ofNat 1)))) H13))))) (
    K (.exit 0) (upd a 9 (.bool (ltZ z1 z2))) H)) := by kernel_rfl

theorem refNeededL_W (con : CallT) (a : TF) (H : CH) (K : KX) : codeW (lpAt Tryz.prog 117 0) Tryz.prog con a H K =
  (AsPtr (a 3) fun p1 o2 =>
  Ld H p1 (Nat.add o2 1) fun v3 =>
  AsLen v3 fun l4 =>
  AsInt .i64 (a 7) fun z5 =>
  Cd (ltZ z5 (Int.ofNat l4)) (
    AsPtr (a 3) fun p6 o7 =>
    Ld H p6 (Nat.add o7 1) fun v8 =>
    AsSlc v8 fun p9 o10 l11 c12 =>
    AsCnt (a 7) fun n13 =>
    Must (ltN n13 l11) (
    Ld H p9 (Nat.add o10 (Nat.mul n13 1)) fun v14 =>
    AsNat .u64 v14 fun n15 =>
    AsNat .u64 (a 1) fun n16 =>
    Cd (leN n16 n15) (
      AsPtr (a 3) fun p17 o18 =>
      Ld H p17 (Nat.add o18 1) fun v19 =>
      AsSlc v19 fun p20 o21 l22 c23 =>
      AsCnt (a 7) fun n24 =>
      Must (ltN n24 l22) (
      Ld H p20 (Nat.add o21 (Nat.mul n24 1)) fun v25 =>
      AsNat .u64 v25 fun n26 =>
      AsNat .u64 (a 2) fun n27 =>
      Cd (ltN n26 n27) (
        K .ret (upd (upd (upd (upd (upd (upd (upd (upd (upd (upd (upd (upd (upd (upd (upd (upd (upd (upd (upd (upd (upd (upd (upd (upd (upd (upd (upd (upd (upd a 15 (a 7)) 16 (ptr p1 (Nat.add o2 1))) 17 v3) 18 (.int .i64 (Int.ofNat l4))) 19 (.bool (ltZ z5 (Int.ofNat l4)))) 22 (ptr p6 (Nat.add o7 1))) 23 v8) 24 (a 7)) 25 (ptr p9 (Nat.add o10 (Nat.mul n13 1)))) 26 v14) 27 (a 1)) 28 (.bool (leN n16 n15))) 29 (.bool (leN n16 n15))) 29 (.bool true)) 30 (ptr p17 (Nat.add o18 1))) 29 (.bool true)) 31 v19) 29 (.bool true)) 32 (a 7)) 29 (.bool true)) 33 (ptr p20 (Nat.add o21 (Nat.mul n24 1)))) 29 (.bool true)) 34 v25) 29 (.bool true)) 35 (a 2)) 29 (.bool true)) 36 (.bool (ltN n26 n27))) 37 (.bool (ltN n26 n27))) 6 (.bool true)) H) (
        AsInt .i64 (a 7) fun z28 =>
        InR (Int.add z28 (Int.ofNat 1)) (
        K .normal (upd (upd (upd (upd (upd (upd (upd (upd (upd (upd (upd (upd (upd (upd (upd (upd (upd (upd (upd (upd (upd (upd (upd (upd (upd (upd (upd (upd (upd (upd (upd a 15 (a 7)) 16 (ptr p1 (Nat.add o2 1))) 17 v3) 18 (.int .i64 (Int.ofNat l4))) 19 (.bool (ltZ z5 (Int.ofNat l4)))) 22 (ptr p6 (Nat.add o7 1))) 23 v8) 24 (a 7)) 25 (ptr p9 (Nat.add o10 (Nat.mul n13 1)))) 26 v14) 27 (a 1)) 28 (.bool (leN n16 n15))) 29 (.bool (leN n16 n15))) 29 (.bool true)) 30 (ptr p17 (Nat.add o18 1))) 29 (.bool true)) 31 v19) 29 (.bool true)) 32 (a 7)) 29 (.bool true)) 33 (ptr p20 (Nat.add o21 (Nat.mul n24 1)))) 29 (.bool true)) 34 v25) 29 (.bool true)) 35 (a 2)) 29 (.bool true)) 36 (.bool (ltN n26 n27))) 37 (.bool (ltN n26 n27))) 20 (a 7)) 21 (.int .i64 (Int.add z28 (Int.ofNat 1)))) 7 (.int .i64 (Int.add z28 (Int.ofNat 1)))) H)))) (
      AsInt .i64 (a 7) fun z29 =>
      InR (Int.add z29 (Int.ofNat 1)) (
      K .normal (upd (upd (upd (upd (upd (upd (upd (upd (upd (upd (upd (upd (upd (upd (upd (upd (upd (upd (upd (upd (upd (upd (upd (upd (upd (upd (upd (upd (upd (upd (upd a 15 (a 7)) 16 (ptr p1 (Nat.add o2 1))) 17 v3) 18 (.int .i64 (Int.ofNat l4))) 19 (.bool (ltZ z5 (Int.ofNat l4)))) 22 (ptr p6 (Nat.add o7 1))) 23 v8) 24 (a 7)) 25 (ptr p9 (Nat.add o10 (Nat.mul n13 1)))) 26 v14) 27 (a 1)) 28 (.bool (leN n16 n15))) 29 (.bool (leN n16 n15))) 29 (.bool false)) 30 (.tuple ⟨[]⟩)) 29 (.bool false)) 31 (.tuple ⟨[]⟩)) 29 (.bool false)) 32 (.tuple ⟨[]⟩)) 29 (.bool false)) 33 (.tuple ⟨[]⟩)) 29 (.bool false)) 34 (.tuple ⟨[]⟩)) 29 (.bool false)) 35 (.tuple ⟨[]⟩)) 29 (.bool false)) 36 (.tuple ⟨[]⟩)) 37 (.bool false)) 20 (a 7)) 21 (.int .i64 (Int.add z29 (Int.ofNat 1)))) 7 (.int .i64 (Int.add z29 (Int.ofNat 1)))) H)))) (
    K (.exit 0) (upd (upd (upd (upd (upd a 15 (a 7)) 16 (ptr p1 (Nat.add o2 1))) 17 v3) 18 (.int .i64 (Int.ofNat l4))) 19 (.bool (ltZ z5 (Int.ofNat l4)))) H)) := by kernel_rfl

end Go.Proofs.YtipbbnoepphdkaaGreat

/- What some functions' texts ask for, step by step, each checked by the kernel. No conditions. -/
set_option linter.unusedVariables false
namespace Go.Proofs.YtipbbnoepphdkaaGreat
open Go Go.CM

theorem newTake_W (con : CallT) (xa xb : Nat) (H : CH) (K : KP) : funW Tryz.prog con 54 [u64 xa, u64 xb] H K =
  (Nw H (mkRow 227 0 [(.int .i64 (Int.ofNat 0)), (.int .u64 (Int.ofNat xa)), (.int .u64 (Int.ofNat xb)), (.int .u64 (Int.ofNat 0)), (.int .u64 (Int.ofNat 0)), (.int .i64 (Int.ofNat 0)), (.bool false)]) fun p1 H2 =>
  K (ptr p1 0) H2) := by kernel_rfl

theorem takeStep_W (con : CallT) (p q : Nat) (H : CH) (K : KP) : funW Tryz.prog con 224 [ptr p 0, ptr q 0] H K =
  (Ld H p 0 fun v1 =>
  AsInt .i64 v1 fun z2 =>
  Cd (eqZ z2 (Int.ofNat 0)) (
    Ld H p 1 fun v3 =>
    Call1 Tryz.prog con 125 [(ptr q 0), v3] H fun v4 H5 =>
    Sc v4 (St H5 p 3 [v4] fun H6 =>
    Ld H6 p 3 fun v7 =>
    Ld H6 p 2 fun v8 =>
    AsNat .u64 v7 fun n9 =>
    AsNat .u64 v8 fun n10 =>
    Cd (ltN n9 n10) (
      St H6 p 0 [(.int .i64 (Int.ofNat 1))] fun H11 =>
      K (.bool false) H11) (
      St H6 p 5 [(.int .i64 (Int.ofNat 31))] fun H12 =>
      St H12 p 0 [(.int .i64 (Int.ofNat 2))] fun H13 =>
      K (.bool true) H13))) (
    AsInt .i64 v1 fun z14 =>
    Cd (eqZ z14 (Int.ofNat 1)) (
      Ld H p 1 fun v15 =>
      Ld H p 3 fun v16 =>
      Ld H p 3 fun v17 =>
      AsNat .u64 v17 fun n18 =>
      Call1 Tryz.prog con 129 [(ptr q 0), v15, v16, (.int .u64 (Int.ofNat (Nat.mod (Nat.add n18 1) 18446744073709551616)))] H fun v19 H20 =>
      Sc v19 (St H20 p 6 [v19] fun H21 =>
      Ld H21 p 3 fun v22 =>
      Sc v22 (St H21 p 4 [v22] fun H23 =>
      St H23 p 0 [(.int .i64 (Int.ofNat 2))] fun H24 =>
      K (.bool true) H24))) (
      K (.bool true) H))) := by kernel_rfl

theorem newInit_W (con : CallT) (xa xb : Nat) (H : CH) (K : KP) : funW Tryz.prog con 221 [u64 xa, u64 xb] H K =
  (Nw H (mkRow 355 0 [(.int .u64 (Int.ofNat xa)), (.int .u64 (Int.ofNat xb)), (.int .i64 (Int.ofNat 0)), (.int .u64 (Int.ofNat 0))]) fun p1 H2 =>
  K (ptr p1 0) H2) := by kernel_rfl

theorem initStep_W (con : CallT) (p q : Nat) (H : CH) (K : KP) : funW Tryz.prog con 222 [ptr p 0, ptr q 0] H K =
  (Ld H p 2 fun v1 =>
  AsInt .i64 v1 fun z2 =>
  Cd (eqZ z2 (Int.ofNat 0)) (
    St H p 2 [(.int .i64 (Int.ofNat 1))] fun H3 =>
    Ld H3 p 1 fun v4 =>
    AsNat .u64 v4 fun n5 =>
    Call1 Tryz.prog con 125 [(ptr q 0), (.int .u64 (Int.ofNat (Nat.mod (Nat.add n5 1) 18446744073709551616)))] H3 fun v6 H7 =>
    AsNat .u64 v6 fun n8 =>
    Cd (notB (eqN n8 0)) (
      St H7 p 2 [(.int .i64 (Int.ofNat 3))] fun H9 =>
      Ld H9 p 2 fun v10 =>
      AsInt .i64 v10 fun z11 =>
      K (.bool (eqZ z11 (Int.ofNat 3))) H9) (
      Ld H7 p 2 fun v12 =>
      AsInt .i64 v12 fun z13 =>
      K (.bool (eqZ z13 (Int.ofNat 3))) H7)) (
    AsInt .i64 v1 fun z14 =>
    Cd (eqZ z14 (Int.ofNat 1)) (
      Ld H p 0 fun v15 =>
      Call1 Tryz.prog con 125 [(ptr q 0), v15] H fun v16 H17 =>
      Sc v16 (St H17 p 3 [v16] fun H18 =>
      St H18 p 2 [(.int .i64 (Int.ofNat 2))] fun H19 =>
      Ld H19 p 2 fun v20 =>
      AsInt .i64 v20 fun z21 =>
      K (.bool (eqZ z21 (Int.ofNat 3))) H19)) (
      AsInt .i64 v1 fun z22 =>
      Cd (eqZ z22 (Int.ofNat 2)) (
        Ld H p 1 fun v23 =>
        AsNat .u64 v23 fun n24 =>
        Ld H p 3 fun v25 =>
        Call1 Tryz.prog con 129 [(ptr q 0), (.int .u64 (Int.ofNat (Nat.mod (Nat.add n24 1) 18446744073709551616))), (.int .u64 (Int.ofNat 0)), v25] H fun v26 H27 =>
        St H27 p 2 [(.int .i64 (Int.ofNat 3))] fun H28 =>
        Ld H28 p 2 fun v29 =>
        AsInt .i64 v29 fun z30 =>
        K (.bool (eqZ z30 (Int.ofNat 3))) H28) (
        Ld H p 2 fun v31 =>
        AsInt .i64 v31 fun z32 =>
        K (.bool (eqZ z32 (Int.ofNat 3))) H)))) := by kernel_rfl

theorem headFind_W (con : CallT) (p q : Nat) (H : CH) (K : KP) : funW Tryz.prog con 219 [ptr p 0, ptr q 0] H K =
  (Ld H p 2 fun v1 =>
  AsBool v1 fun b2 =>
  Cd (notB b2) (
    St H p 2 [(.bool true)] fun H3 =>
    Ld H3 p 1 fun v4 =>
    Call1 Tryz.prog con 125 [(ptr q 0), v4] H3 fun v5 H6 =>
    Sc v5 (St H6 p 4 [v5] fun H7 =>
    Ld H7 p 4 fun v8 =>
    AsNat .u64 v8 fun n9 =>
    St H7 p 3 [(.bool (eqN n9 0))] fun H10 =>
    Ld H10 p 0 fun v11 =>
    Ld H10 p 4 fun v12 =>
    Call1 Tryz.prog con 221 [v11, v12] H10 fun v13 H14 =>
    Sc v13 (St H14 p 5 [v13] fun H15 =>
    Ld H15 p 3 fun v16 =>
    K v16 H15))) (
    Ld H p 5 fun v17 =>
    Call1 Tryz.prog con 222 [v17, (ptr q 0)] H fun v18 H19 =>
    K v18 H19)) := by kernel_rfl

theorem newCas_W (con : CallT) (xa xb xc xd : Nat) (H : CH) (K : KP) : funW Tryz.prog con 53 [u64 xa, u64 xb, u64 xc, u64 xd] H K =
  (Nw H (mkRow 225 0 [(.int .u64 (Int.ofNat xa)), (.int .u64 (Int.ofNat xb)), (.bool false), (.bool false), (.int .u64 (Int.ofNat 0)), (.pointer none), (.int .i64 (Int.ofNat 0)), (.int .u64 (Int.ofNat xc)), (.int .u64 (Int.ofNat xd)), (.int .u64 (Int.ofNat 0)), (.bool false), (.pointer none), (.int .i64 (Int.ofNat 0))]) fun p1 H2 =>
  K (ptr p1 0) H2) := by kernel_rfl

theorem casStep_W (con : CallT) (p q : Nat) (H : CH) (K : KP) : funW Tryz.prog con 218 [ptr p 0, ptr q 0] H K =
  (Ld H p 6 fun v1 =>
  AsInt .i64 v1 fun z2 =>
  Cd (eqZ z2 (Int.ofNat 0)) (
    Call1 Tryz.prog con 219 [(ptr p 0), (ptr q 0)] H fun v3 H4 =>
    AsBool v3 fun b5 =>
    Cd (notB b5) (
      K (.bool false) H4) (
      St H4 p 6 [(.int .i64 (Int.ofNat 1))] fun H6 =>
      Ld H6 p 3 fun v7 =>
      AsBool v7 fun b8 =>
      Cd (notB b8) (
        K (.bool false) H6) (
        Ld H6 p 3 fun v9 =>
        AsBool v9 fun b10 =>
        Cd (notB b10) (
          Ld H6 p 4 fun v11 =>
          Call1 Tryz.prog con 125 [(ptr q 0), v11] H6 fun v12 H13 =>
          Call1 Tryz.prog con 220 [(ptr p 0), v12] H13 fun v14 H15 =>
          Ld H15 p 6 fun v16 =>
          AsInt .i64 v16 fun z17 =>
          K (.bool (eqZ z17 (Int.ofNat 7))) H15) (
          Call1 Tryz.prog con 220 [(ptr p 0), (.int .u64 (Int.ofNat 0))] H6 fun v18 H19 =>
          Ld H19 p 6 fun v20 =>
          AsInt .i64 v20 fun z21 =>
          K (.bool (eqZ z21 (Int.ofNat 7))) H19)))) (
    AsInt .i64 v1 fun z22 =>
    Cd (eqZ z22 (Int.ofNat 1)) (
      Ld H p 3 fun v23 =>
      AsBool v23 fun b24 =>
      Cd (notB b24) (
        Ld H p 4 fun v25 =>
        Call1 Tryz.prog con 125 [(ptr q 0), v25] H fun v26 H27 =>
        Call1 Tryz.prog con 220 [(ptr p 0), v26] H27 fun v28 H29 =>
        Ld H29 p 6 fun v30 =>
        AsInt .i64 v30 fun z31 =>
        K (.bool (eqZ z31 (Int.ofNat 7))) H29) (
        Call1 Tryz.prog con 220 [(ptr p 0), (.int .u64 (Int.ofNat 0))] H fun v32 H33 =>
        Ld H33 p 6 fun v34 =>
        AsInt .i64 v34 fun z35 =>
        K (.bool (eqZ z35 (Int.ofNat 7))) H33)) (
      AsInt .i64 v1 fun z36 =>
      Cd (eqZ z36 (Int.ofNat 2)) (
        St H p 6 [(.int .i64 (Int.ofNat 3))] fun H37 =>
        Ld H37 p 8 fun v38 =>
        Ld H37 p 4 fun v39 =>
        Sc v38 (Sc v39 (Nw H37 (mkRow 32 0 [v38, (.int .u64 (Int.ofNat 0)), v39]) fun p40 H41 =>
        Call1 Tryz.prog con 11 [(ptr q 0), (.slice (some ⟨p40, 0, none⟩) 3 3)] H41 fun v42 H43 =>
        Sc v42 (St H43 p 9 [v42] fun H44 =>
        Ld H44 p 9 fun v45 =>
        AsNat .u64 v45 fun n46 =>
        Cd (eqN n46 0) (
          St H44 p 12 [(.int .i64 (Int.ofNat 30))] fun H47 =>
          St H47 p 6 [(.int .i64 (Int.ofNat 7))] fun H48 =>
          Ld H48 p 6 fun v49 =>
          AsInt .i64 v49 fun z50 =>
          K (.bool (eqZ z50 (Int.ofNat 7))) H48) (
          Ld H44 p 6 fun v51 =>
          AsInt .i64 v51 fun z52 =>
          K (.bool (eqZ z52 (Int.ofNat 7))) H44))))) (
        AsInt .i64 v1 fun z53 =>
        Cd (eqZ z53 (Int.ofNat 3)) (
          Ld H p 1 fun v54 =>
          Ld H p 4 fun v55 =>
          Ld H p 9 fun v56 =>
          Call1 Tryz.prog con 129 [(ptr q 0), v54, v55, v56] H fun v57 H58 =>
          Sc v57 (St H58 p 10 [v57] fun H59 =>
          Ld H59 p 0 fun v60 =>
          Ld H59 p 9 fun v61 =>
          Call1 Tryz.prog con 221 [v60, v61] H59 fun v62 H63 =>
          Sc v62 (St H63 p 11 [v62] fun H64 =>
          St H64 p 6 [(.int .i64 (Int.ofNat 4))] fun H65 =>
          Ld H65 p 10 fun v66 =>
          AsBool v66 fun b67 =>
          Cd (notB b67) (
            St H65 p 6 [(.int .i64 (Int.ofNat 5))] fun H68 =>
            Ld H68 p 6 fun v69 =>
            AsInt .i64 v69 fun z70 =>
            K (.bool (eqZ z70 (Int.ofNat 7))) H68) (
            Ld H65 p 6 fun v71 =>
            AsInt .i64 v71 fun z72 =>
            K (.bool (eqZ z72 (Int.ofNat 7))) H65)))) (
          AsInt .i64 v1 fun z73 =>
          Cd (eqZ z73 (Int.ofNat 5)) (
            Ld H p 0 fun v74 =>
            Ld H p 1 fun v75 =>
            Call1 Tryz.prog con 125 [(ptr q 0), v75] H fun v76 H77 =>
            Call1 Tryz.prog con 221 [v74, v76] H77 fun v78 H79 =>
            Sc v78 (St H79 p 11 [v78] fun H80 =>
            Ld H p 0 fun v81 =>
            Same v74 v81 (
            Ld H77 p 0 fun v82 =>
            Same v74 v82 (
            St H80 p 6 [(.int .i64 (Int.ofNat 4))] fun H83 =>
            Ld H83 p 6 fun v84 =>
            AsInt .i64 v84 fun z85 =>
            K (.bool (eqZ z85 (Int.ofNat 7))) H83)))) (
            AsInt .i64 v1 fun z86 =>
            Cd (eqZ z86 (Int.ofNat 4)) (
              Ld H p 11 fun v87 =>
              Call1 Tryz.prog con 222 [v87, (ptr q 0)] H fun v88 H89 =>
              AsBool v88 fun b90 =>
              Cd b90 (
                St H89 p 6 [(.int .i64 (Int.ofNat 7))] fun H91 =>
                Ld H91 p 6 fun v92 =>
                AsInt .i64 v92 fun z93 =>
                K (.bool (eqZ z93 (Int.ofNat 7))) H91) (
                Ld H89 p 6 fun v94 =>
                AsInt .i64 v94 fun z95 =>
                K (.bool (eqZ z95 (Int.ofNat 7))) H89)) (
              Ld H p 6 fun v96 =>
              AsInt .i64 v96 fun z97 =>
              K (.bool (eqZ z97 (Int.ofNat 7))) H))))))) := by kernel_rfl

theorem casCompare_W (con : CallT) (p xa : Nat) (H : CH) (K : KP) : funW Tryz.prog con 220 [ptr p 0, u64 xa] H K =
  (Ld H p 7 fun v1 =>
  AsNat .u64 v1 fun n2 =>
  Cd (notB (eqN xa n2)) (
    St H p 6 [(.int .i64 (Int.ofNat 7))] fun H3 =>
    K (.tuple ⟨[]⟩) H3) (
    Ld H p 7 fun v4 =>
    Ld H p 8 fun v5 =>
    AsNat .u64 v4 fun n6 =>
    AsNat .u64 v5 fun n7 =>
    Cd (eqN n6 n7) (
      St H p 10 [(.bool true)] fun H8 =>
      St H8 p 6 [(.int .i64 (Int.ofNat 7))] fun H9 =>
      K (.tuple ⟨[]⟩) H9) (
      St H p 6 [(.int .i64 (Int.ofNat 2))] fun H10 =>
      K (.tuple ⟨[]⟩) H10))) := by kernel_rfl

theorem newAt_W (con : CallT) (xa xb xc : Nat) (H : CH) (K : KP) : funW Tryz.prog con 55 [u64 xa, u64 xb, u64 xc] H K =
  (Nw H (mkRow 229 0 [(.int .u64 (Int.ofNat xa)), (.int .u64 (Int.ofNat xb)), (.bool false), (.bool false), (.int .u64 (Int.ofNat 0)), (.pointer none), (.int .i64 (Int.ofNat 0)), (.int .u64 (Int.ofNat xc)), (.int .u64 (Int.ofNat 0))]) fun p1 H2 =>
  K (ptr p1 0) H2) := by kernel_rfl

theorem atStep_W (con : CallT) (p q : Nat) (H : CH) (K : KP) : funW Tryz.prog con 225 [ptr p 0, ptr q 0] H K =
  (Ld H p 6 fun v1 =>
  AsInt .i64 v1 fun z2 =>
  Cd (eqZ z2 (Int.ofNat 0)) (
    Call1 Tryz.prog con 219 [(ptr p 0), (ptr q 0)] H fun v3 H4 =>
    AsBool v3 fun b5 =>
    Cd b5 (
      St H4 p 6 [(.int .i64 (Int.ofNat 5))] fun H6 =>
      Ld H6 p 3 fun v7 =>
      AsBool v7 fun b8 =>
      Cd b8 (
        St H6 p 6 [(.int .i64 (Int.ofNat 7))] fun H9 =>
        Ld H9 p 6 fun v10 =>
        AsInt .i64 v10 fun z11 =>
        K (.bool (eqZ z11 (Int.ofNat 7))) H9) (
        Ld H6 p 6 fun v12 =>
        AsInt .i64 v12 fun z13 =>
        K (.bool (eqZ z13 (Int.ofNat 7))) H6)) (
      Ld H4 p 6 fun v14 =>
      AsInt .i64 v14 fun z15 =>
      K (.bool (eqZ z15 (Int.ofNat 7))) H4)) (
    AsInt .i64 v1 fun z16 =>
    Cd (eqZ z16 (Int.ofNat 5)) (
      St H p 6 [(.int .i64 (Int.ofNat 1))] fun H17 =>
      Ld H17 p 4 fun v18 =>
      AsNat .u64 v18 fun n19 =>
      Call1 Tryz.prog con 125 [(ptr q 0), (.int .u64 (Int.ofNat (Nat.mod (Nat.add n19 1) 18446744073709551616)))] H17 fun v20 H21 =>
      Ld H21 p 7 fun v22 =>
      AsNat .u64 v20 fun n23 =>
      AsNat .u64 v22 fun n24 =>
      Ld H17 p 7 fun v25 =>
      Same v22 v25 (
      Ld H21 p 7 fun v26 =>
      Same v22 v26 (
      Cd (ltN n24 n23) (
        St H21 p 6 [(.int .i64 (Int.ofNat 6))] fun H27 =>
        Ld H27 p 6 fun v28 =>
        AsInt .i64 v28 fun z29 =>
        K (.bool (eqZ z29 (Int.ofNat 7))) H27) (
        Ld H21 p 6 fun v30 =>
        AsInt .i64 v30 fun z31 =>
        K (.bool (eqZ z31 (Int.ofNat 7))) H21)))) (
      AsInt .i64 v1 fun z32 =>
      Cd (eqZ z32 (Int.ofNat 6)) (
        St H p 6 [(.int .i64 (Int.ofNat 5))] fun H33 =>
        Ld H33 p 4 fun v34 =>
        AsNat .u64 v34 fun n35 =>
        Call1 Tryz.prog con 125 [(ptr q 0), (.int .u64 (Int.ofNat (Nat.mod (Nat.add n35 2) 18446744073709551616)))] H33 fun v36 H37 =>
        Sc v36 (St H37 p 4 [v36] fun H38 =>
        Ld H38 p 4 fun v39 =>
        AsNat .u64 v39 fun n40 =>
        Cd (eqN n40 0) (
          St H38 p 6 [(.int .i64 (Int.ofNat 7))] fun H41 =>
          Ld H41 p 6 fun v42 =>
          AsInt .i64 v42 fun z43 =>
          K (.bool (eqZ z43 (Int.ofNat 7))) H41) (
          Ld H38 p 6 fun v44 =>
          AsInt .i64 v44 fun z45 =>
          K (.bool (eqZ z45 (Int.ofNat 7))) H38))) (
        AsInt .i64 v1 fun z46 =>
        Cd (eqZ z46 (Int.ofNat 1)) (
          Ld H p 4 fun v47 =>
          Call1 Tryz.prog con 125 [(ptr q 0), v47] H fun v48 H49 =>
          Sc v48 (St H49 p 8 [v48] fun H50 =>
          St H50 p 6 [(.int .i64 (Int.ofNat 7))] fun H51 =>
          Ld H51 p 6 fun v52 =>
          AsInt .i64 v52 fun z53 =>
          K (.bool (eqZ z53 (Int.ofNat 7))) H51)) (
          Ld H p 6 fun v54 =>
          AsInt .i64 v54 fun z55 =>
          K (.bool (eqZ z55 (Int.ofNat 7))) H))))) := by kernel_rfl

theorem ref9Begin_W (con : CallT) (xk : Int) (xa xb xc xd : Nat) (H : CH) (K : KP) : funW Tryz.prog con 60 [.agg ⟨[i64 xk, u64 xa, u64 xb, u64 xc]⟩, u64 xd] H K =
  (Nw H (mkRow 186 0 [(.int .i64 xk), (.int .u64 (Int.ofNat xa)), (.int .u64 (Int.ofNat xb)), (.int .u64 (Int.ofNat xc))]) fun p1 H2 =>
  Ld H2 p1 0 fun v3 =>
  Ld H2 p1 1 fun v4 =>
  Ld H2 p1 2 fun v5 =>
  Ld H2 p1 3 fun v6 =>
  Ld H2 p1 2 fun v7 =>
  Sc v7 (Ld H2 p1 1 fun v8 =>
  Sc v8 (Ld H2 p1 1 fun v9 =>
  Ld H2 p1 2 fun v10 =>
  Ld H2 p1 3 fun v11 =>
  Sc v9 (Sc v10 (Sc v11 (Ld H2 p1 1 fun v12 =>
  Ld H2 p1 2 fun v13 =>
  Sc v12 (Sc v13 (Nw H2 (mkRow 246 0 [v3, v4, v5, v6, (.int .i64 (Int.ofNat 0)), (.int .u64 (Int.ofNat xd)), v7, (.int .u64 (Int.ofNat 0)), (.int .i64 (Int.ofNat 0)), (.int .u64 (Int.ofNat xd)), v8, (.int .u64 (Int.ofNat 0)), (.int .i64 (Int.ofNat 0)), (.int .u64 (Int.ofNat 0)), (.int .u64 (Int.ofNat 0)), (.int .u64 (Int.ofNat 0)), (.int .u64 (Int.ofNat 0)), (.int .i64 (Int.ofNat 0)), (.int .u64 (Int.ofNat xd)), v9, v10, v11, (.int .u64 (Int.ofNat 0)), (.int .u64 (Int.ofNat 0)), (.int .i64 (Int.ofNat 0)), (.int .u64 (Int.ofNat 0)), (.int .u64 (Int.ofNat 0)), (.int .u64 (Int.ofNat 0)), (.bool false), (.int .i64 (Int.ofNat 0)), (.int .i64 (Int.ofNat 0)), (.int .u64 (Int.ofNat xd)), v12, v13, (.int .u64 (Int.ofNat 0)), (.int .i64 (Int.ofNat 0)), (.int .u64 (Int.ofNat 0)), (.int .u64 (Int.ofNat 0)), (.int .u64 (Int.ofNat 0)), (.int .u64 (Int.ofNat 0)), (.int .i64 (Int.ofNat 0)), (.int .u64 (Int.ofNat 0)), (.int .u64 (Int.ofNat 0)), (.bool false), (.int .i64 (Int.ofNat 0)), (.bool false)]) fun p14 H15 =>
  K (ptr p14 0) H15)))))))) := by kernel_rfl

theorem ref9Proc_W (con : CallT) (p m : Nat) (t : Int) (H : CH) (K : KP) : funW Tryz.prog con 62 [ptr p 0, ptr m 0, i64 t] H K =
  (Ld H p 45 fun v1 =>
  AsBool v1 fun b2 =>
  Cd b2 (
    K (.bool true) H) (
    Ld H p 0 fun v3 =>
    AsInt .i64 v3 fun z4 =>
    Cd (eqZ z4 (Int.ofNat 0)) (
      Call1 Tryz.prog con 119 [(ptr p 8), (ptr m 0), (.int .i64 t)] H fun v5 H6 =>
      Sc v5 (St H6 p 45 [v5] fun H7 =>
      Ld H7 p 16 fun v8 =>
      Sc v8 (St H7 p 42 [v8] fun H9 =>
      Ld H9 p 45 fun v10 =>
      K v10 H9))) (
      AsInt .i64 v3 fun z11 =>
      Cd (eqZ z11 (Int.ofNat 1)) (
        Call1 Tryz.prog con 120 [(ptr p 17), (ptr m 0), (.int .i64 t)] H fun v12 H13 =>
        Sc v12 (St H13 p 45 [v12] fun H14 =>
        Ld H14 p 28 fun v15 =>
        Sc v15 (St H14 p 43 [v15] fun H16 =>
        Ld H16 p 29 fun v17 =>
        Sc v17 (St H16 p 44 [v17] fun H18 =>
        Ld H18 p 45 fun v19 =>
        K v19 H18)))) (
        AsInt .i64 v3 fun z20 =>
        Cd (eqZ z20 (Int.ofNat 2)) (
          Call1 Tryz.prog con 121 [(ptr p 30), (ptr m 0), (.int .i64 t)] H fun v21 H22 =>
          Sc v21 (St H22 p 45 [v21] fun H23 =>
          Ld H23 p 39 fun v24 =>
          Sc v24 (St H23 p 42 [v24] fun H25 =>
          Ld H25 p 45 fun v26 =>
          K v26 H25))) (
          AsInt .i64 v3 fun z27 =>
          Cd (eqZ z27 (Int.ofNat 3)) (
            Ld H p 5 fun v28 =>
            Call1 Tryz.prog con 122 [(ptr p 0), (ptr m 0), (.int .i64 t), v28] H fun v29 H30 =>
            Sc v29 (St H30 p 45 [v29] fun H31 =>
            Ld H31 p 45 fun v32 =>
            K v32 H31)) (
            Call1 Tryz.prog con 123 [(ptr p 4), (ptr m 0), (.int .i64 t)] H fun v33 H34 =>
            Sc v33 (St H34 p 45 [v33] fun H35 =>
            Ld H35 p 45 fun v36 =>
            K v36 H35))))))) := by kernel_rfl

theorem ref9Picture_W (con : CallT) (p m xa : Nat) (t : Int) (H : CH) (K : KP) : funW Tryz.prog con 122 [ptr p 0, ptr m 0, i64 t, u64 xa] H K =
  (Ld H p 40 fun v1 =>
  AsInt .i64 v1 fun z2 =>
  Cd (eqZ z2 (Int.ofNat 0)) (
    St H p 40 [(.int .i64 (Int.ofNat 1))] fun H3 =>
    Call1 Tryz.prog con 115 [(ptr m 0), (.int .i64 t), (.int .u64 (Int.ofNat xa))] H3 fun v4 H5 =>
    Sc v4 (St H5 p 41 [v4] fun H6 =>
    Ld H6 p 41 fun v7 =>
    Ld H6 p 2 fun v8 =>
    AsNat .u64 v7 fun n9 =>
    AsNat .u64 v8 fun n10 =>
    Cd (leN n10 n9) (
      St H6 p 44 [(.int .i64 (Int.ofNat 31))] fun H11 =>
      K (.bool true) H11) (
      K (.bool false) H6))) (
    Ld H p 41 fun v12 =>
    Ld H p 41 fun v13 =>
    AsNat .u64 v13 fun n14 =>
    Call1 Tryz.prog con 133 [(ptr m 0), (.int .i64 t), (.int .u64 (Int.ofNat xa)), v12, (.int .u64 (Int.ofNat (Nat.mod (Nat.add n14 1) 18446744073709551616)))] H fun v15 H16 =>
    Sc v15 (St H16 p 43 [v15] fun H17 =>
    Ld H17 p 41 fun v18 =>
    Sc v18 (St H17 p 42 [v18] fun H19 =>
    K (.bool true) H19)))) := by kernel_rfl

theorem ref9Init_W (con : CallT) (p o m : Nat) (t : Int) (H : CH) (K : KP) : funW Tryz.prog con 123 [ptr p o, ptr m 0, i64 t] H K =
  (Ld H p (Nat.add o 0) fun v1 =>
  AsInt .i64 v1 fun z2 =>
  Cd (eqZ z2 (Int.ofNat 0)) (
    St H p (Nat.add o 0) [(.int .i64 (Int.ofNat 1))] fun H3 =>
    Ld H3 p (Nat.add o 2) fun v4 =>
    AsNat .u64 v4 fun n5 =>
    Call1 Tryz.prog con 115 [(ptr m 0), (.int .i64 t), (.int .u64 (Int.ofNat (Nat.mod (Nat.add n5 1) 18446744073709551616)))] H3 fun v6 H7 =>
    AsNat .u64 v6 fun n8 =>
    Cd (notB (eqN n8 0)) (
      St H7 p (Nat.add o 0) [(.int .i64 (Int.ofNat 3))] fun H9 =>
      Ld H9 p (Nat.add o 0) fun v10 =>
      AsInt .i64 v10 fun z11 =>
      K (.bool (eqZ z11 (Int.ofNat 3))) H9) (
      Ld H7 p (Nat.add o 0) fun v12 =>
      AsInt .i64 v12 fun z13 =>
      K (.bool (eqZ z13 (Int.ofNat 3))) H7)) (
    AsInt .i64 v1 fun z14 =>
    Cd (eqZ z14 (Int.ofNat 1)) (
      Ld H p (Nat.add o 1) fun v15 =>
      Call1 Tryz.prog con 115 [(ptr m 0), (.int .i64 t), v15] H fun v16 H17 =>
      Sc v16 (St H17 p (Nat.add o 3) [v16] fun H18 =>
      St H18 p (Nat.add o 0) [(.int .i64 (Int.ofNat 2))] fun H19 =>
      Ld H19 p (Nat.add o 0) fun v20 =>
      AsInt .i64 v20 fun z21 =>
      K (.bool (eqZ z21 (Int.ofNat 3))) H19)) (
      AsInt .i64 v1 fun z22 =>
      Cd (eqZ z22 (Int.ofNat 2)) (
        Ld H p (Nat.add o 2) fun v23 =>
        AsNat .u64 v23 fun n24 =>
        Ld H p (Nat.add o 3) fun v25 =>
        Call1 Tryz.prog con 133 [(ptr m 0), (.int .i64 t), (.int .u64 (Int.ofNat (Nat.mod (Nat.add n24 1) 18446744073709551616))), (.int .u64 (Int.ofNat 0)), v25] H fun v26 H27 =>
        St H27 p (Nat.add o 0) [(.int .i64 (Int.ofNat 3))] fun H28 =>
        Ld H28 p (Nat.add o 0) fun v29 =>
        AsInt .i64 v29 fun z30 =>
        K (.bool (eqZ z30 (Int.ofNat 3))) H28) (
        Ld H p (Nat.add o 0) fun v31 =>
        AsInt .i64 v31 fun z32 =>
        K (.bool (eqZ z32 (Int.ofNat 3))) H)))) := by kernel_rfl

theorem ref9Cas_W (con : CallT) (p o m : Nat) (t : Int) (H : CH) (K : KP) : funW Tryz.prog con 120 [ptr p o, ptr m 0, i64 t] H K =
  (Ld H p (Nat.add o 0) fun v1 =>
  AsInt .i64 v1 fun z2 =>
  Cd (eqZ z2 (Int.ofNat 0)) (
    Ld H p (Nat.add o 2) fun v3 =>
    Call1 Tryz.prog con 115 [(ptr m 0), (.int .i64 t), v3] H fun v4 H5 =>
    Sc v4 (St H5 p (Nat.add o 5) [v4] fun H6 =>
    Ld H6 p (Nat.add o 1) fun v7 =>
    Ld H6 p (Nat.add o 5) fun v8 =>
    Sc v7 (Sc v8 (St H6 p (Nat.add o 7) [(.int .i64 (Int.ofNat 0)), v7, v8, (.int .u64 (Int.ofNat 0))] fun H9 =>
    St H9 p (Nat.add o 0) [(.int .i64 (Int.ofNat 1))] fun H10 =>
    Ld H10 p (Nat.add o 5) fun v11 =>
    AsNat .u64 v11 fun n12 =>
    Cd (eqN n12 0) (
      Call1 Tryz.prog con 139 [(ptr p o), (.int .u64 (Int.ofNat 0))] H10 fun v13 H14 =>
      Ld H14 p (Nat.add o 0) fun v15 =>
      AsInt .i64 v15 fun z16 =>
      K (.bool (eqZ z16 (Int.ofNat 8))) H14) (
      Ld H10 p (Nat.add o 0) fun v17 =>
      AsInt .i64 v17 fun z18 =>
      K (.bool (eqZ z18 (Int.ofNat 8))) H10))))) (
    AsInt .i64 v1 fun z19 =>
    Cd (eqZ z19 (Int.ofNat 1)) (
      Call1 Tryz.prog con 123 [(ptr p (Nat.add o 7)), (ptr m 0), (.int .i64 t)] H fun v20 H21 =>
      AsBool v20 fun b22 =>
      Cd b22 (
        St H21 p (Nat.add o 0) [(.int .i64 (Int.ofNat 2))] fun H23 =>
        Ld H23 p (Nat.add o 0) fun v24 =>
        AsInt .i64 v24 fun z25 =>
        K (.bool (eqZ z25 (Int.ofNat 8))) H23) (
        Ld H21 p (Nat.add o 0) fun v26 =>
        AsInt .i64 v26 fun z27 =>
        K (.bool (eqZ z27 (Int.ofNat 8))) H21)) (
      AsInt .i64 v1 fun z28 =>
      Cd (eqZ z28 (Int.ofNat 2)) (
        Ld H p (Nat.add o 5) fun v29 =>
        Call1 Tryz.prog con 115 [(ptr m 0), (.int .i64 t), v29] H fun v30 H31 =>
        Call1 Tryz.prog con 139 [(ptr p o), v30] H31 fun v32 H33 =>
        Ld H33 p (Nat.add o 0) fun v34 =>
        AsInt .i64 v34 fun z35 =>
        K (.bool (eqZ z35 (Int.ofNat 8))) H33) (
        AsInt .i64 v1 fun z36 =>
        Cd (eqZ z36 (Int.ofNat 3)) (
          Ld H p (Nat.add o 4) fun v37 =>
          Ld H p (Nat.add o 5) fun v38 =>
          Sc v37 (Sc v38 (Nw H (mkRow 32 0 [v37, (.int .u64 (Int.ofNat 0)), v38]) fun p39 H40 =>
          Call1 Tryz.prog con 12 [(ptr m 0), (.int .i64 t), (.slice (some ⟨p39, 0, none⟩) 3 3)] H40 fun v41 H42 =>
          Sc v41 (St H42 p (Nat.add o 6) [v41] fun H43 =>
          St H43 p (Nat.add o 0) [(.int .i64 (Int.ofNat 4))] fun H44 =>
          Ld H44 p (Nat.add o 6) fun v45 =>
          AsNat .u64 v45 fun n46 =>
          Cd (eqN n46 0) (
            St H44 p (Nat.add o 12) [(.int .i64 (Int.ofNat 30))] fun H47 =>
            St H47 p (Nat.add o 0) [(.int .i64 (Int.ofNat 8))] fun H48 =>
            Ld H48 p (Nat.add o 0) fun v49 =>
            AsInt .i64 v49 fun z50 =>
            K (.bool (eqZ z50 (Int.ofNat 8))) H48) (
            Ld H44 p (Nat.add o 0) fun v51 =>
            AsInt .i64 v51 fun z52 =>
            K (.bool (eqZ z52 (Int.ofNat 8))) H44))))) (
          AsInt .i64 v1 fun z53 =>
          Cd (eqZ z53 (Int.ofNat 4)) (
            St H p (Nat.add o 0) [(.int .i64 (Int.ofNat 6))] fun H54 =>
            Ld H54 p (Nat.add o 2) fun v55 =>
            Ld H54 p (Nat.add o 5) fun v56 =>
            Ld H54 p (Nat.add o 6) fun v57 =>
            Call1 Tryz.prog con 133 [(ptr m 0), (.int .i64 t), v55, v56, v57] H54 fun v58 H59 =>
            AsBool v58 fun b60 =>
            Cd b60 (
              St H59 p (Nat.add o 0) [(.int .i64 (Int.ofNat 5))] fun H61 =>
              Ld H61 p (Nat.add o 1) fun v62 =>
              Ld H61 p (Nat.add o 6) fun v63 =>
              Sc v62 (Sc v63 (St H61 p (Nat.add o 7) [(.int .i64 (Int.ofNat 0)), v62, v63, (.int .u64 (Int.ofNat 0))] fun H64 =>
              Ld H64 p (Nat.add o 0) fun v65 =>
              AsInt .i64 v65 fun z66 =>
              K (.bool (eqZ z66 (Int.ofNat 8))) H64))) (
              Ld H59 p (Nat.add o 0) fun v67 =>
              AsInt .i64 v67 fun z68 =>
              K (.bool (eqZ z68 (Int.ofNat 8))) H59)) (
            AsInt .i64 v1 fun z69 =>
            Cd (eqZ z69 (Int.ofNat 5)) (
              Call1 Tryz.prog con 123 [(ptr p (Nat.add o 7)), (ptr m 0), (.int .i64 t)] H fun v70 H71 =>
              AsBool v70 fun b72 =>
              Cd b72 (
                St H71 p (Nat.add o 11) [(.bool true)] fun H73 =>
                St H73 p (Nat.add o 0) [(.int .i64 (Int.ofNat 8))] fun H74 =>
                Ld H74 p (Nat.add o 0) fun v75 =>
                AsInt .i64 v75 fun z76 =>
                K (.bool (eqZ z76 (Int.ofNat 8))) H74) (
                Ld H71 p (Nat.add o 0) fun v77 =>
                AsInt .i64 v77 fun z78 =>
                K (.bool (eqZ z78 (Int.ofNat 8))) H71)) (
              AsInt .i64 v1 fun z79 =>
              Cd (eqZ z79 (Int.ofNat 6)) (
                Ld H p (Nat.add o 1) fun v80 =>
                Ld H p (Nat.add o 2) fun v81 =>
                Call1 Tryz.prog con 115 [(ptr m 0), (.int .i64 t), v81] H fun v82 H83 =>
                Sc v80 (Sc v82 (St H83 p (Nat.add o 7) [(.int .i64 (Int.ofNat 0)), v80, v82, (.int .u64 (Int.ofNat 0))] fun H84 =>
                Ld H p (Nat.add o 1) fun v85 =>
                Same v80 v85 (
                Ld H83 p (Nat.add o 1) fun v86 =>
                Same v80 v86 (
                St H84 p (Nat.add o 0) [(.int .i64 (Int.ofNat 7))] fun H87 =>
                Ld H87 p (Nat.add o 0) fun v88 =>
                AsInt .i64 v88 fun z89 =>
                K (.bool (eqZ z89 (Int.ofNat 8))) H87))))) (
                AsInt .i64 v1 fun z90 =>
                Cd (eqZ z90 (Int.ofNat 7)) (
                  Call1 Tryz.prog con 123 [(ptr p (Nat.add o 7)), (ptr m 0), (.int .i64 t)] H fun v91 H92 =>
                  AsBool v91 fun b93 =>
                  Cd b93 (
                    St H92 p (Nat.add o 0) [(.int .i64 (Int.ofNat 8))] fun H94 =>
                    Ld H94 p (Nat.add o 0) fun v95 =>
                    AsInt .i64 v95 fun z96 =>
                    K (.bool (eqZ z96 (Int.ofNat 8))) H94) (
                    Ld H92 p (Nat.add o 0) fun v97 =>
                    AsInt .i64 v97 fun z98 =>
                    K (.bool (eqZ z98 (Int.ofNat 8))) H92)) (
                  Ld H p (Nat.add o 0) fun v99 =>
                  AsInt .i64 v99 fun z100 =>
                  K (.bool (eqZ z100 (Int.ofNat 8))) H))))))))) := by kernel_rfl

theorem ref9Held_W (con : CallT) (p o xa : Nat) (H : CH) (K : KP) : funW Tryz.prog con 139 [ptr p o, u64 xa] H K =
  (St H p (Nat.add o 0) [(.int .i64 (Int.ofNat 3))] fun H1 =>
  Ld H1 p (Nat.add o 3) fun v2 =>
  AsNat .u64 v2 fun n3 =>
  Cd (notB (eqN xa n3)) (
    St H1 p (Nat.add o 0) [(.int .i64 (Int.ofNat 8))] fun H4 =>
    K (.tuple ⟨[]⟩) H4) (
    Ld H1 p (Nat.add o 3) fun v5 =>
    Ld H1 p (Nat.add o 4) fun v6 =>
    AsNat .u64 v5 fun n7 =>
    AsNat .u64 v6 fun n8 =>
    Cd (eqN n7 n8) (
      St H1 p (Nat.add o 11) [(.bool true)] fun H9 =>
      St H9 p (Nat.add o 0) [(.int .i64 (Int.ofNat 8))] fun H10 =>
      K (.tuple ⟨[]⟩) H10) (
      K (.tuple ⟨[]⟩) H1))) := by kernel_rfl

theorem ref9Past_W (con : CallT) (p o m : Nat) (t : Int) (H : CH) (K : KP) : funW Tryz.prog con 121 [ptr p o, ptr m 0, i64 t] H K =
  (Ld H p (Nat.add o 0) fun v1 =>
  AsInt .i64 v1 fun z2 =>
  Cd (eqZ z2 (Int.ofNat 0)) (
    Ld H p (Nat.add o 2) fun v3 =>
    Call1 Tryz.prog con 115 [(ptr m 0), (.int .i64 t), v3] H fun v4 H5 =>
    Sc v4 (St H5 p (Nat.add o 4) [v4] fun H6 =>
    Ld H6 p (Nat.add o 1) fun v7 =>
    Ld H6 p (Nat.add o 4) fun v8 =>
    Sc v7 (Sc v8 (St H6 p (Nat.add o 5) [(.int .i64 (Int.ofNat 0)), v7, v8, (.int .u64 (Int.ofNat 0))] fun H9 =>
    St H9 p (Nat.add o 0) [(.int .i64 (Int.ofNat 1))] fun H10 =>
    Ld H10 p (Nat.add o 4) fun v11 =>
    AsNat .u64 v11 fun n12 =>
    Cd (eqN n12 0) (
      St H10 p (Nat.add o 0) [(.int .i64 (Int.ofNat 5))] fun H13 =>
      Ld H13 p (Nat.add o 0) fun v14 =>
      AsInt .i64 v14 fun z15 =>
      K (.bool (eqZ z15 (Int.ofNat 5))) H13) (
      Ld H10 p (Nat.add o 0) fun v16 =>
      AsInt .i64 v16 fun z17 =>
      K (.bool (eqZ z17 (Int.ofNat 5))) H10))))) (
    AsInt .i64 v1 fun z18 =>
    Cd (eqZ z18 (Int.ofNat 1)) (
      Call1 Tryz.prog con 123 [(ptr p (Nat.add o 5)), (ptr m 0), (.int .i64 t)] H fun v19 H20 =>
      AsBool v19 fun b21 =>
      Cd b21 (
        St H20 p (Nat.add o 0) [(.int .i64 (Int.ofNat 2))] fun H22 =>
        Ld H22 p (Nat.add o 0) fun v23 =>
        AsInt .i64 v23 fun z24 =>
        K (.bool (eqZ z24 (Int.ofNat 5))) H22) (
        Ld H20 p (Nat.add o 0) fun v25 =>
        AsInt .i64 v25 fun z26 =>
        K (.bool (eqZ z26 (Int.ofNat 5))) H20)) (
      AsInt .i64 v1 fun z27 =>
      Cd (eqZ z27 (Int.ofNat 2)) (
        St H p (Nat.add o 0) [(.int .i64 (Int.ofNat 4))] fun H28 =>
        Ld H28 p (Nat.add o 4) fun v29 =>
        AsNat .u64 v29 fun n30 =>
        Call1 Tryz.prog con 115 [(ptr m 0), (.int .i64 t), (.int .u64 (Int.ofNat (Nat.mod (Nat.add n30 1) 18446744073709551616)))] H28 fun v31 H32 =>
        Ld H32 p (Nat.add o 3) fun v33 =>
        AsNat .u64 v31 fun n34 =>
        AsNat .u64 v33 fun n35 =>
        Ld H28 p (Nat.add o 3) fun v36 =>
        Same v33 v36 (
        Ld H32 p (Nat.add o 3) fun v37 =>
        Same v33 v37 (
        Cd (ltN n35 n34) (
          St H32 p (Nat.add o 0) [(.int .i64 (Int.ofNat 3))] fun H38 =>
          Ld H38 p (Nat.add o 0) fun v39 =>
          AsInt .i64 v39 fun z40 =>
          K (.bool (eqZ z40 (Int.ofNat 5))) H38) (
          Ld H32 p (Nat.add o 0) fun v41 =>
          AsInt .i64 v41 fun z42 =>
          K (.bool (eqZ z42 (Int.ofNat 5))) H32)))) (
        AsInt .i64 v1 fun z43 =>
        Cd (eqZ z43 (Int.ofNat 3)) (
          Ld H p (Nat.add o 4) fun v44 =>
          AsNat .u64 v44 fun n45 =>
          Call1 Tryz.prog con 115 [(ptr m 0), (.int .i64 t), (.int .u64 (Int.ofNat (Nat.mod (Nat.add n45 2) 18446744073709551616)))] H fun v46 H47 =>
          Sc v46 (St H47 p (Nat.add o 4) [v46] fun H48 =>
          St H48 p (Nat.add o 0) [(.int .i64 (Int.ofNat 2))] fun H49 =>
          Ld H49 p (Nat.add o 4) fun v50 =>
          AsNat .u64 v50 fun n51 =>
          Cd (eqN n51 0) (
            St H49 p (Nat.add o 0) [(.int .i64 (Int.ofNat 5))] fun H52 =>
            Ld H52 p (Nat.add o 0) fun v53 =>
            AsInt .i64 v53 fun z54 =>
            K (.bool (eqZ z54 (Int.ofNat 5))) H52) (
            Ld H49 p (Nat.add o 0) fun v55 =>
            AsInt .i64 v55 fun z56 =>
            K (.bool (eqZ z56 (Int.ofNat 5))) H49))) (
          AsInt .i64 v1 fun z57 =>
          Cd (eqZ z57 (Int.ofNat 4)) (
            Ld H p (Nat.add o 4) fun v58 =>
            Call1 Tryz.prog con 115 [(ptr m 0), (.int .i64 t), v58] H fun v59 H60 =>
            Sc v59 (St H60 p (Nat.add o 9) [v59] fun H61 =>
            St H61 p (Nat.add o 0) [(.int .i64 (Int.ofNat 5))] fun H62 =>
            Ld H62 p (Nat.add o 0) fun v63 =>
            AsInt .i64 v63 fun z64 =>
            K (.bool (eqZ z64 (Int.ofNat 5))) H62)) (
            Ld H p (Nat.add o 0) fun v65 =>
            AsInt .i64 v65 fun z66 =>
            K (.bool (eqZ z66 (Int.ofNat 5))) H)))))) := by kernel_rfl

theorem refCas_W (con : CallT) (p a x y : Nat) (t : Int) (H : CH) (K : KP) : funW Tryz.prog con 133 [ptr p 0, .int .i64 t, .int .u64 (Int.ofNat a), .int .u64 (Int.ofNat x), .int .u64 (Int.ofNat y)] H K =
  (Ld H p 0 fun v1 =>
  AsLen v1 fun l2 =>
  Must (cvOk .i64 (Int.ofNat l2)) (
  Cd (ltN a (wrapN .u64 (Int.ofNat l2))) (
    Ld H p 0 fun v3 =>
    AsSlc v3 fun p4 o5 l6 c7 =>
    Must (ltN a l6) (
    Ld H p4 (Nat.add o5 (Nat.mul a 1)) fun v8 =>
    AsNat .u64 v8 fun n9 =>
    Cd (eqN n9 x) (
      Call1 Tryz.prog con 66 [(ptr p 0), (.int .u64 (Int.ofNat a)), (.int .u64 (Int.ofNat y))] H fun v10 H11 =>
      Call1 Tryz.prog con 52 [(ptr p 0), (.agg ⟨[(.int .i64 t), (.int .u8 (Int.ofNat 3)), (.int .u64 (Int.ofNat a)), (.int .u64 (Int.ofNat x)), (.int .u64 (Int.ofNat y)), (.slice none 0 0), (.int .u64 (Int.ofNat 0)), (.bool (eqN n9 x))]⟩)] H11 fun v12 H13 =>
      K (.bool (eqN n9 x)) H13) (
      Call1 Tryz.prog con 52 [(ptr p 0), (.agg ⟨[(.int .i64 t), (.int .u8 (Int.ofNat 3)), (.int .u64 (Int.ofNat a)), (.int .u64 (Int.ofNat x)), (.int .u64 (Int.ofNat y)), (.slice none 0 0), (.int .u64 (Int.ofNat 0)), (.bool (eqN n9 x))]⟩)] H fun v14 H15 =>
      K (.bool (eqN n9 x)) H15))) (
    Call1 Tryz.prog con 52 [(ptr p 0), (.agg ⟨[(.int .i64 t), (.int .u8 (Int.ofNat 3)), (.int .u64 (Int.ofNat a)), (.int .u64 (Int.ofNat x)), (.int .u64 (Int.ofNat y)), (.slice none 0 0), (.int .u64 (Int.ofNat 0)), (.bool false)]⟩)] H fun v16 H17 =>
    K (.bool false) H17))) := by kernel_rfl

end Go.Proofs.YtipbbnoepphdkaaGreat

/- What some functions' texts ask for, step by step, each checked by the kernel. No conditions. -/
set_option linter.unusedVariables false
namespace Go.Proofs.YtipbbnoepphdkaaGreat
open Go Go.CM

theorem stepNew_W (con : CallT) (m : Nat) (v : Value) (H : CH) (K : KP) : funW Tryz.prog con 14 [ptr m 0, v] H K =
  (AsLen v fun l1 =>
  Cd (ltZ (Int.ofNat 64) (Int.ofNat l1)) (
    K (.tuple ⟨[(.pointer none), (.int .i64 (Int.ofNat 6))]⟩) H) (
    Call1 Tryz.prog con 56 [v, (.func (.func 57) ⟨[]⟩ ⟨[]⟩)] H fun v2 H3 =>
    AsBool v2 fun b4 =>
    Cd b4 (
      K (.tuple ⟨[(.pointer none), (.int .i64 (Int.ofNat 6))]⟩) H3) (
      Nw H3 (mkRow 175 0 [(ptr m 0), (.slice none 0 0), (.pointer none), (.pointer none), (.pointer none), (.pointer none), (.pointer none), (.pointer none), (.pointer none), (.pointer none), (.pointer none), (.pointer none), (.pointer none), (.pointer none), (.pointer none), (.pointer none), (.pointer none), (.pointer none), (.pointer none), (.pointer none), (.pointer none), (.pointer none), (.pointer none), (.pointer none), (.pointer none), (.pointer none), (.pointer none), (.pointer none), (.pointer none), (.pointer none), (.pointer none), (.pointer none), (.pointer none), (.pointer none), (.pointer none), (.pointer none), (.pointer none), (.pointer none), (.pointer none), (.pointer none), (.pointer none), (.pointer none), (.pointer none), (.pointer none), (.pointer none), (.pointer none), (.pointer none), (.pointer none), (.pointer none), (.pointer none), (.pointer none), (.pointer none), (.pointer none), (.pointer none), (.pointer none), (.pointer none), (.pointer none), (.pointer none), (.pointer none), (.pointer none), (.pointer none), (.pointer none), (.pointer none), (.pointer none), (.pointer none), (.pointer none), (.int .i64 (Int.ofNat 0)), (.slice none 0 0), (.slice none 0 0)]) fun p5 H6 =>
      AsLen v fun l7 =>
      LoopC Tryz.prog con (lpAt Tryz.prog 14 0) (upd (upd (upd (upd (upd (upd (upd (upd (upd (upd (upd (upd (upd (upd (upd (upd (upd (upd (upd (upd (upd (upd (fun _ => undV) 1 v) 0 (ptr m 0)) 4 (.pointer none)) 5 (.int .i64 (Int.ofNat 0))) 9 (ptr m 0)) 10 (.bool false)) 11 v) 12 (.int .i64 (Int.ofNat l1))) 13 (.bool (ltZ (Int.ofNat 64) (Int.ofNat l1)))) 14 (.bool (ltZ (Int.ofNat 64) (Int.ofNat l1)))) 14 (.bool false)) 15 v) 14 (.bool false)) 16 v2) 17 v2) 18 (ptr m 0)) 19 (.agg ⟨[(ptr m 0), (.slice none 0 0), (.pointer none), (.pointer none), (.pointer none), (.pointer none), (.pointer none), (.pointer none), (.pointer none), (.pointer none), (.pointer none), (.pointer none), (.pointer none), (.pointer none), (.pointer none), (.pointer none), (.pointer none), (.pointer none), (.pointer none), (.pointer none), (.pointer none), (.pointer none), (.pointer none), (.pointer none), (.pointer none), (.pointer none), (.pointer none), (.pointer none), (.pointer none), (.pointer none), (.pointer none), (.pointer none), (.pointer none), (.pointer none), (.pointer none), (.pointer none), (.pointer none), (.pointer none), (.pointer none), (.pointer none), (.pointer none), (.pointer none), (.pointer none), (.pointer none), (.pointer none), (.pointer none), (.pointer none), (.pointer none), (.pointer none), (.pointer none), (.pointer none), (.pointer none), (.pointer none), (.pointer none), (.pointer none), (.pointer none), (.pointer none), (.pointer none), (.pointer none), (.pointer none), (.pointer none), (.pointer none), (.pointer none), (.pointer none), (.pointer none), (.pointer none), (.int .i64 (Int.ofNat 0)), (.slice none 0 0), (.slice none 0 0)]⟩)) 20 (ptr p5 0)) 6 (ptr p5 0)) 21 v) 22 (.int .i64 (Int.ofNat l7))) 23 (.int .i64 (Int.ofNat 0))) H6 (fun e => ceP e
      (fun a8 H9 =>
        K (.tuple ⟨[(a8 6), (.int .i64 (Int.ofNat 0))]⟩) H9)
      (fun i10 => fun a8 H9 =>
        Cd (eqN i10 0) (
          K (.tuple ⟨[(a8 6), (.int .i64 (Int.ofNat 0))]⟩) H9) (
          False))
      (fun a8 H9 =>
        K (.tuple ⟨[(a8 4), (a8 5)]⟩) H9))))) := by kernel_rfl

theorem stepNewC_W (con : CallT) (v : Value) (H : CH) (K : KP) : funW Tryz.prog con 57 [v] H K =
  (AsLen v fun l1 =>
  K (.bool (ltZ (Int.ofNat 4096) (Int.ofNat l1))) H) := by kernel_rfl

theorem stepRun_W (con : CallT) (p : Nat) (v : Value) (H : CH) (K : KP) : funW Tryz.prog con 16 [ptr p 0, v] H K =
  (AsLen v fun l1 =>
  LoopC Tryz.prog con (lpAt Tryz.prog 16 0) (upd (upd (upd (upd (upd (fun _ => undV) 1 v) 0 (ptr p 0)) 6 v) 7 (.int .i64 (Int.ofNat l1))) 8 (.int .i64 (Int.ofNat 0))) H (fun e => ceP e
  (fun a2 H3 =>
    K (.tuple ⟨[]⟩) H3)
  (fun i4 => fun a2 H3 =>
    Cd (eqN i4 0) (
      K (.tuple ⟨[]⟩) H3) (
      False))
  (fun a2 H3 =>
    K (.tuple ⟨[]⟩) H3))) := by kernel_rfl

theorem stepPick_W (con : CallT) (p : Nat) (t : Int) (H : CH) (K : KP) : funW Tryz.prog con 59 [ptr p 0, i64 t] H K =
  (Ld H p 66 fun v1 =>
  Ld H p 66 fun v2 =>
  AsInt .i64 v2 fun z3 =>
  InR (Int.add z3 (Int.ofNat 1)) (
  St H p 66 [(.int .i64 (Int.add z3 (Int.ofNat 1)))] fun H4 =>
  Call1 Tryz.prog con 112 [(ptr p 0), (.int .i64 t)] H4 fun v5 H6 =>
  AsBool v5 fun b7 =>
  Cd b7 (
    K (.bool false) H6) (
    Ld H6 p 1 fun v8 =>
    AsSlc v8 fun p9 o10 l11 c12 =>
    AsCnt (.int .i64 t) fun n13 =>
    Must (ltN n13 l11) (
    Ld H6 p9 (Nat.add (Nat.add o10 (Nat.mul n13 3)) 2) fun v14 =>
    AsBool v14 fun b15 =>
    Cd (notB b15) (
      St H6 p9 (Nat.add (Nat.add o10 (Nat.mul n13 3)) 2) [(.bool true)] fun H16 =>
      Ld H16 p 67 fun v17 =>
      Ld H16 p9 (Nat.add (Nat.add o10 (Nat.mul n13 3)) 1) fun v18 =>
      Sc v1 (Sc v18 (Nw H16 (mkRow 233 0 [v1, (.int .i64 t), v18, (.bool false)]) fun p19 H20 =>
      App Tryz.prog 173 173 H20 v17 (.slice (some ⟨p19, 0, none⟩) 1 1) fun v21 H22 =>
      Sc v21 (St H22 p 67 [v21] fun H23 =>
      Ld H16 p 67 fun v24 =>
      Same v17 v24 (
      Ld H20 p 67 fun v25 =>
      Same v17 v25 (
      Ld H23 p 0 fun v26 =>
      Call1 Tryz.prog con 113 [v26] H23 fun v27 H28 =>
      Ld H28 p9 (Nat.add (Nat.add o10 (Nat.mul n13 3)) 0) fun v29 =>
      Ld H28 p9 (Nat.add (Nat.add o10 (Nat.mul n13 3)) 1) fun v30 =>
      AsSlc v29 fun p31 o32 l33 c34 =>
      AsCnt v30 fun n35 =>
      Must (ltN n35 l33) (
      Ld H28 p31 (Nat.add o32 (Nat.mul n35 1)) fun v36 =>
      IsNil .ifc v36 fun b37 =>
      Cd b37 (
        Ld H28 p 67 fun v38 =>
        Ld H28 p9 (Nat.add (Nat.add o10 (Nat.mul n13 3)) 1) fun v39 =>
        Sc v1 (Sc v39 (Nw H28 (mkRow 233 0 [v1, (.int .i64 t), v39, (.bool true)]) fun p40 H41 =>
        App Tryz.prog 173 173 H41 v38 (.slice (some ⟨p40, 0, none⟩) 1 1) fun v42 H43 =>
        Sc v42 (St H43 p 67 [v42] fun H44 =>
        Ld H28 p 67 fun v45 =>
        Same v38 v45 (
        Ld H41 p 67 fun v46 =>
        Same v38 v46 (
        St H44 p9 (Nat.add (Nat.add o10 (Nat.mul n13 3)) 2) [(.bool false)] fun H47 =>
        Ld H47 p9 (Nat.add (Nat.add o10 (Nat.mul n13 3)) 1) fun v48 =>
        AsInt .i64 v48 fun z49 =>
        InR (Int.add z49 (Int.ofNat 1)) (
        St H47 p9 (Nat.add (Nat.add o10 (Nat.mul n13 3)) 1) [(.int .i64 (Int.add z49 (Int.ofNat 1)))] fun H50 =>
        Ld H50 p 0 fun v51 =>
        Call1 Tryz.prog con 113 [v51] H50 fun v52 H53 =>
        Call1 Tryz.prog con 114 [(ptr p 0), v1, v27, v52] H53 fun v54 H55 =>
        K (.bool true) H55))))))) (
        AsCnt (.int .i64 t) fun n56 =>
        Must (ltN n56 64) (
        Ld H28 p (Nat.add 2 (Nat.mul n56 1)) fun v57 =>
        MethOk Tryz.prog "Step" [v36] (
        Mth Tryz.prog con v36 "Step" [v57] H28 fun v58 H59 =>
        AsBool v58 fun b60 =>
        Cd b60 (
          Ld H59 p 67 fun v61 =>
          Ld H59 p9 (Nat.add (Nat.add o10 (Nat.mul n13 3)) 1) fun v62 =>
          Sc v1 (Sc v62 (Nw H59 (mkRow 233 0 [v1, (.int .i64 t), v62, (.bool true)]) fun p63 H64 =>
          App Tryz.prog 173 173 H64 v61 (.slice (some ⟨p63, 0, none⟩) 1 1) fun v65 H66 =>
          Sc v65 (St H66 p 67 [v65] fun H67 =>
          Ld H59 p 67 fun v68 =>
          Same v61 v68 (
          Ld H64 p 67 fun v69 =>
          Same v61 v69 (
          St H67 p9 (Nat.add (Nat.add o10 (Nat.mul n13 3)) 2) [(.bool false)] fun H70 =>
          Ld H70 p9 (Nat.add (Nat.add o10 (Nat.mul n13 3)) 1) fun v71 =>
          AsInt .i64 v71 fun z72 =>
          InR (Int.add z72 (Int.ofNat 1)) (
          St H70 p9 (Nat.add (Nat.add o10 (Nat.mul n13 3)) 1) [(.int .i64 (Int.add z72 (Int.ofNat 1)))] fun H73 =>
          Ld H73 p 0 fun v74 =>
          Call1 Tryz.prog con 113 [v74] H73 fun v75 H76 =>
          Call1 Tryz.prog con 114 [(ptr p 0), v1, v27, v75] H76 fun v77 H78 =>
          K (.bool true) H78))))))) (
          Ld H59 p 0 fun v79 =>
          Call1 Tryz.prog con 113 [v79] H59 fun v80 H81 =>
          Call1 Tryz.prog con 114 [(ptr p 0), v1, v27, v80] H81 fun v82 H83 =>
          K (.bool true) H83))))))))))) (
      Ld H6 p 0 fun v84 =>
      Call1 Tryz.prog con 113 [v84] H6 fun v85 H86 =>
      Ld H86 p9 (Nat.add (Nat.add o10 (Nat.mul n13 3)) 0) fun v87 =>
      Ld H86 p9 (Nat.add (Nat.add o10 (Nat.mul n13 3)) 1) fun v88 =>
      AsSlc v87 fun p89 o90 l91 c92 =>
      AsCnt v88 fun n93 =>
      Must (ltN n93 l91) (
      Ld H86 p89 (Nat.add o90 (Nat.mul n93 1)) fun v94 =>
      IsNil .ifc v94 fun b95 =>
      Cd b95 (
        Ld H86 p 67 fun v96 =>
        Ld H86 p9 (Nat.add (Nat.add o10 (Nat.mul n13 3)) 1) fun v97 =>
        Sc v1 (Sc v97 (Nw H86 (mkRow 233 0 [v1, (.int .i64 t), v97, (.bool true)]) fun p98 H99 =>
        App Tryz.prog 173 173 H99 v96 (.slice (some ⟨p98, 0, none⟩) 1 1) fun v100 H101 =>
        Sc v100 (St H101 p 67 [v100] fun H102 =>
        Ld H86 p 67 fun v103 =>
        Same v96 v103 (
        Ld H99 p 67 fun v104 =>
        Same v96 v104 (
        St H102 p9 (Nat.add (Nat.add o10 (Nat.mul n13 3)) 2) [(.bool false)] fun H105 =>
        Ld H105 p9 (Nat.add (Nat.add o10 (Nat.mul n13 3)) 1) fun v106 =>
        AsInt .i64 v106 fun z107 =>
        InR (Int.add z107 (Int.ofNat 1)) (
        St H105 p9 (Nat.add (Nat.add o10 (Nat.mul n13 3)) 1) [(.int .i64 (Int.add z107 (Int.ofNat 1)))] fun H108 =>
        Ld H108 p 0 fun v109 =>
        Call1 Tryz.prog con 113 [v109] H108 fun v110 H111 =>
        Call1 Tryz.prog con 114 [(ptr p 0), v1, v85, v110] H111 fun v112 H113 =>
        K (.bool true) H113))))))) (
        AsCnt (.int .i64 t) fun n114 =>
        Must (ltN n114 64) (
        Ld H86 p (Nat.add 2 (Nat.mul n114 1)) fun v115 =>
        MethOk Tryz.prog "Step" [v94] (
        Mth Tryz.prog con v94 "Step" [v115] H86 fun v116 H117 =>
        AsBool v116 fun b118 =>
        Cd b118 (
          Ld H117 p 67 fun v119 =>
          Ld H117 p9 (Nat.add (Nat.add o10 (Nat.mul n13 3)) 1) fun v120 =>
          Sc v1 (Sc v120 (Nw H117 (mkRow 233 0 [v1, (.int .i64 t), v120, (.bool true)]) fun p121 H122 =>
          App Tryz.prog 173 173 H122 v119 (.slice (some ⟨p121, 0, none⟩) 1 1) fun v123 H124 =>
          Sc v123 (St H124 p 67 [v123] fun H125 =>
          Ld H117 p 67 fun v126 =>
          Same v119 v126 (
          Ld H122 p 67 fun v127 =>
          Same v119 v127 (
          St H125 p9 (Nat.add (Nat.add o10 (Nat.mul n13 3)) 2) [(.bool false)] fun H128 =>
          Ld H128 p9 (Nat.add (Nat.add o10 (Nat.mul n13 3)) 1) fun v129 =>
          AsInt .i64 v129 fun z130 =>
          InR (Int.add z130 (Int.ofNat 1)) (
          St H128 p9 (Nat.add (Nat.add o10 (Nat.mul n13 3)) 1) [(.int .i64 (Int.add z130 (Int.ofNat 1)))] fun H131 =>
          Ld H131 p 0 fun v132 =>
          Call1 Tryz.prog con 113 [v132] H131 fun v133 H134 =>
          Call1 Tryz.prog con 114 [(ptr p 0), v1, v85, v133] H134 fun v135 H136 =>
          K (.bool true) H136))))))) (
          Ld H117 p 0 fun v137 =>
          Call1 Tryz.prog con 113 [v137] H117 fun v138 H139 =>
          Call1 Tryz.prog con 114 [(ptr p 0), v1, v85, v138] H139 fun v140 H141 =>
          K (.bool true) H141)))))))))) := by kernel_rfl

theorem stepIdle_W (con : CallT) (p : Nat) (t : Int) (H : CH) (K : KP) : funW Tryz.prog con 112 [ptr p 0, i64 t] H K =
  (Cd (ltZ t (Int.ofNat 0)) (
    K (.bool true) H) (
    Ld H p 1 fun v1 =>
    AsLen v1 fun l2 =>
    Cd (leZ (Int.ofNat l2) t) (
      K (.bool true) H) (
      Ld H p 1 fun v3 =>
      AsSlc v3 fun p4 o5 l6 c7 =>
      AsCnt (.int .i64 t) fun n8 =>
      Must (ltN n8 l6) (
      Ld H p4 (Nat.add (Nat.add o5 (Nat.mul n8 3)) 1) fun v9 =>
      Ld H p 1 fun v10 =>
      AsSlc v10 fun p11 o12 l13 c14 =>
      AsCnt (.int .i64 t) fun n15 =>
      Must (ltN n15 l13) (
      Ld H p11 (Nat.add (Nat.add o12 (Nat.mul n15 3)) 0) fun v16 =>
      AsLen v16 fun l17 =>
      AsInt .i64 v9 fun z18 =>
      K (.bool (leZ (Int.ofNat l17) z18)) H))))) := by kernel_rfl

theorem stepNote_W (con : CallT) (p : Nat) (t y z : Int) (H : CH) (K : KP) : funW Tryz.prog con 114 [ptr p 0, i64 t, i64 y, i64 z] H K =
  (LoopC Tryz.prog con (lpAt Tryz.prog 114 0) (upd (upd (upd (upd (fun _ => undV) 3 (.int .i64 z)) 2 (.int .i64 y)) 1 (.int .i64 t)) 0 (ptr p 0)) H (fun e => ceP e
  (fun a1 H2 =>
    LoopC Tryz.prog con (lpAt Tryz.prog 114 1) a1 H2 (fun e => ceP e
    (fun a4 H5 =>
      K (.tuple ⟨[]⟩) H5)
    (fun i6 => fun a4 H5 =>
      Cd (eqN i6 2) (
        K (.tuple ⟨[]⟩) H5) (
        False))
    (fun a4 H5 =>
      K (.tuple ⟨[]⟩) H5)))
  (fun i3 => fun a1 H2 =>
    Cd (eqN i3 0) (
      LoopC Tryz.prog con (lpAt Tryz.prog 114 1) a1 H2 (fun e => ceP e
      (fun a7 H8 =>
        K (.tuple ⟨[]⟩) H8)
      (fun i9 => fun a7 H8 =>
        Cd (eqN i9 2) (
          K (.tuple ⟨[]⟩) H8) (
          False))
      (fun a7 H8 =>
        K (.tuple ⟨[]⟩) H8))) (
      False))
  (fun a1 H2 =>
    K (.tuple ⟨[]⟩) H2))) := by kernel_rfl

theorem containsP_W (con : CallT) (xa xf : Value) (H : CH) (K : KP) : funW Tryz.prog con 56 [xa, xf] H K =
  (Call1 Tryz.prog con 111 [xa, xf] H fun v1 H2 =>
  AsInt .i64 v1 fun z3 =>
  K (.bool (leZ (Int.ofNat 0) z3)) H2) := by kernel_rfl

theorem indexP_W (con : CallT) (xa xf : Value) (H : CH) (K : KP) : funW Tryz.prog con 111 [xa, xf] H K =
  (AsLen xa fun l1 =>
  LoopC Tryz.prog con (lpAt Tryz.prog 111 0) (upd (upd (upd (upd (upd (upd (fun _ => undV) 1 xf) 0 xa) 4 (.int .i64 (Int.ofNat 0))) 6 xa) 7 (.int .i64 (Int.ofNat l1))) 8 (.int .i64 (Int.ofNat 0))) H (fun e => ceP e
  (fun a2 H3 =>
    K (.int .i64 (Int.negSucc 0)) H3)
  (fun i4 => fun a2 H3 =>
    Cd (eqN i4 0) (
      K (.int .i64 (Int.negSucc 0)) H3) (
      False))
  (fun a2 H3 =>
    K (a2 4) H3))) := by kernel_rfl

theorem cloneP_W (con : CallT) (v : Value) (H : CH) (K : KP) : funW Tryz.prog con 58 [v] H K =
  (IsNil .slc v fun b1 =>
  Cd b1 (
    K (.slice none 0 0) H) (
    Nw H (mkRow 42 0 []) fun p2 H3 =>
    App Tryz.prog 39 39 H3 (.slice (some ⟨p2, 0, none⟩) 0 0) v fun v4 H5 =>
    K v4 H5)) := by kernel_rfl

theorem stepNewL_W (con : CallT) (a : TF) (H : CH) (K : KX) : codeW (lpAt Tryz.prog 14 0) Tryz.prog con a H K =
  (AsInt .i64 (a 23) fun z1 =>
  AsInt .i64 (a 22) fun z2 =>
  Cd (ltZ z1 z2) (
    AsSlc (a 21) fun p3 o4 l5 c6 =>
    AsCnt (a 23) fun n7 =>
    Must (ltN n7 l5) (
    Ld H p3 (Nat.add o4 (Nat.mul n7 1)) fun v8 =>
    NotNil Tryz.prog (a 6) (
    AsPtr (a 6) fun p9 o10 =>
    Ld H p9 (Nat.add o10 1) fun v11 =>
    Call1 Tryz.prog con 58 [v8] H fun v12 H13 =>
    Sc v12 (Nw H13 (mkRow 178 0 [v12, (.int .i64 (Int.ofNat 0)), (.bool false)]) fun p14 H15 =>
    App Tryz.prog 171 171 H15 v11 (.slice (some ⟨p14, 0, none⟩) 1 1) fun v16 H17 =>
    NotNil Tryz.prog (a 6) (
    AsPtr (a 6) fun p18 o19 =>
    Sc v16 (St H17 p18 (Nat.add o19 1) [v16] fun H20 =>
    Ld H p9 (Nat.add o10 1) fun v21 =>
    Same v11 v21 (
    Ld H13 p9 (Nat.add o10 1) fun v22 =>
    Same v11 v22 (
    Ld H15 p9 (Nat.add o10 1) fun v23 =>
    Same v11 v23 (
    Call1 Tryz.prog con 10 [(a 0), (a 23)] H20 fun v24 H25 =>
    NotNil Tryz.prog (a 6) (
    AsPtr (a 6) fun p26 o27 =>
    AsCnt (a 23) fun n28 =>
    Must (ltN n28 64) (
    Sc v24 (St H25 p26 (Nat.add (Nat.add o27 2) (Nat.mul n28 1)) [v24] fun H29 =>
    AsInt .i64 (a 23) fun z30 =>
    InR (Int.add z30 (Int.ofNat 1)) (
    K .normal (upd (upd (upd (upd (upd (upd (upd (upd (upd (upd (upd (upd (upd (upd (upd (upd (upd (upd (upd (upd (upd (upd (upd (upd (upd (upd (upd (upd a 24 (.bool (ltZ z1 z2))) 25 (a 23)) 26 (ptr p3 (Nat.add o4 (Nat.mul n7 1)))) 27 v8) 7 (a 23)) 8 v8) 28 (a 6)) 29 (a 6)) 30 (a 6)) 31 (ptr p9 (Nat.add o10 1))) 32 v11) 33 v8) 34 v12) 35 (.agg ⟨[v12, (.int .i64 (Int.ofNat 0)), (.bool false)]⟩)) 36 (.slice (some ⟨p14, 0, none⟩) 1 1)) 37 v16) 38 (a 6)) 39 (ptr p18 (Nat.add o19 1))) 40 (a 6)) 41 (a 23)) 42 (a 0)) 43 (a 23)) 44 v24) 45 (a 6)) 46 (ptr p26 (Nat.add o27 2))) 47 (ptr p26 (Nat.add (Nat.add o27 2) (Nat.mul n28 1)))) 48 (.int .i64 (Int.add z30 (Int.ofNat 1)))) 23 (.int .i64 (Int.add z30 (Int.ofNat 1)))) H29))))))))))))) (
    K (.exit 0) (upd a 24 (.bool (ltZ z1 z2))) H)) := by kernel_rfl

theorem stepRunL_W (con : CallT) (a : TF) (H : CH) (K : KX) : codeW (lpAt Tryz.prog 16 0) Tryz.prog con a H K =
  (AsInt .i64 (a 8) fun z1 =>
  AsInt .i64 (a 7) fun z2 =>
  Cd (ltZ z1 z2) (
    AsSlc (a 6) fun p3 o4 l5 c6 =>
    AsCnt (a 8) fun n7 =>
    Must (ltN n7 l5) (
    Ld H p3 (Nat.add o4 (Nat.mul n7 1)) fun v8 =>
    Call1 Tryz.prog con 59 [(a 0), v8] H fun v9 H10 =>
    AsInt .i64 (a 8) fun z11 =>
    InR (Int.add z11 (Int.ofNat 1)) (
    K .normal (upd (upd (upd (upd (upd (upd (upd (upd (upd a 9 (.bool (ltZ z1 z2))) 10 (ptr p3 (Nat.add o4 (Nat.mul n7 1)))) 11 v8) 5 v8) 12 (a 0)) 13 v8) 14 v9) 15 (.int .i64 (Int.add z11 (Int.ofNat 1)))) 8 (.int .i64 (Int.add z11 (Int.ofNat 1)))) H10))) (
    K (.exit 0) (upd a 9 (.bool (ltZ z1 z2))) H)) := by kernel_rfl

theorem stepNoteA_W (con : CallT) (a : TF) (H : CH) (K : KX) : codeW (lpAt Tryz.prog 114 0) Tryz.prog con a H K =
  (NotNil Tryz.prog (a 0) (
  AsPtr (a 0) fun p1 o2 =>
  Ld H p1 (Nat.add o2 68) fun v3 =>
  AsLen v3 fun l4 =>
  AsInt .i64 (a 2) fun z5 =>
  Cd (ltZ (Int.ofNat l4) z5) (
    NotNil Tryz.prog (a 0) (
    AsPtr (a 0) fun p6 o7 =>
    Ld H p6 (Nat.add o7 68) fun v8 =>
    Nw H (mkRow 3 0 [(.int .i64 (Int.negSucc 0))]) fun p9 H10 =>
    App Tryz.prog 23 23 H10 v8 (.slice (some ⟨p9, 0, none⟩) 1 1) fun v11 H12 =>
    NotNil Tryz.prog (a 0) (
    AsPtr (a 0) fun p13 o14 =>
    Sc v11 (St H12 p13 (Nat.add o14 68) [v11] fun H15 =>
    K .normal (upd (upd (upd (upd (upd (upd (upd (upd (upd (upd (upd (upd (upd (upd (upd (upd a 8 (a 0)) 9 (a 0)) 10 (ptr p1 (Nat.add o2 68))) 11 v3) 12 (.int .i64 (Int.ofNat l4))) 13 (a 2)) 14 (.bool (ltZ (Int.ofNat l4) z5))) 15 (a 0)) 16 (a 0)) 17 (a 0)) 18 (ptr p6 (Nat.add o7 68))) 19 v8) 20 (.slice (some ⟨p9, 0, none⟩) 1 1)) 21 v11) 22 (a 0)) 23 (ptr p13 (Nat.add o14 68))) H15)))) (
    K (.exit 0) (upd (upd (upd (upd (upd (upd (upd a 8 (a 0)) 9 (a 0)) 10 (ptr p1 (Nat.add o2 68))) 11 v3) 12 (.int .i64 (Int.ofNat l4))) 13 (a 2)) 14 (.bool (ltZ (Int.ofNat l4) z5))) H))) := by kernel_rfl

theorem stepNoteB_W (con : CallT) (a : TF) (H : CH) (K : KX) : codeW (lpAt Tryz.prog 114 1) Tryz.prog con a H K =
  (NotNil Tryz.prog (a 0) (
  AsPtr (a 0) fun p1 o2 =>
  Ld H p1 (Nat.add o2 68) fun v3 =>
  AsLen v3 fun l4 =>
  AsInt .i64 (a 3) fun z5 =>
  Cd (ltZ (Int.ofNat l4) z5) (
    NotNil Tryz.prog (a 0) (
    AsPtr (a 0) fun p6 o7 =>
    Ld H p6 (Nat.add o7 68) fun v8 =>
    Sc (a 1) (Nw H (mkRow 3 0 [(a 1)]) fun p9 H10 =>
    App Tryz.prog 23 23 H10 v8 (.slice (some ⟨p9, 0, none⟩) 1 1) fun v11 H12 =>
    NotNil Tryz.prog (a 0) (
    AsPtr (a 0) fun p13 o14 =>
    Sc v11 (St H12 p13 (Nat.add o14 68) [v11] fun H15 =>
    K .normal (upd (upd (upd (upd (upd (upd (upd (upd (upd (upd (upd (upd (upd (upd (upd (upd (upd a 24 (a 0)) 25 (a 0)) 26 (ptr p1 (Nat.add o2 68))) 27 v3) 28 (.int .i64 (Int.ofNat l4))) 29 (a 3)) 30 (.bool (ltZ (Int.ofNat l4) z5))) 31 (a 0)) 32 (a 0)) 33 (a 0)) 34 (ptr p6 (Nat.add o7 68))) 35 v8) 36 (a 1)) 37 (.slice (some ⟨p9, 0, none⟩) 1 1)) 38 v11) 39 (a 0)) 40 (ptr p13 (Nat.add o14 68))) H15))))) (
    K (.exit 2) (upd (upd (upd (upd (upd (upd (upd a 24 (a 0)) 25 (a 0)) 26 (ptr p1 (Nat.add o2 68))) 27 v3) 28 (.int .i64 (Int.ofNat l4))) 29 (a 3)) 30 (.bool (ltZ (Int.ofNat l4) z5))) H))) := by kernel_rfl

theorem indexPL_W (con : CallT) (a : TF) (H : CH) (K : KX) : codeW (lpAt Tryz.prog 111 0) Tryz.prog con a H K =
  (AsInt .i64 (a 8) fun z1 =>
  AsInt .i64 (a 7) fun z2 =>
  Cd (ltZ z1 z2) (
    AsSlc (a 0) fun p3 o4 l5 c6 =>
    AsCnt (a 8) fun n7 =>
    Must (ltN n7 l5) (
    Ld H p3 (Nat.add o4 (Nat.mul n7 1)) fun v8 =>
    AsFn (a 1) fun g9 l10 l11 =>
    Must (isFunT Tryz.prog g9) (
    Call1 Tryz.prog con g9 (appF l10 (v8 :: l11)) H fun v12 H13 =>
    AsBool v12 fun b14 =>
    Cd b14 (
      K .ret (upd (upd (upd (upd (upd (upd (upd (upd (upd (upd (upd a 9 (.bool (ltZ z1 z2))) 10 (a 8)) 5 (a 8)) 11 (a 1)) 12 (a 0)) 13 (a 8)) 14 (ptr p3 (Nat.add o4 (Nat.mul n7 1)))) 15 v8) 16 v12) 17 (a 8)) 4 (a 8)) H13) (
      AsInt .i64 (a 8) fun z15 =>
      InR (Int.add z15 (Int.ofNat 1)) (
      K .normal (upd (upd (upd (upd (upd (upd (upd (upd (upd (upd (upd a 9 (.bool (ltZ z1 z2))) 10 (a 8)) 5 (a 8)) 11 (a 1)) 12 (a 0)) 13 (a 8)) 14 (ptr p3 (Nat.add o4 (Nat.mul n7 1)))) 15 v8) 16 v12) 18 (.int .i64 (Int.add z15 (Int.ofNat 1)))) 8 (.int .i64 (Int.add z15 (Int.ofNat 1)))) H13))))) (
    K (.exit 0) (upd a 9 (.bool (ltZ z1 z2))) H)) := by kernel_rfl

end Go.Proofs.YtipbbnoepphdkaaGreat

/- What some functions' texts ask for, step by step, each checked by the kernel. No conditions. -/
set_option linter.unusedVariables false
namespace Go.Proofs.YtipbbnoepphdkaaGreat
open Go Go.CM

theorem law15Begin_W (con : CallT) (xk : Int) (xa xb xc xd : Nat) (xv : Value) (H : CH) (K : KP) : funW Tryz.prog con 13 [.agg ⟨[i64 xk, u64 xa, u64 xb, u64 xc, u64 xd, xv]⟩] H K =
  (Nw H (mkRow 47 0 [(.int .i64 xk), (.int .u64 (Int.ofNat xa)), (.int .u64 (Int.ofNat xb)), (.int .u64 (Int.ofNat xc)), (.int .u64 (Int.ofNat xd)), xv]) fun p1 H2 =>
  Ld H2 p1 1 fun v3 =>
  AsNat .u64 v3 fun n4 =>
  Ld H2 p1 0 fun v5 =>
  AsInt .i64 v5 fun z6 =>
  Cd (eqZ z6 (Int.ofNat 0)) (
    Ld H2 p1 2 fun v7 =>
    Ld H2 p1 3 fun v8 =>
    Call1 Tryz.prog con 53 [(.int .u64 (Int.ofNat 1)), (.int .u64 (Int.ofNat (Nat.mod (Nat.add 2 (Nat.mod n4 2)) 18446744073709551616))), v7, v8] H2 fun v9 H10 =>
    K (.iface 163 v9) H10) (
    AsInt .i64 v5 fun z11 =>
    Cd (eqZ z11 (Int.ofNat 1)) (
      Call1 Tryz.prog con 54 [(.int .u64 (Int.ofNat 1)), (.int .u64 (Int.ofNat 1073741824))] H2 fun v12 H13 =>
      K (.iface 165 v12) H13) (
      AsInt .i64 v5 fun z14 =>
      Cd (eqZ z14 (Int.ofNat 2)) (
        Ld H2 p1 4 fun v15 =>
        Ld H2 p1 5 fun v16 =>
        Call1 Tryz.prog con 45 [(.int .u64 (Int.ofNat 1)), (.int .u64 (Int.ofNat (Nat.mod (Nat.add 2 (Nat.mod n4 2)) 18446744073709551616))), (.agg ⟨[v15, v16]⟩)] H2 fun v17 H18 =>
        K (.iface 151 v17) H18) (
        Ld H2 p1 2 fun v19 =>
        Call1 Tryz.prog con 55 [(.int .u64 (Int.ofNat 1)), (.int .u64 (Int.ofNat (Nat.mod (Nat.add 2 (Nat.mod n4 2)) 18446744073709551616))), v19] H2 fun v20 H21 =>
        K (.iface 167 v20) H21)))) := by kernel_rfl

theorem law15Long_W (con : CallT) (v : Value) (H : CH) (K : KP) : funW Tryz.prog con 15 [v] H K =
  (LoopC Tryz.prog con (lpAt Tryz.prog 15 0) (upd (upd (upd (fun _ => undV) 0 v) 2 (.bool false)) 3 (.int .i64 (Int.ofNat 0))) H (fun e => ceP e
  (fun a1 H2 =>
    K (.bool false) H2)
  (fun i3 => fun a1 H2 =>
    Cd (eqN i3 0) (
      K (.bool false) H2) (
      False))
  (fun a1 H2 =>
    K (a1 2) H2))) := by kernel_rfl

theorem law15LongL_W (con : CallT) (a : TF) (H : CH) (K : KX) : codeW (lpAt Tryz.prog 15 0) Tryz.prog con a H K =
  (AsLen (a 0) fun l1 =>
  AsInt .i64 (a 3) fun z2 =>
  Cd (ltZ z2 (Int.ofNat l1)) (
    AsSlc (a 0) fun p3 o4 l5 c6 =>
    AsCnt (a 3) fun n7 =>
    Must (ltN n7 l5) (
    Ld H p3 (Nat.add o4 (Nat.mul n7 1)) fun v8 =>
    AsLen v8 fun l9 =>
    Cd (ltZ (Int.ofNat 4096) (Int.ofNat l9)) (
      K .ret (upd (upd (upd (upd (upd (upd (upd (upd (upd (upd (upd a 4 (a 3)) 5 (a 0)) 6 (.int .i64 (Int.ofNat l1))) 7 (.bool (ltZ z2 (Int.ofNat l1)))) 10 (a 0)) 11 (a 3)) 12 (ptr p3 (Nat.add o4 (Nat.mul n7 1)))) 13 v8) 14 (.int .i64 (Int.ofNat l9))) 15 (.bool (ltZ (Int.ofNat 4096) (Int.ofNat l9)))) 2 (.bool true)) H) (
      AsInt .i64 (a 3) fun z10 =>
      InR (Int.add z10 (Int.ofNat 1)) (
      K .normal (upd (upd (upd (upd (upd (upd (upd (upd (upd (upd (upd (upd (upd a 4 (a 3)) 5 (a 0)) 6 (.int .i64 (Int.ofNat l1))) 7 (.bool (ltZ z2 (Int.ofNat l1)))) 10 (a 0)) 11 (a 3)) 12 (ptr p3 (Nat.add o4 (Nat.mul n7 1)))) 13 v8) 14 (.int .i64 (Int.ofNat l9))) 15 (.bool (ltZ (Int.ofNat 4096) (Int.ofNat l9)))) 8 (a 3)) 9 (.int .i64 (Int.add z10 (Int.ofNat 1)))) 3 (.int .i64 (Int.add z10 (Int.ofNat 1)))) H)))) (
    K (.exit 0) (upd (upd (upd (upd a 4 (a 3)) 5 (a 0)) 6 (.int .i64 (Int.ofNat l1))) 7 (.bool (ltZ z2 (Int.ofNat l1)))) H)) := by kernel_rfl

end Go.Proofs.YtipbbnoepphdkaaGreat

/- What some functions' texts ask for, step by step, each checked by the kernel. No conditions. -/
set_option linter.unusedVariables false
namespace Go.Proofs.YtipbbnoepphdkaaGreat
open Go Go.CM

theorem law15Play_W (con : CallT) (p : Nat) (xv xw : Value) (H : CH) (K : KP) : funW Tryz.prog con 17 [ptr p 0, xv, xw] H K =
  (AsLen xv fun l1 =>
  MkS Tryz.prog H 23 (.int .i64 (Int.ofNat l1)) (.int .i64 (Int.ofNat l1)) fun v2 H3 =>
  AsLen xv fun l4 =>
  MkS Tryz.prog H3 180 (.int .i64 (Int.ofNat l4)) (.int .i64 (Int.ofNat l4)) fun v5 H6 =>
  AsLen xv fun l7 =>
  MkS Tryz.prog H6 181 (.int .i64 (Int.ofNat l7)) (.int .i64 (Int.ofNat l7)) fun v8 H9 =>
  LoopC Tryz.prog con (lpAt Tryz.prog 17 0) (upd (upd (upd (upd (upd (upd (upd (upd (upd (upd (upd (upd (upd (upd (upd (upd (fun _ => undV) 2 xw) 1 xv) 0 (ptr p 0)) 14 xv) 15 (.int .i64 (Int.ofNat l1))) 16 v2) 6 v2) 17 xv) 18 (.int .i64 (Int.ofNat l4))) 19 v5) 7 v5) 20 xv) 21 (.int .i64 (Int.ofNat l7))) 22 v8) 8 v8) 9 (.int .i64 (Int.ofNat 0))) H9 (fun e => ceP e
  (fun a10 H11 =>
    K (.tuple ⟨[]⟩) H11)
  (fun i12 => fun a10 H11 =>
    Cd (eqN i12 0) (
      K (.tuple ⟨[]⟩) H11) (
      False))
  (fun a10 H11 =>
    K (.tuple ⟨[]⟩) H11))) := by kernel_rfl

theorem law15PlayL_W (con : CallT) (a : TF) (H : CH) (K : KX) : codeW (lpAt Tryz.prog 17 0) Tryz.prog con a H K =
  (AsLen (a 2) fun l1 =>
  AsInt .i64 (a 9) fun z2 =>
  Cd (ltZ z2 (Int.ofNat l1)) (
    AsSlc (a 2) fun p3 o4 l5 c6 =>
    AsCnt (a 9) fun n7 =>
    Must (ltN n7 l5) (
    Ld H p3 (Nat.add o4 (Nat.mul n7 1)) fun v8 =>
    AsInt .i64 v8 fun z9 =>
    Cd (ltZ z9 (Int.ofNat 0)) (
      AsInt .i64 (a 9) fun z10 =>
      InR (Int.add z10 (Int.ofNat 1)) (
      K .normal (upd (upd (upd (upd (upd (upd (upd (upd (upd (upd (upd (upd (upd (upd (upd (upd (upd (upd (upd (upd (upd (upd (upd (upd (upd (upd (upd (upd (upd (upd (upd (upd (upd (upd (upd (upd (upd (upd (upd (upd (upd (upd (upd (upd (upd (upd a 23 (a 9)) 24 (a 2)) 25 (.int .i64 (Int.ofNat l1))) 26 (.bool (ltZ z2 (Int.ofNat l1)))) 29 (a 2)) 30 (a 9)) 31 (ptr p3 (Nat.add o4 (Nat.mul n7 1)))) 32 v8) 10 v8) 33 v8) 34 (.bool (ltZ z9 (Int.ofNat 0)))) 35 (.bool (ltZ z9 (Int.ofNat 0)))) 35 (.bool true)) 36 (.tuple ⟨[]⟩)) 35 (.bool true)) 37 (.tuple ⟨[]⟩)) 35 (.bool true)) 38 (.tuple ⟨[]⟩)) 35 (.bool true)) 39 (.tuple ⟨[]⟩)) 40 (.bool true)) 41 (.bool true)) 41 (.bool true)) 42 (.tuple ⟨[]⟩)) 41 (.bool true)) 43 (.tuple ⟨[]⟩)) 41 (.bool true)) 44 (.tuple ⟨[]⟩)) 41 (.bool true)) 45 (.tuple ⟨[]⟩)) 41 (.bool true)) 46 (.tuple ⟨[]⟩)) 41 (.bool true)) 47 (.tuple ⟨[]⟩)) 41 (.bool true)) 48 (.tuple ⟨[]⟩)) 41 (.bool true)) 49 (.tuple ⟨[]⟩)) 41 (.bool true)) 50 (.tuple ⟨[]⟩)) 41 (.bool true)) 51 (.tuple ⟨[]⟩)) 52 (.bool true)) 27 (a 9)) 28 (.int .i64 (Int.add z10 (Int.ofNat 1)))) 9 (.int .i64 (Int.add z10 (Int.ofNat 1)))) H)) (
      AsLen (a 1) fun l11 =>
      AsInt .i64 v8 fun z12 =>
      Cd (leZ (Int.ofNat l11) z12) (
        AsInt .i64 (a 9) fun z13 =>
        InR (Int.add z13 (Int.ofNat 1)) (
        K .normal (upd (upd (upd (upd (upd (upd (upd (upd (upd (upd (upd (upd (upd (upd (upd (upd (upd (upd (upd (upd (upd (upd (upd (upd (upd (upd (upd (upd (upd (upd (upd (upd (upd (upd (upd (upd (upd (upd (upd (upd (upd (upd (upd (upd (upd (upd a 23 (a 9)) 24 (a 2)) 25 (.int .i64 (Int.ofNat l1))) 26 (.bool (ltZ z2 (Int.ofNat l1)))) 29 (a 2)) 30 (a 9)) 31 (ptr p3 (Nat.add o4 (Nat.mul n7 1)))) 32 v8) 10 v8) 33 v8) 34 (.bool (ltZ z9 (Int.ofNat 0)))) 35 (.bool (ltZ z9 (Int.ofNat 0)))) 35 (.bool false)) 36 v8) 35 (.bool false)) 37 (a 1)) 35 (.bool false)) 38 (.int .i64 (Int.ofNat l11))) 35 (.bool false)) 39 (.bool (leZ (Int.ofNat l11) z12))) 40 (.bool (leZ (Int.ofNat l11) z12))) 41 (.bool (leZ (Int.ofNat l11) z12))) 41 (.bool true)) 42 (.tuple ⟨[]⟩)) 41 (.bool true)) 43 (.tuple ⟨[]⟩)) 41 (.bool true)) 44 (.tuple ⟨[]⟩)) 41 (.bool true)) 45 (.tuple ⟨[]⟩)) 41 (.bool true)) 46 (.tuple ⟨[]⟩)) 41 (.bool true)) 47 (.tuple ⟨[]⟩)) 41 (.bool true)) 48 (.tuple ⟨[]⟩)) 41 (.bool true)) 49 (.tuple ⟨[]⟩)) 41 (.bool true)) 50 (.tuple ⟨[]⟩)) 41 (.bool true)) 51 (.tuple ⟨[]⟩)) 52 (.bool true)) 27 (a 9)) 28 (.int .i64 (Int.add z13 (Int.ofNat 1)))) 9 (.int .i64 (Int.add z13 (Int.ofNat 1)))) H)) (
        AsSlc (a 6) fun p14 o15 l16 c17 =>
        AsCnt v8 fun n18 =>
        Must (ltN n18 l16) (
        Ld H p14 (Nat.add o15 (Nat.mul n18 1)) fun v19 =>
        AsSlc (a 1) fun p20 o21 l22 c23 =>
        AsCnt v8 fun n24 =>
        Must (ltN n24 l22) (
        Ld H p20 (Nat.add o21 (Nat.mul n24 1)) fun v25 =>
        AsLen v25 fun l26 =>
        AsInt .i64 v19 fun z27 =>
        Cd (leZ (Int.ofNat l26) z27) (
          AsInt .i64 (a 9) fun z28 =>
          InR (Int.add z28 (Int.ofNat 1)) (
          K .normal (upd (upd (upd (upd (upd (upd (upd (upd (upd (upd (upd (upd (upd (upd (upd (upd (upd (upd (upd (upd (upd (upd (upd (upd (upd (upd (upd (upd (upd (upd (upd (upd (upd (upd (upd (upd (upd (upd (upd (upd (upd (upd (upd (upd (upd (upd a 23 (a 9)) 24 (a 2)) 25 (.int .i64 (Int.ofNat l1))) 26 (.bool (ltZ z2 (Int.ofNat l1)))) 29 (a 2)) 30 (a 9)) 31 (ptr p3 (Nat.add o4 (Nat.mul n7 1)))) 32 v8) 10 v8) 33 v8) 34 (.bool (ltZ z9 (Int.ofNat 0)))) 35 (.bool (ltZ z9 (Int.ofNat 0)))) 35 (.bool false)) 36 v8) 35 (.bool false)) 37 (a 1)) 35 (.bool false)) 38 (.int .i64 (Int.ofNat l11))) 35 (.bool false)) 39 (.bool (leZ (Int.ofNat l11) z12))) 40 (.bool (leZ (Int.ofNat l11) z12))) 41 (.bool (leZ (Int.ofNat l11) z12))) 41 (.bool false)) 42 (a 6)) 41 (.bool false)) 43 v8) 41 (.bool false)) 44 (ptr p14 (Nat.add o15 (Nat.mul n18 1)))) 41 (.bool false)) 45 v19) 41 (.bool false)) 46 (a 1)) 41 (.bool false)) 47 v8) 41 (.bool false)) 48 (ptr p20 (Nat.add o21 (Nat.mul n24 1)))) 41 (.bool false)) 49 v25) 41 (.bool false)) 50 (.int .i64 (Int.ofNat l26))) 41 (.bool false)) 51 (.bool (leZ (Int.ofNat l26) z27))) 52 (.bool (leZ (Int.ofNat l26) z27))) 27 (a 9)) 28 (.int .i64 (Int.add z28 (Int.ofNat 1)))) 9 (.int .i64 (Int.add z28 (Int.ofNat 1)))) H)) (
          Nw H (mkRow 47 0 [(.int .i64 (Int.ofNat 0)), (.int .u64 (Int.ofNat 0)), (.int .u64 (Int.ofNat 0)), (.int .u64 (Int.ofNat 0)), (.int .u64 (Int.ofNat 0)), (.slice none 0 0)]) fun p29 H30 =>
          AsSlc (a 1) fun p31 o32 l33 c34 =>
          AsCnt v8 fun n35 =>
          Must (ltN n35 l33) (
          Ld H30 p31 (Nat.add o32 (Nat.mul n35 1)) fun v36 =>
          AsSlc (a 6) fun p37 o38 l39 c40 =>
          AsCnt v8 fun n41 =>
          Must (ltN n41 l39) (
          Ld H30 p37 (Nat.add o38 (Nat.mul n41 1)) fun v42 =>
          AsSlc v36 fun p43 o44 l45 c46 =>
          AsCnt v42 fun n47 =>
          Must (ltN n47 l45) (
          Ld H30 p43 (Nat.add (Nat.add o44 (Nat.mul n47 6)) 0) fun v48 =>
          Ld H30 p43 (Nat.add (Nat.add o44 (Nat.mul n47 6)) 1) fun v49 =>
          Ld H30 p43 (Nat.add (Nat.add o44 (Nat.mul n47 6)) 2) fun v50 =>
          Ld H30 p43 (Nat.add (Nat.add o44 (Nat.mul n47 6)) 3) fun v51 =>
          Ld H30 p43 (Nat.add (Nat.add o44 (Nat.mul n47 6)) 4) fun v52 =>
          Ld H30 p43 (Nat.add (Nat.add o44 (Nat.mul n47 6)) 5) fun v53 =>
          St H30 p29 0 [v48, v49, v50, v51, v52, v53] fun H54 =>
          AsSlc (a 7) fun p55 o56 l57 c58 =>
          AsCnt v8 fun n59 =>
          Must (ltN n59 l57) (
          Ld H54 p55 (Nat.add o56 (Nat.mul n59 1)) fun v60 =>
          IsNil .ptr v60 fun b61 =>
          Cd b61 (
            AsSlc (a 8) fun p62 o63 l64 c65 =>
            AsCnt v8 fun n66 =>
            Must (ltN n66 l64) (
            Ld H54 p62 (Nat.add o63 (Nat.mul n66 1)) fun v67 =>
            IsNil .ptr v67 fun b68 =>
            Cd b68 (
              Ld H54 p29 1 fun v69 =>
              AsNat .u64 v69 fun n70 =>
              Ld H54 p29 0 fun v71 =>
              AsInt .i64 v71 fun z72 =>
              Cd (eqZ z72 (Int.ofNat 0)) (
                Ld H54 p29 2 fun v73 =>
                Ld H54 p29 3 fun v74 =>
                Sc v73 (Sc v74 (Call1 Tryz.prog con 60 [(.agg ⟨[(.int .i64 (Int.ofNat 1)), (.int .u64 (Int.ofNat (Nat.mod (Nat.add 2 (Nat.mod n70 2)) 18446744073709551616))), v73, v74]⟩), (.int .u64 (Int.ofNat 1))] H54 fun v75 H76 =>
                AsSlc (a 8) fun p77 o78 l79 c80 =>
                AsCnt v8 fun n81 =>
                Must (ltN n81 l79) (
                Sc v75 (St H76 p77 (Nat.add o78 (Nat.mul n81 1)) [v75] fun H82 =>
                AsSlc (a 7) fun p83 o84 l85 c86 =>
                AsCnt v8 fun n87 =>
                Must (ltN n87 l85) (
                Ld H82 p83 (Nat.add o84 (Nat.mul n87 1)) fun v88 =>
                IsNil .ptr v88 fun b89 =>
                Cd (notB b89) (
                  AsSlc (a 7) fun p90 o91 l92 c93 =>
                  AsCnt v8 fun n94 =>
                  Must (ltN n94 l92) (
                  Ld H82 p90 (Nat.add o91 (Nat.mul n94 1)) fun v95 =>
                  Call1 Tryz.prog con 61 [v95, (a 0), v8] H82 fun v96 H97 =>
                  AsBool v96 fun b98 =>
                  Cd b98 (
                    AsSlc (a 7) fun p99 o100 l101 c102 =>
                    AsCnt v8 fun n103 =>
                    Must (ltN n103 l101) (
                    St H97 p99 (Nat.add o100 (Nat.mul n103 1)) [(.pointer none)] fun H104 =>
                    AsSlc (a 8) fun p105 o106 l107 c108 =>
                    AsCnt v8 fun n109 =>
                    Must (ltN n109 l107) (
                    St H104 p105 (Nat.add o106 (Nat.mul n109 1)) [(.pointer none)] fun H110 =>
                    AsSlc (a 6) fun p111 o112 l113 c114 =>
                    AsCnt v8 fun n115 =>
                    Must (ltN n115 l113) (
                    Ld H110 p111 (Nat.add o112 (Nat.mul n115 1)) fun v116 =>
                    AsInt .i64 v116 fun z117 =>
                    InR (Int.add z117 (Int.ofNat 1)) (
                    AsSlc (a 6) fun p118 o119 l120 c121 =>
                    AsCnt v8 fun n122 =>
                    Must (ltN n122 l120) (
                    St H110 p118 (Nat.add o119 (Nat.mul n122 1)) [(.int .i64 (Int.add z117 (Int.ofNat 1)))] fun H123 =>
                    AsInt .i64 (a 9) fun z124 =>
                    InR (Int.add z124 (Int.ofNat 1)) (
                    K .normal (upd (upd (upd (upd (upd (upd (upd (upd (upd (upd (upd (upd (upd (upd (upd (upd (upd (upd (upd (upd (upd (upd (upd (upd (upd (upd (upd (upd (upd (upd (upd (upd (upd (upd (upd (upd (upd (upd (upd (upd (upd (upd (upd (upd (upd (upd (upd (upd (upd (upd (upd (upd (upd (upd (upd (upd (upd (upd (upd (upd (upd (upd (upd (upd (upd (upd (upd (upd (upd (upd (upd (upd (upd (upd (upd (upd (upd (upd (upd (upd (upd (upd (upd (upd (upd (upd (upd (upd (upd (upd (upd (upd (upd (upd (upd (upd (upd (upd (upd (upd (upd (upd (upd (upd (upd (upd (upd (upd (upd (upd (upd (upd (upd (upd (upd (upd (upd (upd (upd (upd a 23 (a 9)) 24 (a 2)) 25 (.int .i64 (Int.ofNat l1))) 26 (.bool (ltZ z2 (Int.ofNat l1)))) 29 (a 2)) 30 (a 9)) 31 (ptr p3 (Nat.add o4 (Nat.mul n7 1)))) 32 v8) 10 v8) 33 v8) 34 (.bool (ltZ z9 (Int.ofNat 0)))) 35 (.bool (ltZ z9 (Int.ofNat 0)))) 35 (.bool false)) 36 v8) 35 (.bool false)) 37 (a 1)) 35 (.bool false)) 38 (.int .i64 (Int.ofNat l11))) 35 (.bool false)) 39 (.bool (leZ (Int.ofNat l11) z12))) 40 (.bool (leZ (Int.ofNat l11) z12))) 41 (.bool (leZ (Int.ofNat l11) z12))) 41 (.bool false)) 42 (a 6)) 41 (.bool false)) 43 v8) 41 (.bool false)) 44 (ptr p14 (Nat.add o15 (Nat.mul n18 1)))) 41 (.bool false)) 45 v19) 41 (.bool false)) 46 (a 1)) 41 (.bool false)) 47 v8) 41 (.bool false)) 48 (ptr p20 (Nat.add o21 (Nat.mul n24 1)))) 41 (.bool false)) 49 v25) 41 (.bool false)) 50 (.int .i64 (Int.ofNat l26))) 41 (.bool false)) 51 (.bool (leZ (Int.ofNat l26) z27))) 52 (.bool (leZ (Int.ofNat l26) z27))) 11 (ptr p29 0)) 53 (a 1)) 54 v8) 55 (ptr p31 (Nat.add o32 (Nat.mul n35 1)))) 56 v36) 57 (a 6)) 58 v8) 59 (ptr p37 (Nat.add o38 (Nat.mul n41 1)))) 60 v42) 61 (ptr p43 (Nat.add o44 (Nat.mul n47 6)))) 62 (.agg ⟨[v48, v49, v50, v51, v52, v53]⟩)) 63 (a 7)) 64 v8) 65 (ptr p55 (Nat.add o56 (Nat.mul n59 1)))) 66 v60) 67 (.bool b61)) 68 (.bool b61)) 68 (.bool true)) 69 (a 8)) 68 (.bool true)) 70 v8) 68 (.bool true)) 71 (ptr p62 (Nat.add o63 (Nat.mul n66 1)))) 68 (.bool true)) 72 v67) 68 (.bool true)) 73 (.bool b68)) 74 (.bool b68)) 75 (ptr p29 1)) 76 v69) 77 (.int .u64 (Int.ofNat (Nat.mod n70 2)))) 78 (.int .u64 (Int.ofNat (Nat.mod (Nat.add 2 (Nat.mod n70 2)) 18446744073709551616)))) 12 (.int .u64 (Int.ofNat (Nat.mod (Nat.add 2 (Nat.mod n70 2)) 18446744073709551616)))) 79 (ptr p29 0)) 80 v71) 90 (.bool (eqZ z72 (Int.ofNat 0)))) 89 (.bool (eqZ z72 (Int.ofNat 0)))) 91 (a 8)) 92 v8) 93 (.int .u64 (Int.ofNat (Nat.mod (Nat.add 2 (Nat.mod n70 2)) 18446744073709551616)))) 94 (ptr p29 2)) 95 v73) 96 (ptr p29 3)) 97 v74) 98 (.agg ⟨[(.int .i64 (Int.ofNat 1)), (.int .u64 (Int.ofNat (Nat.mod (Nat.add 2 (Nat.mod n70 2)) 18446744073709551616))), v73, v74]⟩)) 99 v75) 100 (ptr p77 (Nat.add o78 (Nat.mul n81 1)))) 13 (.bool false)) 118 (a 7)) 119 v8) 120 (ptr p83 (Nat.add o84 (Nat.mul n87 1)))) 121 v88) 122 (.bool (notB b89))) 123 (a 7)) 124 v8) 125 (ptr p90 (Nat.add o91 (Nat.mul n94 1)))) 126 v95) 127 (a 0)) 128 v8) 129 v96) 13 v96) 137 v96) 138 (a 7)) 139 v8) 140 (a 8)) 141 v8) 142 (ptr p99 (Nat.add o100 (Nat.mul n103 1)))) 143 (ptr p105 (Nat.add o106 (Nat.mul n109 1)))) 144 (a 6)) 145 v8) 146 (ptr p111 (Nat.add o112 (Nat.mul n115 1)))) 147 v116) 148 (.int .i64 (Int.add z117 (Int.ofNat 1)))) 149 (ptr p118 (Nat.add o119 (Nat.mul n122 1)))) 27 (a 9)) 28 (.int .i64 (Int.add z124 (Int.ofNat 1)))) 9 (.int .i64 (Int.add z124 (Int.ofNat 1)))) H123))))))) (
                    AsInt .i64 (a 9) fun z125 =>
                    InR (Int.add z125 (Int.ofNat 1)) (
                    K .normal (upd (upd (upd (upd (upd (upd (upd (upd (upd (upd (upd (upd (upd (upd (upd (upd (upd (upd (upd (upd (upd (upd (upd (upd (upd (upd (upd (upd (upd (upd (upd (upd (upd (upd (upd (upd (upd (upd (upd (upd (upd (upd (upd (upd (upd (upd (upd (upd (upd (upd (upd (upd (upd (upd (upd (upd (upd (upd (upd (upd (upd (upd (upd (upd (upd (upd (upd (upd (upd (upd (upd (upd (upd (upd (upd (upd (upd (upd (upd (upd (upd (upd (upd (upd (upd (upd (upd (upd (upd (upd (upd (upd (upd (upd (upd (upd (upd (upd (upd (upd (upd (upd (upd (upd (upd (upd (upd (upd a 23 (a 9)) 24 (a 2)) 25 (.int .i64 (Int.ofNat l1))) 26 (.bool (ltZ z2 (Int.ofNat l1)))) 29 (a 2)) 30 (a 9)) 31 (ptr p3 (Nat.add o4 (Nat.mul n7 1)))) 32 v8) 10 v8) 33 v8) 34 (.bool (ltZ z9 (Int.ofNat 0)))) 35 (.bool (ltZ z9 (Int.ofNat 0)))) 35 (.bool false)) 36 v8) 35 (.bool false)) 37 (a 1)) 35 (.bool false)) 38 (.int .i64 (Int.ofNat l11))) 35 (.bool false)) 39 (.bool (leZ (Int.ofNat l11) z12))) 40 (.bool (leZ (Int.ofNat l11) z12))) 41 (.bool (leZ (Int.ofNat l11) z12))) 41 (.bool false)) 42 (a 6)) 41 (.bool false)) 43 v8) 41 (.bool false)) 44 (ptr p14 (Nat.add o15 (Nat.mul n18 1)))) 41 (.bool false)) 45 v19) 41 (.bool false)) 46 (a 1)) 41 (.bool false)) 47 v8) 41 (.bool false)) 48 (ptr p20 (Nat.add o21 (Nat.mul n24 1)))) 41 (.bool false)) 49 v25) 41 (.bool false)) 50 (.int .i64 (Int.ofNat l26))) 41 (.bool false)) 51 (.bool (leZ (Int.ofNat l26) z27))) 52 (.bool (leZ (Int.ofNat l26) z27))) 11 (ptr p29 0)) 53 (a 1)) 54 v8) 55 (ptr p31 (Nat.add o32 (Nat.mul n35 1)))) 56 v36) 57 (a 6)) 58 v8) 59 (ptr p37 (Nat.add o38 (Nat.mul n41 1)))) 60 v42) 61 (ptr p43 (Nat.add o44 (Nat.mul n47 6)))) 62 (.agg ⟨[v48, v49, v50, v51, v52, v53]⟩)) 63 (a 7)) 64 v8) 65 (ptr p55 (Nat.add o56 (Nat.mul n59 1)))) 66 v60) 67 (.bool b61)) 68 (.bool b61)) 68 (.bool true)) 69 (a 8)) 68 (.bool true)) 70 v8) 68 (.bool true)) 71 (ptr p62 (Nat.add o63 (Nat.mul n66 1)))) 68 (.bool true)) 72 v67) 68 (.bool true)) 73 (.bool b68)) 74 (.bool b68)) 75 (ptr p29 1)) 76 v69) 77 (.int .u64 (Int.ofNat (Nat.mod n70 2)))) 78 (.int .u64 (Int.ofNat (Nat.mod (Nat.add 2 (Nat.mod n70 2)) 18446744073709551616)))) 12 (.int .u64 (Int.ofNat (Nat.mod (Nat.add 2 (Nat.mod n70 2)) 18446744073709551616)))) 79 (ptr p29 0)) 80 v71) 90 (.bool (eqZ z72 (Int.ofNat 0)))) 89 (.bool (eqZ z72 (Int.ofNat 0)))) 91 (a 8)) 92 v8) 93 (.int .u64 (Int.ofNat (Nat.mod (Nat.add 2 (Nat.mod n70 2)) 18446744073709551616)))) 94 (ptr p29 2)) 95 v73) 96 (ptr p29 3)) 97 v74) 98 (.agg ⟨[(.int .i64 (Int.ofNat 1)), (.int .u64 (Int.ofNat (Nat.mod (Nat.add 2 (Nat.mod n70 2)) 18446744073709551616))), v73, v74]⟩)) 99 v75) 100 (ptr p77 (Nat.add o78 (Nat.mul n81 1)))) 13 (.bool false)) 118 (a 7)) 119 v8) 120 (ptr p83 (Nat.add o84 (Nat.mul n87 1)))) 121 v88) 122 (.bool (notB b89))) 123 (a 7)) 124 v8) 125 (ptr p90 (Nat.add o91 (Nat.mul n94 1)))) 126 v95) 127 (a 0)) 128 v8) 129 v96) 13 v96) 137 v96) 27 (a 9)) 28 (.int .i64 (Int.add z125 (Int.ofNat 1)))) 9 (.int .i64 (Int.add z125 (Int.ofNat 1)))) H97)))) (
                  AsSlc (a 8) fun p126 o127 l128 c129 =>
                  AsCnt v8 fun n130 =>
                  Must (ltN n130 l128) (
                  Ld H82 p126 (Nat.add o127 (Nat.mul n130 1)) fun v131 =>
                  Call1 Tryz.prog con 62 [v131, (a 0), v8] H82 fun v132 H133 =>
                  AsBool v132 fun b134 =>
                  Cd b134 (
                    AsSlc (a 7) fun p135 o136 l137 c138 =>
                    AsCnt v8 fun n139 =>
                    Must (ltN n139 l137) (
                    St H133 p135 (Nat.add o136 (Nat.mul n139 1)) [(.pointer none)] fun H140 =>
                    AsSlc (a 8) fun p141 o142 l143 c144 =>
                    AsCnt v8 fun n145 =>
                    Must (ltN n145 l143) (
                    St H140 p141 (Nat.add o142 (Nat.mul n145 1)) [(.pointer none)] fun H146 =>
                    AsSlc (a 6) fun p147 o148 l149 c150 =>
                    AsCnt v8 fun n151 =>
                    Must (ltN n151 l149) (
                    Ld H146 p147 (Nat.add o148 (Nat.mul n151 1)) fun v152 =>
                    AsInt .i64 v152 fun z153 =>
                    InR (Int.add z153 (Int.ofNat 1)) (
                    AsSlc (a 6) fun p154 o155 l156 c157 =>
                    AsCnt v8 fun n158 =>
                    Must (ltN n158 l156) (
                    St H146 p154 (Nat.add o155 (Nat.mul n158 1)) [(.int .i64 (Int.add z153 (Int.ofNat 1)))] fun H159 =>
                    AsInt .i64 (a 9) fun z160 =>
                    InR (Int.add z160 (Int.ofNat 1)) (
                    K .normal (upd (upd (upd (upd (upd (upd (upd (upd (upd (upd (upd (upd (upd (upd (upd (upd (upd (upd (upd (upd (upd (upd (upd (upd (upd (upd (upd (upd (upd (upd (upd (upd (upd (upd (upd (upd (upd (upd (upd (upd (upd (upd (upd (upd (upd (upd (upd (upd (upd (upd (upd (upd (upd (upd (upd (upd (upd (upd (upd (upd (upd (upd (upd (upd (upd (upd (upd (upd (upd (upd (upd (upd (upd (upd (upd (upd (upd (upd (upd (upd (upd (upd (upd (upd (upd (upd (upd (upd (upd (upd (upd (upd (upd (upd (upd (upd (upd (upd (upd (upd (upd (upd (upd (upd (upd (upd (upd (upd (upd (upd (upd (upd (upd (upd (upd (upd (upd (upd (upd (upd a 23 (a 9)) 24 (a 2)) 25 (.int .i64 (Int.ofNat l1))) 26 (.bool (ltZ z2 (Int.ofNat l1)))) 29 (a 2)) 30 (a 9)) 31 (ptr p3 (Nat.add o4 (Nat.mul n7 1)))) 32 v8) 10 v8) 33 v8) 34 (.bool (ltZ z9 (Int.ofNat 0)))) 35 (.bool (ltZ z9 (Int.ofNat 0)))) 35 (.bool false)) 36 v8) 35 (.bool false)) 37 (a 1)) 35 (.bool false)) 38 (.int .i64 (Int.ofNat l11))) 35 (.bool false)) 39 (.bool (leZ (Int.ofNat l11) z12))) 40 (.bool (leZ (Int.ofNat l11) z12))) 41 (.bool (leZ (Int.ofNat l11) z12))) 41 (.bool false)) 42 (a 6)) 41 (.bool false)) 43 v8) 41 (.bool false)) 44 (ptr p14 (Nat.add o15 (Nat.mul n18 1)))) 41 (.bool false)) 45 v19) 41 (.bool false)) 46 (a 1)) 41 (.bool false)) 47 v8) 41 (.bool false)) 48 (ptr p20 (Nat.add o21 (Nat.mul n24 1)))) 41 (.bool false)) 49 v25) 41 (.bool false)) 50 (.int .i64 (Int.ofNat l26))) 41 (.bool false)) 51 (.bool (leZ (Int.ofNat l26) z27))) 52 (.bool (leZ (Int.ofNat l26) z27))) 11 (ptr p29 0)) 53 (a 1)) 54 v8) 55 (ptr p31 (Nat.add o32 (Nat.mul n35 1)))) 56 v36) 57 (a 6)) 58 v8) 59 (ptr p37 (Nat.add o38 (Nat.mul n41 1)))) 60 v42) 61 (ptr p43 (Nat.add o44 (Nat.mul n47 6)))) 62 (.agg ⟨[v48, v49, v50, v51, v52, v53]⟩)) 63 (a 7)) 64 v8) 65 (ptr p55 (Nat.add o56 (Nat.mul n59 1)))) 66 v60) 67 (.bool b61)) 68 (.bool b61)) 68 (.bool true)) 69 (a 8)) 68 (.bool true)) 70 v8) 68 (.bool true)) 71 (ptr p62 (Nat.add o63 (Nat.mul n66 1)))) 68 (.bool true)) 72 v67) 68 (.bool true)) 73 (.bool b68)) 74 (.bool b68)) 75 (ptr p29 1)) 76 v69) 77 (.int .u64 (Int.ofNat (Nat.mod n70 2)))) 78 (.int .u64 (Int.ofNat (Nat.mod (Nat.add 2 (Nat.mod n70 2)) 18446744073709551616)))) 12 (.int .u64 (Int.ofNat (Nat.mod (Nat.add 2 (Nat.mod n70 2)) 18446744073709551616)))) 79 (ptr p29 0)) 80 v71) 90 (.bool (eqZ z72 (Int.ofNat 0)))) 89 (.bool (eqZ z72 (Int.ofNat 0)))) 91 (a 8)) 92 v8) 93 (.int .u64 (Int.ofNat (Nat.mod (Nat.add 2 (Nat.mod n70 2)) 18446744073709551616)))) 94 (ptr p29 2)) 95 v73) 96 (ptr p29 3)) 97 v74) 98 (.agg ⟨[(.int .i64 (Int.ofNat 1)), (.int .u64 (Int.ofNat (Nat.mod (Nat.add 2 (Nat.mod n70 2)) 18446744073709551616))), v73, v74]⟩)) 99 v75) 100 (ptr p77 (Nat.add o78 (Nat.mul n81 1)))) 13 (.bool false)) 118 (a 7)) 119 v8) 120 (ptr p83 (Nat.add o84 (Nat.mul n87 1)))) 121 v88) 122 (.bool (notB b89))) 130 (a 8)) 131 v8) 132 (ptr p126 (Nat.add o127 (Nat.mul n130 1)))) 133 v131) 134 (a 0)) 135 v8) 136 v132) 13 v132) 137 v132) 138 (a 7)) 139 v8) 140 (a 8)) 141 v8) 142 (ptr p135 (Nat.add o136 (Nat.mul n139 1)))) 143 (ptr p141 (Nat.add o142 (Nat.mul n145 1)))) 144 (a 6)) 145 v8) 146 (ptr p147 (Nat.add o148 (Nat.mul n151 1)))) 147 v152) 148 (.int .i64 (Int.add z153 (Int.ofNat 1)))) 149 (ptr p154 (Nat.add o155 (Nat.mul n158 1)))) 27 (a 9)) 28 (.int .i64 (Int.add z160 (Int.ofNat 1)))) 9 (.int .i64 (Int.add z160 (Int.ofNat 1)))) H159))))))) (
                    AsInt .i64 (a 9) fun z161 =>
                    InR (Int.add z161 (Int.ofNat 1)) (
                    K .normal (upd (upd (upd (upd (upd (upd (upd (upd (upd (upd (upd (upd (upd (upd (upd (upd (upd (upd (upd (upd (upd (upd (upd (upd (upd (upd (upd (upd (upd (upd (upd (upd (upd (upd (upd (upd (upd (upd (upd (upd (upd (upd (upd (upd (upd (upd (upd (upd (upd (upd (upd (upd (upd (upd (upd (upd (upd (upd (upd (upd (upd (upd (upd (upd (upd (upd (upd (upd (upd (upd (upd (upd (upd (upd (upd (upd (upd (upd (upd (upd (upd (upd (upd (upd (upd (upd (upd (upd (upd (upd (upd (upd (upd (upd (upd (upd (upd (upd (upd (upd (upd (upd (upd (upd (upd (upd (upd (upd a 23 (a 9)) 24 (a 2)) 25 (.int .i64 (Int.ofNat l1))) 26 (.bool (ltZ z2 (Int.ofNat l1)))) 29 (a 2)) 30 (a 9)) 31 (ptr p3 (Nat.add o4 (Nat.mul n7 1)))) 32 v8) 10 v8) 33 v8) 34 (.bool (ltZ z9 (Int.ofNat 0)))) 35 (.bool (ltZ z9 (Int.ofNat 0)))) 35 (.bool false)) 36 v8) 35 (.bool false)) 37 (a 1)) 35 (.bool false)) 38 (.int .i64 (Int.ofNat l11))) 35 (.bool false)) 39 (.bool (leZ (Int.ofNat l11) z12))) 40 (.bool (leZ (Int.ofNat l11) z12))) 41 (.bool (leZ (Int.ofNat l11) z12))) 41 (.bool false)) 42 (a 6)) 41 (.bool false)) 43 v8) 41 (.bool false)) 44 (ptr p14 (Nat.add o15 (Nat.mul n18 1)))) 41 (.bool false)) 45 v19) 41 (.bool false)) 46 (a 1)) 41 (.bool false)) 47 v8) 41 (.bool false)) 48 (ptr p20 (Nat.add o21 (Nat.mul n24 1)))) 41 (.bool false)) 49 v25) 41 (.bool false)) 50 (.int .i64 (Int.ofNat l26))) 41 (.bool false)) 51 (.bool (leZ (Int.ofNat l26) z27))) 52 (.bool (leZ (Int.ofNat l26) z27))) 11 (ptr p29 0)) 53 (a 1)) 54 v8) 55 (ptr p31 (Nat.add o32 (Nat.mul n35 1)))) 56 v36) 57 (a 6)) 58 v8) 59 (ptr p37 (Nat.add o38 (Nat.mul n41 1)))) 60 v42) 61 (ptr p43 (Nat.add o44 (Nat.mul n47 6)))) 62 (.agg ⟨[v48, v49, v50, v51, v52, v53]⟩)) 63 (a 7)) 64 v8) 65 (ptr p55 (Nat.add o56 (Nat.mul n59 1)))) 66 v60) 67 (.bool b61)) 68 (.bool b61)) 68 (.bool true)) 69 (a 8)) 68 (.bool true)) 70 v8) 68 (.bool true)) 71 (ptr p62 (Nat.add o63 (Nat.mul n66 1)))) 68 (.bool true)) 72 v67) 68 (.bool true)) 73 (.bool b68)) 74 (.bool b68)) 75 (ptr p29 1)) 76 v69) 77 (.int .u64 (Int.ofNat (Nat.mod n70 2)))) 78 (.int .u64 (Int.ofNat (Nat.mod (Nat.add 2 (Nat.mod n70 2)) 18446744073709551616)))) 12 (.int .u64 (Int.ofNat (Nat.mod (Nat.add 2 (Nat.mod n70 2)) 18446744073709551616)))) 79 (ptr p29 0)) 80 v71) 90 (.bool (eqZ z72 (Int.ofNat 0)))) 89 (.bool (eqZ z72 (Int.ofNat 0)))) 91 (a 8)) 92 v8) 93 (.int .u64 (Int.ofNat (Nat.mod (Nat.add 2 (Nat.mod n70 2)) 18446744073709551616)))) 94 (ptr p29 2)) 95 v73) 96 (ptr p29 3)) 97 v74) 98 (.agg ⟨[(.int .i64 (Int.ofNat 1)), (.int .u64 (Int.ofNat (Nat.mod (Nat.add 2 (Nat.mod n70 2)) 18446744073709551616))), v73, v74]⟩)) 99 v75) 100 (ptr p77 (Nat.add o78 (Nat.mul n81 1)))) 13 (.bool false)) 118 (a 7)) 119 v8) 120 (ptr p83 (Nat.add o84 (Nat.mul n87 1)))) 121 v88) 122 (.bool (notB b89))) 130 (a 8)) 131 v8) 132 (ptr p126 (Nat.add o127 (Nat.mul n130 1)))) 133 v131) 134 (a 0)) 135 v8) 136 v132) 13 v132) 137 v132) 27 (a 9)) 28 (.int .i64 (Int.add z161 (Int.ofNat 1)))) 9 (.int .i64 (Int.add z161 (Int.ofNat 1)))) H133)))))))))) (
                AsInt .i64 v71 fun z162 =>
                Cd (eqZ z162 (Int.ofNat 1)) (
                  Call1 Tryz.prog con 60 [(.agg ⟨[(.int .i64 (Int.ofNat 3)), (.int .u64 (Int.ofNat 0)), (.int .u64 (Int.ofNat 1073741824)), (.int .u64 (Int.ofNat 0))]⟩), (.int .u64 (Int.ofNat 1))] H54 fun v163 H164 =>
                  AsSlc (a 8) fun p165 o166 l167 c168 =>
                  AsCnt v8 fun n169 =>
                  Must (ltN n169 l167) (
                  Sc v163 (St H164 p165 (Nat.add o166 (Nat.mul n169 1)) [v163] fun H170 =>
                  AsSlc (a 7) fun p171 o172 l173 c174 =>
                  AsCnt v8 fun n175 =>
                  Must (ltN n175 l173) (
                  Ld H170 p171 (Nat.add o172 (Nat.mul n175 1)) fun v176 =>
                  IsNil .ptr v176 fun b177 =>
                  Cd (notB b177) (
                    AsSlc (a 7) fun p178 o179 l180 c181 =>
                    AsCnt v8 fun n182 =>
                    Must (ltN n182 l180) (
                    Ld H170 p178 (Nat.add o179 (Nat.mul n182 1)) fun v183 =>
                    Call1 Tryz.prog con 61 [v183, (a 0), v8] H170 fun v184 H185 =>
                    AsBool v184 fun b186 =>
                    Cd b186 (
                      AsSlc (a 7) fun p187 o188 l189 c190 =>
                      AsCnt v8 fun n191 =>
                      Must (ltN n191 l189) (
                      St H185 p187 (Nat.add o188 (Nat.mul n191 1)) [(.pointer none)] fun H192 =>
                      AsSlc (a 8) fun p193 o194 l195 c196 =>
                      AsCnt v8 fun n197 =>
                      Must (ltN n197 l195) (
                      St H192 p193 (Nat.add o194 (Nat.mul n197 1)) [(.pointer none)] fun H198 =>
                      AsSlc (a 6) fun p199 o200 l201 c202 =>
                      AsCnt v8 fun n203 =>
                      Must (ltN n203 l201) (
                      Ld H198 p199 (Nat.add o200 (Nat.mul n203 1)) fun v204 =>
                      AsInt .i64 v204 fun z205 =>
                      InR (Int.add z205 (Int.ofNat 1)) (
                      AsSlc (a 6) fun p206 o207 l208 c209 =>
                      AsCnt v8 fun n210 =>
                      Must (ltN n210 l208) (
                      St H198 p206 (Nat.add o207 (Nat.mul n210 1)) [(.int .i64 (Int.add z205 (Int.ofNat 1)))] fun H211 =>
                      AsInt .i64 (a 9) fun z212 =>
                      InR (Int.add z212 (Int.ofNat 1)) (
                      K .normal (upd (upd (upd (upd (upd (upd (upd (upd (upd (upd (upd (upd (upd (upd (upd (upd (upd (upd (upd (upd (upd (upd (upd (upd (upd (upd (upd (upd (upd (upd (upd (upd (upd (upd (upd (upd (upd (upd (upd (upd (upd (upd (upd (upd (upd (upd (upd (upd (upd (upd (upd (upd (upd (upd (upd (upd (upd (upd (upd (upd (upd (upd (upd (upd (upd (upd (upd (upd (upd (upd (upd (upd (upd (upd (upd (upd (upd (upd (upd (upd (upd (upd (upd (upd (upd (upd (upd (upd (upd (upd (upd (upd (upd (upd (upd (upd (upd (upd (upd (upd (upd (upd (upd (upd (upd (upd (upd (upd (upd (upd (upd (upd (upd (upd (upd (upd (upd a 23 (a 9)) 24 (a 2)) 25 (.int .i64 (Int.ofNat l1))) 26 (.bool (ltZ z2 (Int.ofNat l1)))) 29 (a 2)) 30 (a 9)) 31 (ptr p3 (Nat.add o4 (Nat.mul n7 1)))) 32 v8) 10 v8) 33 v8) 34 (.bool (ltZ z9 (Int.ofNat 0)))) 35 (.bool (ltZ z9 (Int.ofNat 0)))) 35 (.bool false)) 36 v8) 35 (.bool false)) 37 (a 1)) 35 (.bool false)) 38 (.int .i64 (Int.ofNat l11))) 35 (.bool false)) 39 (.bool (leZ (Int.ofNat l11) z12))) 40 (.bool (leZ (Int.ofNat l11) z12))) 41 (.bool (leZ (Int.ofNat l11) z12))) 41 (.bool false)) 42 (a 6)) 41 (.bool false)) 43 v8) 41 (.bool false)) 44 (ptr p14 (Nat.add o15 (Nat.mul n18 1)))) 41 (.bool false)) 45 v19) 41 (.bool false)) 46 (a 1)) 41 (.bool false)) 47 v8) 41 (.bool false)) 48 (ptr p20 (Nat.add o21 (Nat.mul n24 1)))) 41 (.bool false)) 49 v25) 41 (.bool false)) 50 (.int .i64 (Int.ofNat l26))) 41 (.bool false)) 51 (.bool (leZ (Int.ofNat l26) z27))) 52 (.bool (leZ (Int.ofNat l26) z27))) 11 (ptr p29 0)) 53 (a 1)) 54 v8) 55 (ptr p31 (Nat.add o32 (Nat.mul n35 1)))) 56 v36) 57 (a 6)) 58 v8) 59 (ptr p37 (Nat.add o38 (Nat.mul n41 1)))) 60 v42) 61 (ptr p43 (Nat.add o44 (Nat.mul n47 6)))) 62 (.agg ⟨[v48, v49, v50, v51, v52, v53]⟩)) 63 (a 7)) 64 v8) 65 (ptr p55 (Nat.add o56 (Nat.mul n59 1)))) 66 v60) 67 (.bool b61)) 68 (.bool b61)) 68 (.bool true)) 69 (a 8)) 68 (.bool true)) 70 v8) 68 (.bool true)) 71 (ptr p62 (Nat.add o63 (Nat.mul n66 1)))) 68 (.bool true)) 72 v67) 68 (.bool true)) 73 (.bool b68)) 74 (.bool b68)) 75 (ptr p29 1)) 76 v69) 77 (.int .u64 (Int.ofNat (Nat.mod n70 2)))) 78 (.int .u64 (Int.ofNat (Nat.mod (Nat.add 2 (Nat.mod n70 2)) 18446744073709551616)))) 12 (.int .u64 (Int.ofNat (Nat.mod (Nat.add 2 (Nat.mod n70 2)) 18446744073709551616)))) 79 (ptr p29 0)) 80 v71) 90 (.bool (eqZ z72 (Int.ofNat 0)))) 89 (.bool (eqZ z72 (Int.ofNat 0)))) 102 (.bool (eqZ z162 (Int.ofNat 1)))) 101 (.bool (eqZ z162 (Int.ofNat 1)))) 103 (a 8)) 104 v8) 105 (.agg ⟨[(.int .i64 (Int.ofNat 3)), (.int .u64 (Int.ofNat 0)), (.int .u64 (Int.ofNat 1073741824)), (.int .u64 (Int.ofNat 0))]⟩)) 106 v163) 107 (ptr p165 (Nat.add o166 (Nat.mul n169 1)))) 13 (.bool false)) 118 (a 7)) 119 v8) 120 (ptr p171 (Nat.add o172 (Nat.mul n175 1)))) 121 v176) 122 (.bool (notB b177))) 123 (a 7)) 124 v8) 125 (ptr p178 (Nat.add o179 (Nat.mul n182 1)))) 126 v183) 127 (a 0)) 128 v8) 129 v184) 13 v184) 137 v184) 138 (a 7)) 139 v8) 140 (a 8)) 141 v8) 142 (ptr p187 (Nat.add o188 (Nat.mul n191 1)))) 143 (ptr p193 (Nat.add o194 (Nat.mul n197 1)))) 144 (a 6)) 145 v8) 146 (ptr p199 (Nat.add o200 (Nat.mul n203 1)))) 147 v204) 148 (.int .i64 (Int.add z205 (Int.ofNat 1)))) 149 (ptr p206 (Nat.add o207 (Nat.mul n210 1)))) 27 (a 9)) 28 (.int .i64 (Int.add z212 (Int.ofNat 1)))) 9 (.int .i64 (Int.add z212 (Int.ofNat 1)))) H211))))))) (
                      AsInt .i64 (a 9) fun z213 =>
                      InR (Int.add z213 (Int.ofNat 1)) (
                      K .normal (upd (upd (upd (upd (upd (upd (upd (upd (upd (upd (upd (upd (upd (upd (upd (upd (upd (upd (upd (upd (upd (upd (upd (upd (upd (upd (upd (upd (upd (upd (upd (upd (upd (upd (upd (upd (upd (upd (upd (upd (upd (upd (upd (upd (upd (upd (upd (upd (upd (upd (upd (upd (upd (upd (upd (upd (upd (upd (upd (upd (upd (upd (upd (upd (upd (upd (upd (upd (upd (upd (upd (upd (upd (upd (upd (upd (upd (upd (upd (upd (upd (upd (upd (upd (upd (upd (upd (upd (upd (upd (upd (upd (upd (upd (upd (upd (upd (upd (upd (upd (upd (upd (upd (upd (upd a 23 (a 9)) 24 (a 2)) 25 (.int .i64 (Int.ofNat l1))) 26 (.bool (ltZ z2 (Int.ofNat l1)))) 29 (a 2)) 30 (a 9)) 31 (ptr p3 (Nat.add o4 (Nat.mul n7 1)))) 32 v8) 10 v8) 33 v8) 34 (.bool (ltZ z9 (Int.ofNat 0)))) 35 (.bool (ltZ z9 (Int.ofNat 0)))) 35 (.bool false)) 36 v8) 35 (.bool false)) 37 (a 1)) 35 (.bool false)) 38 (.int .i64 (Int.ofNat l11))) 35 (.bool false)) 39 (.bool (leZ (Int.ofNat l11) z12))) 40 (.bool (leZ (Int.ofNat l11) z12))) 41 (.bool (leZ (Int.ofNat l11) z12))) 41 (.bool false)) 42 (a 6)) 41 (.bool false)) 43 v8) 41 (.bool false)) 44 (ptr p14 (Nat.add o15 (Nat.mul n18 1)))) 41 (.bool false)) 45 v19) 41 (.bool false)) 46 (a 1)) 41 (.bool false)) 47 v8) 41 (.bool false)) 48 (ptr p20 (Nat.add o21 (Nat.mul n24 1)))) 41 (.bool false)) 49 v25) 41 (.bool false)) 50 (.int .i64 (Int.ofNat l26))) 41 (.bool false)) 51 (.bool (leZ (Int.ofNat l26) z27))) 52 (.bool (leZ (Int.ofNat l26) z27))) 11 (ptr p29 0)) 53 (a 1)) 54 v8) 55 (ptr p31 (Nat.add o32 (Nat.mul n35 1)))) 56 v36) 57 (a 6)) 58 v8) 59 (ptr p37 (Nat.add o38 (Nat.mul n41 1)))) 60 v42) 61 (ptr p43 (Nat.add o44 (Nat.mul n47 6)))) 62 (.agg ⟨[v48, v49, v50, v51, v52, v53]⟩)) 63 (a 7)) 64 v8) 65 (ptr p55 (Nat.add o56 (Nat.mul n59 1)))) 66 v60) 67 (.bool b61)) 68 (.bool b61)) 68 (.bool true)) 69 (a 8)) 68 (.bool true)) 70 v8) 68 (.bool true)) 71 (ptr p62 (Nat.add o63 (Nat.mul n66 1)))) 68 (.bool true)) 72 v67) 68 (.bool true)) 73 (.bool b68)) 74 (.bool b68)) 75 (ptr p29 1)) 76 v69) 77 (.int .u64 (Int.ofNat (Nat.mod n70 2)))) 78 (.int .u64 (Int.ofNat (Nat.mod (Nat.add 2 (Nat.mod n70 2)) 18446744073709551616)))) 12 (.int .u64 (Int.ofNat (Nat.mod (Nat.add 2 (Nat.mod n70 2)) 18446744073709551616)))) 79 (ptr p29 0)) 80 v71) 90 (.bool (eqZ z72 (Int.ofNat 0)))) 89 (.bool (eqZ z72 (Int.ofNat 0)))) 102 (.bool (eqZ z162 (Int.ofNat 1)))) 101 (.bool (eqZ z162 (Int.ofNat 1)))) 103 (a 8)) 104 v8) 105 (.agg ⟨[(.int .i64 (Int.ofNat 3)), (.int .u64 (Int.ofNat 0)), (.int .u64 (Int.ofNat 1073741824)), (.int .u64 (Int.ofNat 0))]⟩)) 106 v163) 107 (ptr p165 (Nat.add o166 (Nat.mul n169 1)))) 13 (.bool false)) 118 (a 7)) 119 v8) 120 (ptr p171 (Nat.add o172 (Nat.mul n175 1)))) 121 v176) 122 (.bool (notB b177))) 123 (a 7)) 124 v8) 125 (ptr p178 (Nat.add o179 (Nat.mul n182 1)))) 126 v183) 127 (a 0)) 128 v8) 129 v184) 13 v184) 137 v184) 27 (a 9)) 28 (.int .i64 (Int.add z213 (Int.ofNat 1)))) 9 (.int .i64 (Int.add z213 (Int.ofNat 1)))) H185)))) (
                    AsSlc (a 8) fun p214 o215 l216 c217 =>
                    AsCnt v8 fun n218 =>
                    Must (ltN n218 l216) (
                    Ld H170 p214 (Nat.add o215 (Nat.mul n218 1)) fun v219 =>
                    Call1 Tryz.prog con 62 [v219, (a 0), v8] H170 fun v220 H221 =>
                    AsBool v220 fun b222 =>
                    Cd b222 (
                      AsSlc (a 7) fun p223 o224 l225 c226 =>
                      AsCnt v8 fun n227 =>
                      Must (ltN n227 l225) (
                      St H221 p223 (Nat.add o224 (Nat.mul n227 1)) [(.pointer none)] fun H228 =>
                      AsSlc (a 8) fun p229 o230 l231 c232 =>
                      AsCnt v8 fun n233 =>
                      Must (ltN n233 l231) (
                      St H228 p229 (Nat.add o230 (Nat.mul n233 1)) [(.pointer none)] fun H234 =>
                      AsSlc (a 6) fun p235 o236 l237 c238 =>
                      AsCnt v8 fun n239 =>
                      Must (ltN n239 l237) (
                      Ld H234 p235 (Nat.add o236 (Nat.mul n239 1)) fun v240 =>
                      AsInt .i64 v240 fun z241 =>
                      InR (Int.add z241 (Int.ofNat 1)) (
                      AsSlc (a 6) fun p242 o243 l244 c245 =>
                      AsCnt v8 fun n246 =>
                      Must (ltN n246 l244) (
                      St H234 p242 (Nat.add o243 (Nat.mul n246 1)) [(.int .i64 (Int.add z241 (Int.ofNat 1)))] fun H247 =>
                      AsInt .i64 (a 9) fun z248 =>
                      InR (Int.add z248 (Int.ofNat 1)) (
                      K .normal (upd (upd (upd (upd (upd (upd (upd (upd (upd (upd (upd (upd (upd (upd (upd (upd (upd (upd (upd (upd (upd (upd (upd (upd (upd (upd (upd (upd (upd (upd (upd (upd (upd (upd (upd (upd (upd (upd (upd (upd (upd (upd (upd (upd (upd (upd (upd (upd (upd (upd (upd (upd (upd (upd (upd (upd (upd (upd (upd (upd (upd (upd (upd (upd (upd (upd (upd (upd (upd (upd (upd (upd (upd (upd (upd (upd (upd (upd (upd (upd (upd (upd (upd (upd (upd (upd (upd (upd (upd (upd (upd (upd (upd (upd (upd (upd (upd (upd (upd (upd (upd (upd (upd (upd (upd (upd (upd (upd (upd (upd (upd (upd (upd (upd (upd (upd (upd a 23 (a 9)) 24 (a 2)) 25 (.int .i64 (Int.ofNat l1))) 26 (.bool (ltZ z2 (Int.ofNat l1)))) 29 (a 2)) 30 (a 9)) 31 (ptr p3 (Nat.add o4 (Nat.mul n7 1)))) 32 v8) 10 v8) 33 v8) 34 (.bool (ltZ z9 (Int.ofNat 0)))) 35 (.bool (ltZ z9 (Int.ofNat 0)))) 35 (.bool false)) 36 v8) 35 (.bool false)) 37 (a 1)) 35 (.bool false)) 38 (.int .i64 (Int.ofNat l11))) 35 (.bool false)) 39 (.bool (leZ (Int.ofNat l11) z12))) 40 (.bool (leZ (Int.ofNat l11) z12))) 41 (.bool (leZ (Int.ofNat l11) z12))) 41 (.bool false)) 42 (a 6)) 41 (.bool false)) 43 v8) 41 (.bool false)) 44 (ptr p14 (Nat.add o15 (Nat.mul n18 1)))) 41 (.bool false)) 45 v19) 41 (.bool false)) 46 (a 1)) 41 (.bool false)) 47 v8) 41 (.bool false)) 48 (ptr p20 (Nat.add o21 (Nat.mul n24 1)))) 41 (.bool false)) 49 v25) 41 (.bool false)) 50 (.int .i64 (Int.ofNat l26))) 41 (.bool false)) 51 (.bool (leZ (Int.ofNat l26) z27))) 52 (.bool (leZ (Int.ofNat l26) z27))) 11 (ptr p29 0)) 53 (a 1)) 54 v8) 55 (ptr p31 (Nat.add o32 (Nat.mul n35 1)))) 56 v36) 57 (a 6)) 58 v8) 59 (ptr p37 (Nat.add o38 (Nat.mul n41 1)))) 60 v42) 61 (ptr p43 (Nat.add o44 (Nat.mul n47 6)))) 62 (.agg ⟨[v48, v49, v50, v51, v52, v53]⟩)) 63 (a 7)) 64 v8) 65 (ptr p55 (Nat.add o56 (Nat.mul n59 1)))) 66 v60) 67 (.bool b61)) 68 (.bool b61)) 68 (.bool true)) 69 (a 8)) 68 (.bool true)) 70 v8) 68 (.bool true)) 71 (ptr p62 (Nat.add o63 (Nat.mul n66 1)))) 68 (.bool true)) 72 v67) 68 (.bool true)) 73 (.bool b68)) 74 (.bool b68)) 75 (ptr p29 1)) 76 v69) 77 (.int .u64 (Int.ofNat (Nat.mod n70 2)))) 78 (.int .u64 (Int.ofNat (Nat.mod (Nat.add 2 (Nat.mod n70 2)) 18446744073709551616)))) 12 (.int .u64 (Int.ofNat (Nat.mod (Nat.add 2 (Nat.mod n70 2)) 18446744073709551616)))) 79 (ptr p29 0)) 80 v71) 90 (.bool (eqZ z72 (Int.ofNat 0)))) 89 (.bool (eqZ z72 (Int.ofNat 0)))) 102 (.bool (eqZ z162 (Int.ofNat 1)))) 101 (.bool (eqZ z162 (Int.ofNat 1)))) 103 (a 8)) 104 v8) 105 (.agg ⟨[(.int .i64 (Int.ofNat 3)), (.int .u64 (Int.ofNat 0)), (.int .u64 (Int.ofNat 1073741824)), (.int .u64 (Int.ofNat 0))]⟩)) 106 v163) 107 (ptr p165 (Nat.add o166 (Nat.mul n169 1)))) 13 (.bool false)) 118 (a 7)) 119 v8) 120 (ptr p171 (Nat.add o172 (Nat.mul n175 1)))) 121 v176) 122 (.bool (notB b177))) 130 (a 8)) 131 v8) 132 (ptr p214 (Nat.add o215 (Nat.mul n218 1)))) 133 v219) 134 (a 0)) 135 v8) 136 v220) 13 v220) 137 v220) 138 (a 7)) 139 v8) 140 (a 8)) 141 v8) 142 (ptr p223 (Nat.add o224 (Nat.mul n227 1)))) 143 (ptr p229 (Nat.add o230 (Nat.mul n233 1)))) 144 (a 6)) 145 v8) 146 (ptr p235 (Nat.add o236 (Nat.mul n239 1)))) 147 v240) 148 (.int .i64 (Int.add z241 (Int.ofNat 1)))) 149 (ptr p242 (Nat.add o243 (Nat.mul n246 1)))) 27 (a 9)) 28 (.int .i64 (Int.add z248 (Int.ofNat 1)))) 9 (.int .i64 (Int.add z248 (Int.ofNat 1)))) H247))))))) (
                      AsInt .i64 (a 9) fun z249 =>
                      InR (Int.add z249 (Int.ofNat 1)) (
                      K .normal (upd (upd (upd (upd (upd (upd (upd (upd (upd (upd (upd (upd (upd (upd (upd (upd (upd (upd (upd (upd (upd (upd (upd (upd (upd (upd (upd (upd (upd (upd (upd (upd (upd (upd (upd (upd (upd (upd (upd (upd (upd (upd (upd (upd (upd (upd (upd (upd (upd (upd (upd (upd (upd (upd (upd (upd (upd (upd (upd (upd (upd (upd (upd (upd (upd (upd (upd (upd (upd (upd (upd (upd (upd (upd (upd (upd (upd (upd (upd (upd (upd (upd (upd (upd (upd (upd (upd (upd (upd (upd (upd (upd (upd (upd (upd (upd (upd (upd (upd (upd (upd (upd (upd (upd (upd a 23 (a 9)) 24 (a 2)) 25 (.int .i64 (Int.ofNat l1))) 26 (.bool (ltZ z2 (Int.ofNat l1)))) 29 (a 2)) 30 (a 9)) 31 (ptr p3 (Nat.add o4 (Nat.mul n7 1)))) 32 v8) 10 v8) 33 v8) 34 (.bool (ltZ z9 (Int.ofNat 0)))) 35 (.bool (ltZ z9 (Int.ofNat 0)))) 35 (.bool false)) 36 v8) 35 (.bool false)) 37 (a 1)) 35 (.bool false)) 38 (.int .i64 (Int.ofNat l11))) 35 (.bool false)) 39 (.bool (leZ (Int.ofNat l11) z12))) 40 (.bool (leZ (Int.ofNat l11) z12))) 41 (.bool (leZ (Int.ofNat l11) z12))) 41 (.bool false)) 42 (a 6)) 41 (.bool false)) 43 v8) 41 (.bool false)) 44 (ptr p14 (Nat.add o15 (Nat.mul n18 1)))) 41 (.bool false)) 45 v19) 41 (.bool false)) 46 (a 1)) 41 (.bool false)) 47 v8) 41 (.bool false)) 48 (ptr p20 (Nat.add o21 (Nat.mul n24 1)))) 41 (.bool false)) 49 v25) 41 (.bool false)) 50 (.int .i64 (Int.ofNat l26))) 41 (.bool false)) 51 (.bool (leZ (Int.ofNat l26) z27))) 52 (.bool (leZ (Int.ofNat l26) z27))) 11 (ptr p29 0)) 53 (a 1)) 54 v8) 55 (ptr p31 (Nat.add o32 (Nat.mul n35 1)))) 56 v36) 57 (a 6)) 58 v8) 59 (ptr p37 (Nat.add o38 (Nat.mul n41 1)))) 60 v42) 61 (ptr p43 (Nat.add o44 (Nat.mul n47 6)))) 62 (.agg ⟨[v48, v49, v50, v51, v52, v53]⟩)) 63 (a 7)) 64 v8) 65 (ptr p55 (Nat.add o56 (Nat.mul n59 1)))) 66 v60) 67 (.bool b61)) 68 (.bool b61)) 68 (.bool true)) 69 (a 8)) 68 (.bool true)) 70 v8) 68 (.bool true)) 71 (ptr p62 (Nat.add o63 (Nat.mul n66 1)))) 68 (.bool true)) 72 v67) 68 (.bool true)) 73 (.bool b68)) 74 (.bool b68)) 75 (ptr p29 1)) 76 v69) 77 (.int .u64 (Int.ofNat (Nat.mod n70 2)))) 78 (.int .u64 (Int.ofNat (Nat.mod (Nat.add 2 (Nat.mod n70 2)) 18446744073709551616)))) 12 (.int .u64 (Int.ofNat (Nat.mod (Nat.add 2 (Nat.mod n70 2)) 18446744073709551616)))) 79 (ptr p29 0)) 80 v71) 90 (.bool (eqZ z72 (Int.ofNat 0)))) 89 (.bool (eqZ z72 (Int.ofNat 0)))) 102 (.bool (eqZ z162 (Int.ofNat 1)))) 101 (.bool (eqZ z162 (Int.ofNat 1)))) 103 (a 8)) 104 v8) 105 (.agg ⟨[(.int .i64 (Int.ofNat 3)), (.int .u64 (Int.ofNat 0)), (.int .u64 (Int.ofNat 1073741824)), (.int .u64 (Int.ofNat 0))]⟩)) 106 v163) 107 (ptr p165 (Nat.add o166 (Nat.mul n169 1)))) 13 (.bool false)) 118 (a 7)) 119 v8) 120 (ptr p171 (Nat.add o172 (Nat.mul n175 1)))) 121 v176) 122 (.bool (notB b177))) 130 (a 8)) 131 v8) 132 (ptr p214 (Nat.add o215 (Nat.mul n218 1)))) 133 v219) 134 (a 0)) 135 v8) 136 v220) 13 v220) 137 v220) 27 (a 9)) 28 (.int .i64 (Int.add z249 (Int.ofNat 1)))) 9 (.int .i64 (Int.add z249 (Int.ofNat 1)))) H221)))))))) (
                  AsInt .i64 v71 fun z250 =>
                  Cd (eqZ z250 (Int.ofNat 2)) (
                    Ld H54 p29 4 fun v251 =>
                    Ld H54 p29 5 fun v252 =>
                    Nw H54 (mkRow 188 0 [(.int .i64 (Int.ofNat 0)), (.int .u64 (Int.ofNat (Nat.mod (Nat.add 2 (Nat.mod n70 2)) 18446744073709551616))), v251, v252, (.int .u64 (Int.ofNat 0)), (.int .u64 (Int.ofNat 0)), (.int .u64 (Int.ofNat 0)), (.int .u64 (Int.ofNat 0)), (.int .u64 (Int.ofNat 0)), (.int .u64 (Int.ofNat 0)), (.int .u64 (Int.ofNat 0)), (.int .u64 (Int.ofNat 0)), (.int .u64 (Int.ofNat 0))]) fun p253 H254 =>
                    AsSlc (a 7) fun p255 o256 l257 c258 =>
                    AsCnt v8 fun n259 =>
                    Must (ltN n259 l257) (
                    St H254 p255 (Nat.add o256 (Nat.mul n259 1)) [(ptr p253 0)] fun H260 =>
                    AsSlc (a 7) fun p261 o262 l263 c264 =>
                    AsCnt v8 fun n265 =>
                    Must (ltN n265 l263) (
                    Ld H260 p261 (Nat.add o262 (Nat.mul n265 1)) fun v266 =>
                    IsNil .ptr v266 fun b267 =>
                    Cd (notB b267) (
                      AsSlc (a 7) fun p268 o269 l270 c271 =>
                      AsCnt v8 fun n272 =>
                      Must (ltN n272 l270) (
                      Ld H260 p268 (Nat.add o269 (Nat.mul n272 1)) fun v273 =>
                      Call1 Tryz.prog con 61 [v273, (a 0), v8] H260 fun v274 H275 =>
                      AsBool v274 fun b276 =>
                      Cd b276 (
                        AsSlc (a 7) fun p277 o278 l279 c280 =>
                        AsCnt v8 fun n281 =>
                        Must (ltN n281 l279) (
                        St H275 p277 (Nat.add o278 (Nat.mul n281 1)) [(.pointer none)] fun H282 =>
                        AsSlc (a 8) fun p283 o284 l285 c286 =>
                        AsCnt v8 fun n287 =>
                        Must (ltN n287 l285) (
                        St H282 p283 (Nat.add o284 (Nat.mul n287 1)) [(.pointer none)] fun H288 =>
                        AsSlc (a 6) fun p289 o290 l291 c292 =>
                        AsCnt v8 fun n293 =>
                        Must (ltN n293 l291) (
                        Ld H288 p289 (Nat.add o290 (Nat.mul n293 1)) fun v294 =>
                        AsInt .i64 v294 fun z295 =>
                        InR (Int.add z295 (Int.ofNat 1)) (
                        AsSlc (a 6) fun p296 o297 l298 c299 =>
                        AsCnt v8 fun n300 =>
                        Must (ltN n300 l298) (
                        St H288 p296 (Nat.add o297 (Nat.mul n300 1)) [(.int .i64 (Int.add z295 (Int.ofNat 1)))] fun H301 =>
                        AsInt .i64 (a 9) fun z302 =>
                        InR (Int.add z302 (Int.ofNat 1)) (
                        K .normal (upd (upd (upd (upd (upd (upd (upd (upd (upd (upd (upd (upd (upd (upd (upd (upd (upd (upd (upd (upd (upd (upd (upd (upd (upd (upd (upd (upd (upd (upd (upd (upd (upd (upd (upd (upd (upd (upd (upd (upd (upd (upd (upd (upd (upd (upd (upd (upd (upd (upd (upd (upd (upd (upd (upd (upd (upd (upd (upd (upd (upd (upd (upd (upd (upd (upd (upd (upd (upd (upd (upd (upd (upd (upd (upd (upd (upd (upd (upd (upd (upd (upd (upd (upd (upd (upd (upd (upd (upd (upd (upd (upd (upd (upd (upd (upd (upd (upd (upd (upd (upd (upd (upd (upd (upd (upd (upd (upd (upd (upd (upd (upd (upd (upd (upd (upd (upd (upd (upd (upd (upd (upd a 23 (a 9)) 24 (a 2)) 25 (.int .i64 (Int.ofNat l1))) 26 (.bool (ltZ z2 (Int.ofNat l1)))) 29 (a 2)) 30 (a 9)) 31 (ptr p3 (Nat.add o4 (Nat.mul n7 1)))) 32 v8) 10 v8) 33 v8) 34 (.bool (ltZ z9 (Int.ofNat 0)))) 35 (.bool (ltZ z9 (Int.ofNat 0)))) 35 (.bool false)) 36 v8) 35 (.bool false)) 37 (a 1)) 35 (.bool false)) 38 (.int .i64 (Int.ofNat l11))) 35 (.bool false)) 39 (.bool (leZ (Int.ofNat l11) z12))) 40 (.bool (leZ (Int.ofNat l11) z12))) 41 (.bool (leZ (Int.ofNat l11) z12))) 41 (.bool false)) 42 (a 6)) 41 (.bool false)) 43 v8) 41 (.bool false)) 44 (ptr p14 (Nat.add o15 (Nat.mul n18 1)))) 41 (.bool false)) 45 v19) 41 (.bool false)) 46 (a 1)) 41 (.bool false)) 47 v8) 41 (.bool false)) 48 (ptr p20 (Nat.add o21 (Nat.mul n24 1)))) 41 (.bool false)) 49 v25) 41 (.bool false)) 50 (.int .i64 (Int.ofNat l26))) 41 (.bool false)) 51 (.bool (leZ (Int.ofNat l26) z27))) 52 (.bool (leZ (Int.ofNat l26) z27))) 11 (ptr p29 0)) 53 (a 1)) 54 v8) 55 (ptr p31 (Nat.add o32 (Nat.mul n35 1)))) 56 v36) 57 (a 6)) 58 v8) 59 (ptr p37 (Nat.add o38 (Nat.mul n41 1)))) 60 v42) 61 (ptr p43 (Nat.add o44 (Nat.mul n47 6)))) 62 (.agg ⟨[v48, v49, v50, v51, v52, v53]⟩)) 63 (a 7)) 64 v8) 65 (ptr p55 (Nat.add o56 (Nat.mul n59 1)))) 66 v60) 67 (.bool b61)) 68 (.bool b61)) 68 (.bool true)) 69 (a 8)) 68 (.bool true)) 70 v8) 68 (.bool true)) 71 (ptr p62 (Nat.add o63 (Nat.mul n66 1)))) 68 (.bool true)) 72 v67) 68 (.bool true)) 73 (.bool b68)) 74 (.bool b68)) 75 (ptr p29 1)) 76 v69) 77 (.int .u64 (Int.ofNat (Nat.mod n70 2)))) 78 (.int .u64 (Int.ofNat (Nat.mod (Nat.add 2 (Nat.mod n70 2)) 18446744073709551616)))) 12 (.int .u64 (Int.ofNat (Nat.mod (Nat.add 2 (Nat.mod n70 2)) 18446744073709551616)))) 79 (ptr p29 0)) 80 v71) 90 (.bool (eqZ z72 (Int.ofNat 0)))) 89 (.bool (eqZ z72 (Int.ofNat 0)))) 102 (.bool (eqZ z162 (Int.ofNat 1)))) 101 (.bool (eqZ z162 (Int.ofNat 1)))) 109 (.bool (eqZ z250 (Int.ofNat 2)))) 108 (.bool (eqZ z250 (Int.ofNat 2)))) 110 (a 7)) 111 v8) 112 (.int .u64 (Int.ofNat (Nat.mod (Nat.add 2 (Nat.mod n70 2)) 18446744073709551616)))) 113 (ptr p29 4)) 114 (.agg ⟨[v251, v252]⟩)) 115 (.agg ⟨[(.int .i64 (Int.ofNat 0)), (.int .u64 (Int.ofNat (Nat.mod (Nat.add 2 (Nat.mod n70 2)) 18446744073709551616))), v251, v252, (.int .u64 (Int.ofNat 0)), (.int .u64 (Int.ofNat 0)), (.int .u64 (Int.ofNat 0)), (.int .u64 (Int.ofNat 0)), (.int .u64 (Int.ofNat 0)), (.int .u64 (Int.ofNat 0)), (.int .u64 (Int.ofNat 0)), (.int .u64 (Int.ofNat 0)), (.int .u64 (Int.ofNat 0))]⟩)) 116 (ptr p253 0)) 117 (ptr p255 (Nat.add o256 (Nat.mul n259 1)))) 13 (.bool false)) 118 (a 7)) 119 v8) 120 (ptr p261 (Nat.add o262 (Nat.mul n265 1)))) 121 v266) 122 (.bool (notB b267))) 123 (a 7)) 124 v8) 125 (ptr p268 (Nat.add o269 (Nat.mul n272 1)))) 126 v273) 127 (a 0)) 128 v8) 129 v274) 13 v274) 137 v274) 138 (a 7)) 139 v8) 140 (a 8)) 141 v8) 142 (ptr p277 (Nat.add o278 (Nat.mul n281 1)))) 143 (ptr p283 (Nat.add o284 (Nat.mul n287 1)))) 144 (a 6)) 145 v8) 146 (ptr p289 (Nat.add o290 (Nat.mul n293 1)))) 147 v294) 148 (.int .i64 (Int.add z295 (Int.ofNat 1)))) 149 (ptr p296 (Nat.add o297 (Nat.mul n300 1)))) 27 (a 9)) 28 (.int .i64 (Int.add z302 (Int.ofNat 1)))) 9 (.int .i64 (Int.add z302 (Int.ofNat 1)))) H301))))))) (
                        AsInt .i64 (a 9) fun z303 =>
                        InR (Int.add z303 (Int.ofNat 1)) (
                        K .normal (upd (upd (upd (upd (upd (upd (upd (upd (upd (upd (upd (upd (upd (upd (upd (upd (upd (upd (upd (upd (upd (upd (upd (upd (upd (upd (upd (upd (upd (upd (upd (upd (upd (upd (upd (upd (upd (upd (upd (upd (upd (upd (upd (upd (upd (upd (upd (upd (upd (upd (upd (upd (upd (upd (upd (upd (upd (upd (upd (upd (upd (upd (upd (upd (upd (upd (upd (upd (upd (upd (upd (upd (upd (upd (upd (upd (upd (upd (upd (upd (upd (upd (upd (upd (upd (upd (upd (upd (upd (upd (upd (upd (upd (upd (upd (upd (upd (upd (upd (upd (upd (upd (upd (upd (upd (upd (upd (upd (upd (upd a 23 (a 9)) 24 (a 2)) 25 (.int .i64 (Int.ofNat l1))) 26 (.bool (ltZ z2 (Int.ofNat l1)))) 29 (a 2)) 30 (a 9)) 31 (ptr p3 (Nat.add o4 (Nat.mul n7 1)))) 32 v8) 10 v8) 33 v8) 34 (.bool (ltZ z9 (Int.ofNat 0)))) 35 (.bool (ltZ z9 (Int.ofNat 0)))) 35 (.bool false)) 36 v8) 35 (.bool false)) 37 (a 1)) 35 (.bool false)) 38 (.int .i64 (Int.ofNat l11))) 35 (.bool false)) 39 (.bool (leZ (Int.ofNat l11) z12))) 40 (.bool (leZ (Int.ofNat l11) z12))) 41 (.bool (leZ (Int.ofNat l11) z12))) 41 (.bool false)) 42 (a 6)) 41 (.bool false)) 43 v8) 41 (.bool false)) 44 (ptr p14 (Nat.add o15 (Nat.mul n18 1)))) 41 (.bool false)) 45 v19) 41 (.bool false)) 46 (a 1)) 41 (.bool false)) 47 v8) 41 (.bool false)) 48 (ptr p20 (Nat.add o21 (Nat.mul n24 1)))) 41 (.bool false)) 49 v25) 41 (.bool false)) 50 (.int .i64 (Int.ofNat l26))) 41 (.bool false)) 51 (.bool (leZ (Int.ofNat l26) z27))) 52 (.bool (leZ (Int.ofNat l26) z27))) 11 (ptr p29 0)) 53 (a 1)) 54 v8) 55 (ptr p31 (Nat.add o32 (Nat.mul n35 1)))) 56 v36) 57 (a 6)) 58 v8) 59 (ptr p37 (Nat.add o38 (Nat.mul n41 1)))) 60 v42) 61 (ptr p43 (Nat.add o44 (Nat.mul n47 6)))) 62 (.agg ⟨[v48, v49, v50, v51, v52, v53]⟩)) 63 (a 7)) 64 v8) 65 (ptr p55 (Nat.add o56 (Nat.mul n59 1)))) 66 v60) 67 (.bool b61)) 68 (.bool b61)) 68 (.bool true)) 69 (a 8)) 68 (.bool true)) 70 v8) 68 (.bool true)) 71 (ptr p62 (Nat.add o63 (Nat.mul n66 1)))) 68 (.bool true)) 72 v67) 68 (.bool true)) 73 (.bool b68)) 74 (.bool b68)) 75 (ptr p29 1)) 76 v69) 77 (.int .u64 (Int.ofNat (Nat.mod n70 2)))) 78 (.int .u64 (Int.ofNat (Nat.mod (Nat.add 2 (Nat.mod n70 2)) 18446744073709551616)))) 12 (.int .u64 (Int.ofNat (Nat.mod (Nat.add 2 (Nat.mod n70 2)) 18446744073709551616)))) 79 (ptr p29 0)) 80 v71) 90 (.bool (eqZ z72 (Int.ofNat 0)))) 89 (.bool (eqZ z72 (Int.ofNat 0)))) 102 (.bool (eqZ z162 (Int.ofNat 1)))) 101 (.bool (eqZ z162 (Int.ofNat 1)))) 109 (.bool (eqZ z250 (Int.ofNat 2)))) 108 (.bool (eqZ z250 (Int.ofNat 2)))) 110 (a 7)) 111 v8) 112 (.int .u64 (Int.ofNat (Nat.mod (Nat.add 2 (Nat.mod n70 2)) 18446744073709551616)))) 113 (ptr p29 4)) 114 (.agg ⟨[v251, v252]⟩)) 115 (.agg ⟨[(.int .i64 (Int.ofNat 0)), (.int .u64 (Int.ofNat (Nat.mod (Nat.add 2 (Nat.mod n70 2)) 18446744073709551616))), v251, v252, (.int .u64 (Int.ofNat 0)), (.int .u64 (Int.ofNat 0)), (.int .u64 (Int.ofNat 0)), (.int .u64 (Int.ofNat 0)), (.int .u64 (Int.ofNat 0)), (.int .u64 (Int.ofNat 0)), (.int .u64 (Int.ofNat 0)), (.int .u64 (Int.ofNat 0)), (.int .u64 (Int.ofNat 0))]⟩)) 116 (ptr p253 0)) 117 (ptr p255 (Nat.add o256 (Nat.mul n259 1)))) 13 (.bool false)) 118 (a 7)) 119 v8) 120 (ptr p261 (Nat.add o262 (Nat.mul n265 1)))) 121 v266) 122 (.bool (notB b267))) 123 (a 7)) 124 v8) 125 (ptr p268 (Nat.add o269 (Nat.mul n272 1)))) 126 v273) 127 (a 0)) 128 v8) 129 v274) 13 v274) 137 v274) 27 (a 9)) 28 (.int .i64 (Int.add z303 (Int.ofNat 1)))) 9 (.int .i64 (Int.add z303 (Int.ofNat 1)))) H275)))) (
                      AsSlc (a 8) fun p304 o305 l306 c307 =>
                      AsCnt v8 fun n308 =>
                      Must (ltN n308 l306) (
                      Ld H260 p304 (Nat.add o305 (Nat.mul n308 1)) fun v309 =>
                      Call1 Tryz.prog con 62 [v309, (a 0), v8] H260 fun v310 H311 =>
                      AsBool v310 fun b312 =>
                      Cd b312 (
                        AsSlc (a 7) fun p313 o314 l315 c316 =>
                        AsCnt v8 fun n317 =>
                        Must (ltN n317 l315) (
                        St H311 p313 (Nat.add o314 (Nat.mul n317 1)) [(.pointer none)] fun H318 =>
                        AsSlc (a 8) fun p319 o320 l321 c322 =>
                        AsCnt v8 fun n323 =>
                        Must (ltN n323 l321) (
                        St H318 p319 (Nat.add o320 (Nat.mul n323 1)) [(.pointer none)] fun H324 =>
                        AsSlc (a 6) fun p325 o326 l327 c328 =>
                        AsCnt v8 fun n329 =>
                        Must (ltN n329 l327) (
                        Ld H324 p325 (Nat.add o326 (Nat.mul n329 1)) fun v330 =>
                        AsInt .i64 v330 fun z331 =>
                        InR (Int.add z331 (Int.ofNat 1)) (
                        AsSlc (a 6) fun p332 o333 l334 c335 =>
                        AsCnt v8 fun n336 =>
                        Must (ltN n336 l334) (
                        St H324 p332 (Nat.add o333 (Nat.mul n336 1)) [(.int .i64 (Int.add z331 (Int.ofNat 1)))] fun H337 =>
                        AsInt .i64 (a 9) fun z338 =>
                        InR (Int.add z338 (Int.ofNat 1)) (
                        K .normal (upd (upd (upd (upd (upd (upd (upd (upd (upd (upd (upd (upd (upd (upd (upd (upd (upd (upd (upd (upd (upd (upd (upd (upd (upd (upd (upd (upd (upd (upd (upd (upd (upd (upd (upd (upd (upd (upd (upd (upd (upd (upd (upd (upd (upd (upd (upd (upd (upd (upd (upd (upd (upd (upd (upd (upd (upd (upd (upd (upd (upd (upd (upd (upd (upd (upd (upd (upd (upd (upd (upd (upd (upd (upd (upd (upd (upd (upd (upd (upd (upd (upd (upd (upd (upd (upd (upd (upd (upd (upd (upd (upd (upd (upd (upd (upd (upd (upd (upd (upd (upd (upd (upd (upd (upd (upd (upd (upd (upd (upd (upd (upd (upd (upd (upd (upd (upd (upd (upd (upd (upd (upd a 23 (a 9)) 24 (a 2)) 25 (.int .i64 (Int.ofNat l1))) 26 (.bool (ltZ z2 (Int.ofNat l1)))) 29 (a 2)) 30 (a 9)) 31 (ptr p3 (Nat.add o4 (Nat.mul n7 1)))) 32 v8) 10 v8) 33 v8) 34 (.bool (ltZ z9 (Int.ofNat 0)))) 35 (.bool (ltZ z9 (Int.ofNat 0)))) 35 (.bool false)) 36 v8) 35 (.bool false)) 37 (a 1)) 35 (.bool false)) 38 (.int .i64 (Int.ofNat l11))) 35 (.bool false)) 39 (.bool (leZ (Int.ofNat l11) z12))) 40 (.bool (leZ (Int.ofNat l11) z12))) 41 (.bool (leZ (Int.ofNat l11) z12))) 41 (.bool false)) 42 (a 6)) 41 (.bool false)) 43 v8) 41 (.bool false)) 44 (ptr p14 (Nat.add o15 (Nat.mul n18 1)))) 41 (.bool false)) 45 v19) 41 (.bool false)) 46 (a 1)) 41 (.bool false)) 47 v8) 41 (.bool false)) 48 (ptr p20 (Nat.add o21 (Nat.mul n24 1)))) 41 (.bool false)) 49 v25) 41 (.bool false)) 50 (.int .i64 (Int.ofNat l26))) 41 (.bool false)) 51 (.bool (leZ (Int.ofNat l26) z27))) 52 (.bool (leZ (Int.ofNat l26) z27))) 11 (ptr p29 0)) 53 (a 1)) 54 v8) 55 (ptr p31 (Nat.add o32 (Nat.mul n35 1)))) 56 v36) 57 (a 6)) 58 v8) 59 (ptr p37 (Nat.add o38 (Nat.mul n41 1)))) 60 v42) 61 (ptr p43 (Nat.add o44 (Nat.mul n47 6)))) 62 (.agg ⟨[v48, v49, v50, v51, v52, v53]⟩)) 63 (a 7)) 64 v8) 65 (ptr p55 (Nat.add o56 (Nat.mul n59 1)))) 66 v60) 67 (.bool b61)) 68 (.bool b61)) 68 (.bool true)) 69 (a 8)) 68 (.bool true)) 70 v8) 68 (.bool true)) 71 (ptr p62 (Nat.add o63 (Nat.mul n66 1)))) 68 (.bool true)) 72 v67) 68 (.bool true)) 73 (.bool b68)) 74 (.bool b68)) 75 (ptr p29 1)) 76 v69) 77 (.int .u64 (Int.ofNat (Nat.mod n70 2)))) 78 (.int .u64 (Int.ofNat (Nat.mod (Nat.add 2 (Nat.mod n70 2)) 18446744073709551616)))) 12 (.int .u64 (Int.ofNat (Nat.mod (Nat.add 2 (Nat.mod n70 2)) 18446744073709551616)))) 79 (ptr p29 0)) 80 v71) 90 (.bool (eqZ z72 (Int.ofNat 0)))) 89 (.bool (eqZ z72 (Int.ofNat 0)))) 102 (.bool (eqZ z162 (Int.ofNat 1)))) 101 (.bool (eqZ z162 (Int.ofNat 1)))) 109 (.bool (eqZ z250 (Int.ofNat 2)))) 108 (.bool (eqZ z250 (Int.ofNat 2)))) 110 (a 7)) 111 v8) 112 (.int .u64 (Int.ofNat (Nat.mod (Nat.add 2 (Nat.mod n70 2)) 18446744073709551616)))) 113 (ptr p29 4)) 114 (.agg ⟨[v251, v252]⟩)) 115 (.agg ⟨[(.int .i64 (Int.ofNat 0)), (.int .u64 (Int.ofNat (Nat.mod (Nat.add 2 (Nat.mod n70 2)) 18446744073709551616))), v251, v252, (.int .u64 (Int.ofNat 0)), (.int .u64 (Int.ofNat 0)), (.int .u64 (Int.ofNat 0)), (.int .u64 (Int.ofNat 0)), (.int .u64 (Int.ofNat 0)), (.int .u64 (Int.ofNat 0)), (.int .u64 (Int.ofNat 0)), (.int .u64 (Int.ofNat 0)), (.int .u64 (Int.ofNat 0))]⟩)) 116 (ptr p253 0)) 117 (ptr p255 (Nat.add o256 (Nat.mul n259 1)))) 13 (.bool false)) 118 (a 7)) 119 v8) 120 (ptr p261 (Nat.add o262 (Nat.mul n265 1)))) 121 v266) 122 (.bool (notB b267))) 130 (a 8)) 131 v8) 132 (ptr p304 (Nat.add o305 (Nat.mul n308 1)))) 133 v309) 134 (a 0)) 135 v8) 136 v310) 13 v310) 137 v310) 138 (a 7)) 139 v8) 140 (a 8)) 141 v8) 142 (ptr p313 (Nat.add o314 (Nat.mul n317 1)))) 143 (ptr p319 (Nat.add o320 (Nat.mul n323 1)))) 144 (a 6)) 145 v8) 146 (ptr p325 (Nat.add o326 (Nat.mul n329 1)))) 147 v330) 148 (.int .i64 (Int.add z331 (Int.ofNat 1)))) 149 (ptr p332 (Nat.add o333 (Nat.mul n336 1)))) 27 (a 9)) 28 (.int .i64 (Int.add z338 (Int.ofNat 1)))) 9 (.int .i64 (Int.add z338 (Int.ofNat 1)))) H337))))))) (
                        AsInt .i64 (a 9) fun z339 =>
                        InR (Int.add z339 (Int.ofNat 1)) (
                        K .normal (upd (upd (upd (upd (upd (upd (upd (upd (upd (upd (upd (upd (upd (upd (upd (upd (upd (upd (upd (upd (upd (upd (upd (upd (upd (upd (upd (upd (upd (upd (upd (upd (upd (upd (upd (upd (upd (upd (upd (upd (upd (upd (upd (upd (upd (upd (upd (upd (upd (upd (upd (upd (upd (upd (upd (upd (upd (upd (upd (upd (upd (upd (upd (upd (upd (upd (upd (upd (upd (upd (upd (upd (upd (upd (upd (upd (upd (upd (upd (upd (upd (upd (upd (upd (upd (upd (upd (upd (upd (upd (upd (upd (upd (upd (upd (upd (upd (upd (upd (upd (upd (upd (upd (upd (upd (upd (upd (upd (upd (upd a 23 (a 9)) 24 (a 2)) 25 (.int .i64 (Int.ofNat l1))) 26 (.bool (ltZ z2 (Int.ofNat l1)))) 29 (a 2)) 30 (a 9)) 31 (ptr p3 (Nat.add o4 (Nat.mul n7 1)))) 32 v8) 10 v8) 33 v8) 34 (.bool (ltZ z9 (Int.ofNat 0)))) 35 (.bool (ltZ z9 (Int.ofNat 0)))) 35 (.bool false)) 36 v8) 35 (.bool false)) 37 (a 1)) 35 (.bool false)) 38 (.int .i64 (Int.ofNat l11))) 35 (.bool false)) 39 (.bool (leZ (Int.ofNat l11) z12))) 40 (.bool (leZ (Int.ofNat l11) z12))) 41 (.bool (leZ (Int.ofNat l11) z12))) 41 (.bool false)) 42 (a 6)) 41 (.bool false)) 43 v8) 41 (.bool false)) 44 (ptr p14 (Nat.add o15 (Nat.mul n18 1)))) 41 (.bool false)) 45 v19) 41 (.bool false)) 46 (a 1)) 41 (.bool false)) 47 v8) 41 (.bool false)) 48 (ptr p20 (Nat.add o21 (Nat.mul n24 1)))) 41 (.bool false)) 49 v25) 41 (.bool false)) 50 (.int .i64 (Int.ofNat l26))) 41 (.bool false)) 51 (.bool (leZ (Int.ofNat l26) z27))) 52 (.bool (leZ (Int.ofNat l26) z27))) 11 (ptr p29 0)) 53 (a 1)) 54 v8) 55 (ptr p31 (Nat.add o32 (Nat.mul n35 1)))) 56 v36) 57 (a 6)) 58 v8) 59 (ptr p37 (Nat.add o38 (Nat.mul n41 1)))) 60 v42) 61 (ptr p43 (Nat.add o44 (Nat.mul n47 6)))) 62 (.agg ⟨[v48, v49, v50, v51, v52, v53]⟩)) 63 (a 7)) 64 v8) 65 (ptr p55 (Nat.add o56 (Nat.mul n59 1)))) 66 v60) 67 (.bool b61)) 68 (.bool b61)) 68 (.bool true)) 69 (a 8)) 68 (.bool true)) 70 v8) 68 (.bool true)) 71 (ptr p62 (Nat.add o63 (Nat.mul n66 1)))) 68 (.bool true)) 72 v67) 68 (.bool true)) 73 (.bool b68)) 74 (.bool b68)) 75 (ptr p29 1)) 76 v69) 77 (.int .u64 (Int.ofNat (Nat.mod n70 2)))) 78 (.int .u64 (Int.ofNat (Nat.mod (Nat.add 2 (Nat.mod n70 2)) 18446744073709551616)))) 12 (.int .u64 (Int.ofNat (Nat.mod (Nat.add 2 (Nat.mod n70 2)) 18446744073709551616)))) 79 (ptr p29 0)) 80 v71) 90 (.bool (eqZ z72 (Int.ofNat 0)))) 89 (.bool (eqZ z72 (Int.ofNat 0)))) 102 (.bool (eqZ z162 (Int.ofNat 1)))) 101 (.bool (eqZ z162 (Int.ofNat 1)))) 109 (.bool (eqZ z250 (Int.ofNat 2)))) 108 (.bool (eqZ z250 (Int.ofNat 2)))) 110 (a 7)) 111 v8) 112 (.int .u64 (Int.ofNat (Nat.mod (Nat.add 2 (Nat.mod n70 2)) 18446744073709551616)))) 113 (ptr p29 4)) 114 (.agg ⟨[v251, v252]⟩)) 115 (.agg ⟨[(.int .i64 (Int.ofNat 0)), (.int .u64 (Int.ofNat (Nat.mod (Nat.add 2 (Nat.mod n70 2)) 18446744073709551616))), v251, v252, (.int .u64 (Int.ofNat 0)), (.int .u64 (Int.ofNat 0)), (.int .u64 (Int.ofNat 0)), (.int .u64 (Int.ofNat 0)), (.int .u64 (Int.ofNat 0)), (.int .u64 (Int.ofNat 0)), (.int .u64 (Int.ofNat 0)), (.int .u64 (Int.ofNat 0)), (.int .u64 (Int.ofNat 0))]⟩)) 116 (ptr p253 0)) 117 (ptr p255 (Nat.add o256 (Nat.mul n259 1)))) 13 (.bool false)) 118 (a 7)) 119 v8) 120 (ptr p261 (Nat.add o262 (Nat.mul n265 1)))) 121 v266) 122 (.bool (notB b267))) 130 (a 8)) 131 v8) 132 (ptr p304 (Nat.add o305 (Nat.mul n308 1)))) 133 v309) 134 (a 0)) 135 v8) 136 v310) 13 v310) 137 v310) 27 (a 9)) 28 (.int .i64 (Int.add z339 (Int.ofNat 1)))) 9 (.int .i64 (Int.add z339 (Int.ofNat 1)))) H311))))))) (
                    Ld H54 p29 2 fun v340 =>
                    Sc v340 (Call1 Tryz.prog con 60 [(.agg ⟨[(.int .i64 (Int.ofNat 2)), (.int .u64 (Int.ofNat (Nat.mod (Nat.add 2 (Nat.mod n70 2)) 18446744073709551616))), v340, (.int .u64 (Int.ofNat 0))]⟩), (.int .u64 (Int.ofNat 1))] H54 fun v341 H342 =>
                    AsSlc (a 8) fun p343 o344 l345 c346 =>
                    AsCnt v8 fun n347 =>
                    Must (ltN n347 l345) (
                    Sc v341 (St H342 p343 (Nat.add o344 (Nat.mul n347 1)) [v341] fun H348 =>
                    AsSlc (a 7) fun p349 o350 l351 c352 =>
                    AsCnt v8 fun n353 =>
                    Must (ltN n353 l351) (
                    Ld H348 p349 (Nat.add o350 (Nat.mul n353 1)) fun v354 =>
                    IsNil .ptr v354 fun b355 =>
                    Cd (notB b355) (
                      AsSlc (a 7) fun p356 o357 l358 c359 =>
                      AsCnt v8 fun n360 =>
                      Must (ltN n360 l358) (
                      Ld H348 p356 (Nat.add o357 (Nat.mul n360 1)) fun v361 =>
                      Call1 Tryz.prog con 61 [v361, (a 0), v8] H348 fun v362 H363 =>
                      AsBool v362 fun b364 =>
                      Cd b364 (
                        AsSlc (a 7) fun p365 o366 l367 c368 =>
                        AsCnt v8 fun n369 =>
                        Must (ltN n369 l367) (
                        St H363 p365 (Nat.add o366 (Nat.mul n369 1)) [(.pointer none)] fun H370 =>
                        AsSlc (a 8) fun p371 o372 l373 c374 =>
                        AsCnt v8 fun n375 =>
                        Must (ltN n375 l373) (
                        St H370 p371 (Nat.add o372 (Nat.mul n375 1)) [(.pointer none)] fun H376 =>
                        AsSlc (a 6) fun p377 o378 l379 c380 =>
                        AsCnt v8 fun n381 =>
                        Must (ltN n381 l379) (
                        Ld H376 p377 (Nat.add o378 (Nat.mul n381 1)) fun v382 =>
                        AsInt .i64 v382 fun z383 =>
                        InR (Int.add z383 (Int.ofNat 1)) (
                        AsSlc (a 6) fun p384 o385 l386 c387 =>
                        AsCnt v8 fun n388 =>
                        Must (ltN n388 l386) (
                        St H376 p384 (Nat.add o385 (Nat.mul n388 1)) [(.int .i64 (Int.add z383 (Int.ofNat 1)))] fun H389 =>
                        AsInt .i64 (a 9) fun z390 =>
                        InR (Int.add z390 (Int.ofNat 1)) (
                        K .normal (upd (upd (upd (upd (upd (upd (upd (upd (upd (upd (upd (upd (upd (upd (upd (upd (upd (upd (upd (upd (upd (upd (upd (upd (upd (upd (upd (upd (upd (upd (upd (upd (upd (upd (upd (upd (upd (upd (upd (upd (upd (upd (upd (upd (upd (upd (upd (upd (upd (upd (upd (upd (upd (upd (upd (upd (upd (upd (upd (upd (upd (upd (upd (upd (upd (upd (upd (upd (upd (upd (upd (upd (upd (upd (upd (upd (upd (upd (upd (upd (upd (upd (upd (upd (upd (upd (upd (upd (upd (upd (upd (upd (upd (upd (upd (upd (upd (upd (upd (upd (upd (upd (upd (upd (upd (upd (upd (upd (upd (upd (upd (upd (upd (upd (upd (upd (upd (upd (upd (upd (upd (upd a 23 (a 9)) 24 (a 2)) 25 (.int .i64 (Int.ofNat l1))) 26 (.bool (ltZ z2 (Int.ofNat l1)))) 29 (a 2)) 30 (a 9)) 31 (ptr p3 (Nat.add o4 (Nat.mul n7 1)))) 32 v8) 10 v8) 33 v8) 34 (.bool (ltZ z9 (Int.ofNat 0)))) 35 (.bool (ltZ z9 (Int.ofNat 0)))) 35 (.bool false)) 36 v8) 35 (.bool false)) 37 (a 1)) 35 (.bool false)) 38 (.int .i64 (Int.ofNat l11))) 35 (.bool false)) 39 (.bool (leZ (Int.ofNat l11) z12))) 40 (.bool (leZ (Int.ofNat l11) z12))) 41 (.bool (leZ (Int.ofNat l11) z12))) 41 (.bool false)) 42 (a 6)) 41 (.bool false)) 43 v8) 41 (.bool false)) 44 (ptr p14 (Nat.add o15 (Nat.mul n18 1)))) 41 (.bool false)) 45 v19) 41 (.bool false)) 46 (a 1)) 41 (.bool false)) 47 v8) 41 (.bool false)) 48 (ptr p20 (Nat.add o21 (Nat.mul n24 1)))) 41 (.bool false)) 49 v25) 41 (.bool false)) 50 (.int .i64 (Int.ofNat l26))) 41 (.bool false)) 51 (.bool (leZ (Int.ofNat l26) z27))) 52 (.bool (leZ (Int.ofNat l26) z27))) 11 (ptr p29 0)) 53 (a 1)) 54 v8) 55 (ptr p31 (Nat.add o32 (Nat.mul n35 1)))) 56 v36) 57 (a 6)) 58 v8) 59 (ptr p37 (Nat.add o38 (Nat.mul n41 1)))) 60 v42) 61 (ptr p43 (Nat.add o44 (Nat.mul n47 6)))) 62 (.agg ⟨[v48, v49, v50, v51, v52, v53]⟩)) 63 (a 7)) 64 v8) 65 (ptr p55 (Nat.add o56 (Nat.mul n59 1)))) 66 v60) 67 (.bool b61)) 68 (.bool b61)) 68 (.bool true)) 69 (a 8)) 68 (.bool true)) 70 v8) 68 (.bool true)) 71 (ptr p62 (Nat.add o63 (Nat.mul n66 1)))) 68 (.bool true)) 72 v67) 68 (.bool true)) 73 (.bool b68)) 74 (.bool b68)) 75 (ptr p29 1)) 76 v69) 77 (.int .u64 (Int.ofNat (Nat.mod n70 2)))) 78 (.int .u64 (Int.ofNat (Nat.mod (Nat.add 2 (Nat.mod n70 2)) 18446744073709551616)))) 12 (.int .u64 (Int.ofNat (Nat.mod (Nat.add 2 (Nat.mod n70 2)) 18446744073709551616)))) 79 (ptr p29 0)) 80 v71) 90 (.bool (eqZ z72 (Int.ofNat 0)))) 89 (.bool (eqZ z72 (Int.ofNat 0)))) 102 (.bool (eqZ z162 (Int.ofNat 1)))) 101 (.bool (eqZ z162 (Int.ofNat 1)))) 109 (.bool (eqZ z250 (Int.ofNat 2)))) 108 (.bool (eqZ z250 (Int.ofNat 2)))) 81 (a 8)) 82 v8) 83 (.int .u64 (Int.ofNat (Nat.mod (Nat.add 2 (Nat.mod n70 2)) 18446744073709551616)))) 84 (ptr p29 2)) 85 v340) 86 (.agg ⟨[(.int .i64 (Int.ofNat 2)), (.int .u64 (Int.ofNat (Nat.mod (Nat.add 2 (Nat.mod n70 2)) 18446744073709551616))), v340, (.int .u64 (Int.ofNat 0))]⟩)) 87 v341) 88 (ptr p343 (Nat.add o344 (Nat.mul n347 1)))) 13 (.bool false)) 118 (a 7)) 119 v8) 120 (ptr p349 (Nat.add o350 (Nat.mul n353 1)))) 121 v354) 122 (.bool (notB b355))) 123 (a 7)) 124 v8) 125 (ptr p356 (Nat.add o357 (Nat.mul n360 1)))) 126 v361) 127 (a 0)) 128 v8) 129 v362) 13 v362) 137 v362) 138 (a 7)) 139 v8) 140 (a 8)) 141 v8) 142 (ptr p365 (Nat.add o366 (Nat.mul n369 1)))) 143 (ptr p371 (Nat.add o372 (Nat.mul n375 1)))) 144 (a 6)) 145 v8) 146 (ptr p377 (Nat.add o378 (Nat.mul n381 1)))) 147 v382) 148 (.int .i64 (Int.add z383 (Int.ofNat 1)))) 149 (ptr p384 (Nat.add o385 (Nat.mul n388 1)))) 27 (a 9)) 28 (.int .i64 (Int.add z390 (Int.ofNat 1)))) 9 (.int .i64 (Int.add z390 (Int.ofNat 1)))) H389))))))) (
                        AsInt .i64 (a 9) fun z391 =>
                        InR (Int.add z391 (Int.ofNat 1)) (
                        K .normal (upd (upd (upd (upd (upd (upd (upd (upd (upd (upd (upd (upd (upd (upd (upd (upd (upd (upd (upd (upd (upd (upd (upd (upd (upd (upd (upd (upd (upd (upd (upd (upd (upd (upd (upd (upd (upd (upd (upd (upd (upd (upd (upd (upd (upd (upd (upd (upd (upd (upd (upd (upd (upd (upd (upd (upd (upd (upd (upd (upd (upd (upd (upd (upd (upd (upd (upd (upd (upd (upd (upd (upd (upd (upd (upd (upd (upd (upd (upd (upd (upd (upd (upd (upd (upd (upd (upd (upd (upd (upd (upd (upd (upd (upd (upd (upd (upd (upd (upd (upd (upd (upd (upd (upd (upd (upd (upd (upd (upd (upd a 23 (a 9)) 24 (a 2)) 25 (.int .i64 (Int.ofNat l1))) 26 (.bool (ltZ z2 (Int.ofNat l1)))) 29 (a 2)) 30 (a 9)) 31 (ptr p3 (Nat.add o4 (Nat.mul n7 1)))) 32 v8) 10 v8) 33 v8) 34 (.bool (ltZ z9 (Int.ofNat 0)))) 35 (.bool (ltZ z9 (Int.ofNat 0)))) 35 (.bool false)) 36 v8) 35 (.bool false)) 37 (a 1)) 35 (.bool false)) 38 (.int .i64 (Int.ofNat l11))) 35 (.bool false)) 39 (.bool (leZ (Int.ofNat l11) z12))) 40 (.bool (leZ (Int.ofNat l11) z12))) 41 (.bool (leZ (Int.ofNat l11) z12))) 41 (.bool false)) 42 (a 6)) 41 (.bool false)) 43 v8) 41 (.bool false)) 44 (ptr p14 (Nat.add o15 (Nat.mul n18 1)))) 41 (.bool false)) 45 v19) 41 (.bool false)) 46 (a 1)) 41 (.bool false)) 47 v8) 41 (.bool false)) 48 (ptr p20 (Nat.add o21 (Nat.mul n24 1)))) 41 (.bool false)) 49 v25) 41 (.bool false)) 50 (.int .i64 (Int.ofNat l26))) 41 (.bool false)) 51 (.bool (leZ (Int.ofNat l26) z27))) 52 (.bool (leZ (Int.ofNat l26) z27))) 11 (ptr p29 0)) 53 (a 1)) 54 v8) 55 (ptr p31 (Nat.add o32 (Nat.mul n35 1)))) 56 v36) 57 (a 6)) 58 v8) 59 (ptr p37 (Nat.add o38 (Nat.mul n41 1)))) 60 v42) 61 (ptr p43 (Nat.add o44 (Nat.mul n47 6)))) 62 (.agg ⟨[v48, v49, v50, v51, v52, v53]⟩)) 63 (a 7)) 64 v8) 65 (ptr p55 (Nat.add o56 (Nat.mul n59 1)))) 66 v60) 67 (.bool b61)) 68 (.bool b61)) 68 (.bool true)) 69 (a 8)) 68 (.bool true)) 70 v8) 68 (.bool true)) 71 (ptr p62 (Nat.add o63 (Nat.mul n66 1)))) 68 (.bool true)) 72 v67) 68 (.bool true)) 73 (.bool b68)) 74 (.bool b68)) 75 (ptr p29 1)) 76 v69) 77 (.int .u64 (Int.ofNat (Nat.mod n70 2)))) 78 (.int .u64 (Int.ofNat (Nat.mod (Nat.add 2 (Nat.mod n70 2)) 18446744073709551616)))) 12 (.int .u64 (Int.ofNat (Nat.mod (Nat.add 2 (Nat.mod n70 2)) 18446744073709551616)))) 79 (ptr p29 0)) 80 v71) 90 (.bool (eqZ z72 (Int.ofNat 0)))) 89 (.bool (eqZ z72 (Int.ofNat 0)))) 102 (.bool (eqZ z162 (Int.ofNat 1)))) 101 (.bool (eqZ z162 (Int.ofNat 1)))) 109 (.bool (eqZ z250 (Int.ofNat 2)))) 108 (.bool (eqZ z250 (Int.ofNat 2)))) 81 (a 8)) 82 v8) 83 (.int .u64 (Int.ofNat (Nat.mod (Nat.add 2 (Nat.mod n70 2)) 18446744073709551616)))) 84 (ptr p29 2)) 85 v340) 86 (.agg ⟨[(.int .i64 (Int.ofNat 2)), (.int .u64 (Int.ofNat (Nat.mod (Nat.add 2 (Nat.mod n70 2)) 18446744073709551616))), v340, (.int .u64 (Int.ofNat 0))]⟩)) 87 v341) 88 (ptr p343 (Nat.add o344 (Nat.mul n347 1)))) 13 (.bool false)) 118 (a 7)) 119 v8) 120 (ptr p349 (Nat.add o350 (Nat.mul n353 1)))) 121 v354) 122 (.bool (notB b355))) 123 (a 7)) 124 v8) 125 (ptr p356 (Nat.add o357 (Nat.mul n360 1)))) 126 v361) 127 (a 0)) 128 v8) 129 v362) 13 v362) 137 v362) 27 (a 9)) 28 (.int .i64 (Int.add z391 (Int.ofNat 1)))) 9 (.int .i64 (Int.add z391 (Int.ofNat 1)))) H363)))) (
                      AsSlc (a 8) fun p392 o393 l394 c395 =>
                      AsCnt v8 fun n396 =>
                      Must (ltN n396 l394) (
                      Ld H348 p392 (Nat.add o393 (Nat.mul n396 1)) fun v397 =>
                      Call1 Tryz.prog con 62 [v397, (a 0), v8] H348 fun v398 H399 =>
                      AsBool v398 fun b400 =>
                      Cd b400 (
                        AsSlc (a 7) fun p401 o402 l403 c404 =>
                        AsCnt v8 fun n405 =>
                        Must (ltN n405 l403) (
                        St H399 p401 (Nat.add o402 (Nat.mul n405 1)) [(.pointer none)] fun H406 =>
                        AsSlc (a 8) fun p407 o408 l409 c410 =>
                        AsCnt v8 fun n411 =>
                        Must (ltN n411 l409) (
                        St H406 p407 (Nat.add o408 (Nat.mul n411 1)) [(.pointer none)] fun H412 =>
                        AsSlc (a 6) fun p413 o414 l415 c416 =>
                        AsCnt v8 fun n417 =>
                        Must (ltN n417 l415) (
                        Ld H412 p413 (Nat.add o414 (Nat.mul n417 1)) fun v418 =>
                        AsInt .i64 v418 fun z419 =>
                        InR (Int.add z419 (Int.ofNat 1)) (
                        AsSlc (a 6) fun p420 o421 l422 c423 =>
                        AsCnt v8 fun n424 =>
                        Must (ltN n424 l422) (
                        St H412 p420 (Nat.add o421 (Nat.mul n424 1)) [(.int .i64 (Int.add z419 (Int.ofNat 1)))] fun H425 =>
                        AsInt .i64 (a 9) fun z426 =>
                        InR (Int.add z426 (Int.ofNat 1)) (
                        K .normal (upd (upd (upd (upd (upd (upd (upd (upd (upd (upd (upd (upd (upd (upd (upd (upd (upd (upd (upd (upd (upd (upd (upd (upd (upd (upd (upd (upd (upd (upd (upd (upd (upd (upd (upd (upd (upd (upd (upd (upd (upd (upd (upd (upd (upd (upd (upd (upd (upd (upd (upd (upd (upd (upd (upd (upd (upd (upd (upd (upd (upd (upd (upd (upd (upd (upd (upd (upd (upd (upd (upd (upd (upd (upd (upd (upd (upd (upd (upd (upd (upd (upd (upd (upd (upd (upd (upd (upd (upd (upd (upd (upd (upd (upd (upd (upd (upd (upd (upd (upd (upd (upd (upd (upd (upd (upd (upd (upd (upd (upd (upd (upd (upd (upd (upd (upd (upd (upd (upd (upd (upd (upd a 23 (a 9)) 24 (a 2)) 25 (.int .i64 (Int.ofNat l1))) 26 (.bool (ltZ z2 (Int.ofNat l1)))) 29 (a 2)) 30 (a 9)) 31 (ptr p3 (Nat.add o4 (Nat.mul n7 1)))) 32 v8) 10 v8) 33 v8) 34 (.bool (ltZ z9 (Int.ofNat 0)))) 35 (.bool (ltZ z9 (Int.ofNat 0)))) 35 (.bool false)) 36 v8) 35 (.bool false)) 37 (a 1)) 35 (.bool false)) 38 (.int .i64 (Int.ofNat l11))) 35 (.bool false)) 39 (.bool (leZ (Int.ofNat l11) z12))) 40 (.bool (leZ (Int.ofNat l11) z12))) 41 (.bool (leZ (Int.ofNat l11) z12))) 41 (.bool false)) 42 (a 6)) 41 (.bool false)) 43 v8) 41 (.bool false)) 44 (ptr p14 (Nat.add o15 (Nat.mul n18 1)))) 41 (.bool false)) 45 v19) 41 (.bool false)) 46 (a 1)) 41 (.bool false)) 47 v8) 41 (.bool false)) 48 (ptr p20 (Nat.add o21 (Nat.mul n24 1)))) 41 (.bool false)) 49 v25) 41 (.bool false)) 50 (.int .i64 (Int.ofNat l26))) 41 (.bool false)) 51 (.bool (leZ (Int.ofNat l26) z27))) 52 (.bool (leZ (Int.ofNat l26) z27))) 11 (ptr p29 0)) 53 (a 1)) 54 v8) 55 (ptr p31 (Nat.add o32 (Nat.mul n35 1)))) 56 v36) 57 (a 6)) 58 v8) 59 (ptr p37 (Nat.add o38 (Nat.mul n41 1)))) 60 v42) 61 (ptr p43 (Nat.add o44 (Nat.mul n47 6)))) 62 (.agg ⟨[v48, v49, v50, v51, v52, v53]⟩)) 63 (a 7)) 64 v8) 65 (ptr p55 (Nat.add o56 (Nat.mul n59 1)))) 66 v60) 67 (.bool b61)) 68 (.bool b61)) 68 (.bool true)) 69 (a 8)) 68 (.bool true)) 70 v8) 68 (.bool true)) 71 (ptr p62 (Nat.add o63 (Nat.mul n66 1)))) 68 (.bool true)) 72 v67) 68 (.bool true)) 73 (.bool b68)) 74 (.bool b68)) 75 (ptr p29 1)) 76 v69) 77 (.int .u64 (Int.ofNat (Nat.mod n70 2)))) 78 (.int .u64 (Int.ofNat (Nat.mod (Nat.add 2 (Nat.mod n70 2)) 18446744073709551616)))) 12 (.int .u64 (Int.ofNat (Nat.mod (Nat.add 2 (Nat.mod n70 2)) 18446744073709551616)))) 79 (ptr p29 0)) 80 v71) 90 (.bool (eqZ z72 (Int.ofNat 0)))) 89 (.bool (eqZ z72 (Int.ofNat 0)))) 102 (.bool (eqZ z162 (Int.ofNat 1)))) 101 (.bool (eqZ z162 (Int.ofNat 1)))) 109 (.bool (eqZ z250 (Int.ofNat 2)))) 108 (.bool (eqZ z250 (Int.ofNat 2)))) 81 (a 8)) 82 v8) 83 (.int .u64 (Int.ofNat (Nat.mod (Nat.add 2 (Nat.mod n70 2)) 18446744073709551616)))) 84 (ptr p29 2)) 85 v340) 86 (.agg ⟨[(.int .i64 (Int.ofNat 2)), (.int .u64 (Int.ofNat (Nat.mod (Nat.add 2 (Nat.mod n70 2)) 18446744073709551616))), v340, (.int .u64 (Int.ofNat 0))]⟩)) 87 v341) 88 (ptr p343 (Nat.add o344 (Nat.mul n347 1)))) 13 (.bool false)) 118 (a 7)) 119 v8) 120 (ptr p349 (Nat.add o350 (Nat.mul n353 1)))) 121 v354) 122 (.bool (notB b355))) 130 (a 8)) 131 v8) 132 (ptr p392 (Nat.add o393 (Nat.mul n396 1)))) 133 v397) 134 (a 0)) 135 v8) 136 v398) 13 v398) 137 v398) 138 (a 7)) 139 v8) 140 (a 8)) 141 v8) 142 (ptr p401 (Nat.add o402 (Nat.mul n405 1)))) 143 (ptr p407 (Nat.add o408 (Nat.mul n411 1)))) 144 (a 6)) 145 v8) 146 (ptr p413 (Nat.add o414 (Nat.mul n417 1)))) 147 v418) 148 (.int .i64 (Int.add z419 (Int.ofNat 1)))) 149 (ptr p420 (Nat.add o421 (Nat.mul n424 1)))) 27 (a 9)) 28 (.int .i64 (Int.add z426 (Int.ofNat 1)))) 9 (.int .i64 (Int.add z426 (Int.ofNat 1)))) H425))))))) (
                        AsInt .i64 (a 9) fun z427 =>
                        InR (Int.add z427 (Int.ofNat 1)) (
                        K .normal (upd (upd (upd (upd (upd (upd (upd (upd (upd (upd (upd (upd (upd (upd (upd (upd (upd (upd (upd (upd (upd (upd (upd (upd (upd (upd (upd (upd (upd (upd (upd (upd (upd (upd (upd (upd (upd (upd (upd (upd (upd (upd (upd (upd (upd (upd (upd (upd (upd (upd (upd (upd (upd (upd (upd (upd (upd (upd (upd (upd (upd (upd (upd (upd (upd (upd (upd (upd (upd (upd (upd (upd (upd (upd (upd (upd (upd (upd (upd (upd (upd (upd (upd (upd (upd (upd (upd (upd (upd (upd (upd (upd (upd (upd (upd (upd (upd (upd (upd (upd (upd (upd (upd (upd (upd (upd (upd (upd (upd (upd a 23 (a 9)) 24 (a 2)) 25 (.int .i64 (Int.ofNat l1))) 26 (.bool (ltZ z2 (Int.ofNat l1)))) 29 (a 2)) 30 (a 9)) 31 (ptr p3 (Nat.add o4 (Nat.mul n7 1)))) 32 v8) 10 v8) 33 v8) 34 (.bool (ltZ z9 (Int.ofNat 0)))) 35 (.bool (ltZ z9 (Int.ofNat 0)))) 35 (.bool false)) 36 v8) 35 (.bool false)) 37 (a 1)) 35 (.bool false)) 38 (.int .i64 (Int.ofNat l11))) 35 (.bool false)) 39 (.bool (leZ (Int.ofNat l11) z12))) 40 (.bool (leZ (Int.ofNat l11) z12))) 41 (.bool (leZ (Int.ofNat l11) z12))) 41 (.bool false)) 42 (a 6)) 41 (.bool false)) 43 v8) 41 (.bool false)) 44 (ptr p14 (Nat.add o15 (Nat.mul n18 1)))) 41 (.bool false)) 45 v19) 41 (.bool false)) 46 (a 1)) 41 (.bool false)) 47 v8) 41 (.bool false)) 48 (ptr p20 (Nat.add o21 (Nat.mul n24 1)))) 41 (.bool false)) 49 v25) 41 (.bool false)) 50 (.int .i64 (Int.ofNat l26))) 41 (.bool false)) 51 (.bool (leZ (Int.ofNat l26) z27))) 52 (.bool (leZ (Int.ofNat l26) z27))) 11 (ptr p29 0)) 53 (a 1)) 54 v8) 55 (ptr p31 (Nat.add o32 (Nat.mul n35 1)))) 56 v36) 57 (a 6)) 58 v8) 59 (ptr p37 (Nat.add o38 (Nat.mul n41 1)))) 60 v42) 61 (ptr p43 (Nat.add o44 (Nat.mul n47 6)))) 62 (.agg ⟨[v48, v49, v50, v51, v52, v53]⟩)) 63 (a 7)) 64 v8) 65 (ptr p55 (Nat.add o56 (Nat.mul n59 1)))) 66 v60) 67 (.bool b61)) 68 (.bool b61)) 68 (.bool true)) 69 (a 8)) 68 (.bool true)) 70 v8) 68 (.bool true)) 71 (ptr p62 (Nat.add o63 (Nat.mul n66 1)))) 68 (.bool true)) 72 v67) 68 (.bool true)) 73 (.bool b68)) 74 (.bool b68)) 75 (ptr p29 1)) 76 v69) 77 (.int .u64 (Int.ofNat (Nat.mod n70 2)))) 78 (.int .u64 (Int.ofNat (Nat.mod (Nat.add 2 (Nat.mod n70 2)) 18446744073709551616)))) 12 (.int .u64 (Int.ofNat (Nat.mod (Nat.add 2 (Nat.mod n70 2)) 18446744073709551616)))) 79 (ptr p29 0)) 80 v71) 90 (.bool (eqZ z72 (Int.ofNat 0)))) 89 (.bool (eqZ z72 (Int.ofNat 0)))) 102 (.bool (eqZ z162 (Int.ofNat 1)))) 101 (.bool (eqZ z162 (Int.ofNat 1)))) 109 (.bool (eqZ z250 (Int.ofNat 2)))) 108 (.bool (eqZ z250 (Int.ofNat 2)))) 81 (a 8)) 82 v8) 83 (.int .u64 (Int.ofNat (Nat.mod (Nat.add 2 (Nat.mod n70 2)) 18446744073709551616)))) 84 (ptr p29 2)) 85 v340) 86 (.agg ⟨[(.int .i64 (Int.ofNat 2)), (.int .u64 (Int.ofNat (Nat.mod (Nat.add 2 (Nat.mod n70 2)) 18446744073709551616))), v340, (.int .u64 (Int.ofNat 0))]⟩)) 87 v341) 88 (ptr p343 (Nat.add o344 (Nat.mul n347 1)))) 13 (.bool false)) 118 (a 7)) 119 v8) 120 (ptr p349 (Nat.add o350 (Nat.mul n353 1)))) 121 v354) 122 (.bool (notB b355))) 130 (a 8)) 131 v8) 132 (ptr p392 (Nat.add o393 (Nat.mul n396 1)))) 133 v397) 134 (a 0)) 135 v8) 136 v398) 13 v398) 137 v398) 27 (a 9)) 28 (.int .i64 (Int.add z427 (Int.ofNat 1)))) 9 (.int .i64 (Int.add z427 (Int.ofNat 1)))) H399)))))))))))) (
              AsSlc (a 7) fun p428 o429 l430 c431 =>
              AsCnt v8 fun n432 =>
              Must (ltN n432 l430) (
              Ld H54 p428 (Nat.add o429 (Nat.mul n432 1)) fun v433 =>
              IsNil .ptr v433 fun b434 =>
              Cd (notB b434) (
                AsSlc (a 7) fun p435 o436 l437 c438 =>
                AsCnt v8 fun n439 =>
                Must (ltN n439 l437) (
                Ld H54 p435 (Nat.add o436 (Nat.mul n439 1)) fun v440 =>
                Call1 Tryz.prog con 61 [v440, (a 0), v8] H54 fun v441 H442 =>
                AsBool v441 fun b443 =>
                Cd b443 (
                  AsSlc (a 7) fun p444 o445 l446 c447 =>
                  AsCnt v8 fun n448 =>
                  Must (ltN n448 l446) (
                  St H442 p444 (Nat.add o445 (Nat.mul n448 1)) [(.pointer none)] fun H449 =>
                  AsSlc (a 8) fun p450 o451 l452 c453 =>
                  AsCnt v8 fun n454 =>
                  Must (ltN n454 l452) (
                  St H449 p450 (Nat.add o451 (Nat.mul n454 1)) [(.pointer none)] fun H455 =>
                  AsSlc (a 6) fun p456 o457 l458 c459 =>
                  AsCnt v8 fun n460 =>
                  Must (ltN n460 l458) (
                  Ld H455 p456 (Nat.add o457 (Nat.mul n460 1)) fun v461 =>
                  AsInt .i64 v461 fun z462 =>
                  InR (Int.add z462 (Int.ofNat 1)) (
                  AsSlc (a 6) fun p463 o464 l465 c466 =>
                  AsCnt v8 fun n467 =>
                  Must (ltN n467 l465) (
                  St H455 p463 (Nat.add o464 (Nat.mul n467 1)) [(.int .i64 (Int.add z462 (Int.ofNat 1)))] fun H468 =>
                  AsInt .i64 (a 9) fun z469 =>
                  InR (Int.add z469 (Int.ofNat 1)) (
                  K .normal (upd (upd (upd (upd (upd (upd (upd (upd (upd (upd (upd (upd (upd (upd (upd (upd (upd (upd (upd (upd (upd (upd (upd (upd (upd (upd (upd (upd (upd (upd (upd (upd (upd (upd (upd (upd (upd (upd (upd (upd (upd (upd (upd (upd (upd (upd (upd (upd (upd (upd (upd (upd (upd (upd (upd (upd (upd (upd (upd (upd (upd (upd (upd (upd (upd (upd (upd (upd (upd (upd (upd (upd (upd (upd (upd (upd (upd (upd (upd (upd (upd (upd (upd (upd (upd (upd (upd (upd (upd (upd (upd (upd (upd (upd (upd (upd (upd (upd (upd (upd (upd a 23 (a 9)) 24 (a 2)) 25 (.int .i64 (Int.ofNat l1))) 26 (.bool (ltZ z2 (Int.ofNat l1)))) 29 (a 2)) 30 (a 9)) 31 (ptr p3 (Nat.add o4 (Nat.mul n7 1)))) 32 v8) 10 v8) 33 v8) 34 (.bool (ltZ z9 (Int.ofNat 0)))) 35 (.bool (ltZ z9 (Int.ofNat 0)))) 35 (.bool false)) 36 v8) 35 (.bool false)) 37 (a 1)) 35 (.bool false)) 38 (.int .i64 (Int.ofNat l11))) 35 (.bool false)) 39 (.bool (leZ (Int.ofNat l11) z12))) 40 (.bool (leZ (Int.ofNat l11) z12))) 41 (.bool (leZ (Int.ofNat l11) z12))) 41 (.bool false)) 42 (a 6)) 41 (.bool false)) 43 v8) 41 (.bool false)) 44 (ptr p14 (Nat.add o15 (Nat.mul n18 1)))) 41 (.bool false)) 45 v19) 41 (.bool false)) 46 (a 1)) 41 (.bool false)) 47 v8) 41 (.bool false)) 48 (ptr p20 (Nat.add o21 (Nat.mul n24 1)))) 41 (.bool false)) 49 v25) 41 (.bool false)) 50 (.int .i64 (Int.ofNat l26))) 41 (.bool false)) 51 (.bool (leZ (Int.ofNat l26) z27))) 52 (.bool (leZ (Int.ofNat l26) z27))) 11 (ptr p29 0)) 53 (a 1)) 54 v8) 55 (ptr p31 (Nat.add o32 (Nat.mul n35 1)))) 56 v36) 57 (a 6)) 58 v8) 59 (ptr p37 (Nat.add o38 (Nat.mul n41 1)))) 60 v42) 61 (ptr p43 (Nat.add o44 (Nat.mul n47 6)))) 62 (.agg ⟨[v48, v49, v50, v51, v52, v53]⟩)) 63 (a 7)) 64 v8) 65 (ptr p55 (Nat.add o56 (Nat.mul n59 1)))) 66 v60) 67 (.bool b61)) 68 (.bool b61)) 68 (.bool true)) 69 (a 8)) 68 (.bool true)) 70 v8) 68 (.bool true)) 71 (ptr p62 (Nat.add o63 (Nat.mul n66 1)))) 68 (.bool true)) 72 v67) 68 (.bool true)) 73 (.bool b68)) 74 (.bool b68)) 13 (.bool false)) 118 (a 7)) 119 v8) 120 (ptr p428 (Nat.add o429 (Nat.mul n432 1)))) 121 v433) 122 (.bool (notB b434))) 123 (a 7)) 124 v8) 125 (ptr p435 (Nat.add o436 (Nat.mul n439 1)))) 126 v440) 127 (a 0)) 128 v8) 129 v441) 13 v441) 137 v441) 138 (a 7)) 139 v8) 140 (a 8)) 141 v8) 142 (ptr p444 (Nat.add o445 (Nat.mul n448 1)))) 143 (ptr p450 (Nat.add o451 (Nat.mul n454 1)))) 144 (a 6)) 145 v8) 146 (ptr p456 (Nat.add o457 (Nat.mul n460 1)))) 147 v461) 148 (.int .i64 (Int.add z462 (Int.ofNat 1)))) 149 (ptr p463 (Nat.add o464 (Nat.mul n467 1)))) 27 (a 9)) 28 (.int .i64 (Int.add z469 (Int.ofNat 1)))) 9 (.int .i64 (Int.add z469 (Int.ofNat 1)))) H468))))))) (
                  AsInt .i64 (a 9) fun z470 =>
                  InR (Int.add z470 (Int.ofNat 1)) (
                  K .normal (upd (upd (upd (upd (upd (upd (upd (upd (upd (upd (upd (upd (upd (upd (upd (upd (upd (upd (upd (upd (upd (upd (upd (upd (upd (upd (upd (upd (upd (upd (upd (upd (upd (upd (upd (upd (upd (upd (upd (upd (upd (upd (upd (upd (upd (upd (upd (upd (upd (upd (upd (upd (upd (upd (upd (upd (upd (upd (upd (upd (upd (upd (upd (upd (upd (upd (upd (upd (upd (upd (upd (upd (upd (upd (upd (upd (upd (upd (upd (upd (upd (upd (upd (upd (upd (upd (upd (upd (upd a 23 (a 9)) 24 (a 2)) 25 (.int .i64 (Int.ofNat l1))) 26 (.bool (ltZ z2 (Int.ofNat l1)))) 29 (a 2)) 30 (a 9)) 31 (ptr p3 (Nat.add o4 (Nat.mul n7 1)))) 32 v8) 10 v8) 33 v8) 34 (.bool (ltZ z9 (Int.ofNat 0)))) 35 (.bool (ltZ z9 (Int.ofNat 0)))) 35 (.bool false)) 36 v8) 35 (.bool false)) 37 (a 1)) 35 (.bool false)) 38 (.int .i64 (Int.ofNat l11))) 35 (.bool false)) 39 (.bool (leZ (Int.ofNat l11) z12))) 40 (.bool (leZ (Int.ofNat l11) z12))) 41 (.bool (leZ (Int.ofNat l11) z12))) 41 (.bool false)) 42 (a 6)) 41 (.bool false)) 43 v8) 41 (.bool false)) 44 (ptr p14 (Nat.add o15 (Nat.mul n18 1)))) 41 (.bool false)) 45 v19) 41 (.bool false)) 46 (a 1)) 41 (.bool false)) 47 v8) 41 (.bool false)) 48 (ptr p20 (Nat.add o21 (Nat.mul n24 1)))) 41 (.bool false)) 49 v25) 41 (.bool false)) 50 (.int .i64 (Int.ofNat l26))) 41 (.bool false)) 51 (.bool (leZ (Int.ofNat l26) z27))) 52 (.bool (leZ (Int.ofNat l26) z27))) 11 (ptr p29 0)) 53 (a 1)) 54 v8) 55 (ptr p31 (Nat.add o32 (Nat.mul n35 1)))) 56 v36) 57 (a 6)) 58 v8) 59 (ptr p37 (Nat.add o38 (Nat.mul n41 1)))) 60 v42) 61 (ptr p43 (Nat.add o44 (Nat.mul n47 6)))) 62 (.agg ⟨[v48, v49, v50, v51, v52, v53]⟩)) 63 (a 7)) 64 v8) 65 (ptr p55 (Nat.add o56 (Nat.mul n59 1)))) 66 v60) 67 (.bool b61)) 68 (.bool b61)) 68 (.bool true)) 69 (a 8)) 68 (.bool true)) 70 v8) 68 (.bool true)) 71 (ptr p62 (Nat.add o63 (Nat.mul n66 1)))) 68 (.bool true)) 72 v67) 68 (.bool true)) 73 (.bool b68)) 74 (.bool b68)) 13 (.bool false)) 118 (a 7)) 119 v8) 120 (ptr p428 (Nat.add o429 (Nat.mul n432 1)))) 121 v433) 122 (.bool (notB b434))) 123 (a 7)) 124 v8) 125 (ptr p435 (Nat.add o436 (Nat.mul n439 1)))) 126 v440) 127 (a 0)) 128 v8) 129 v441) 13 v441) 137 v441) 27 (a 9)) 28 (.int .i64 (Int.add z470 (Int.ofNat 1)))) 9 (.int .i64 (Int.add z470 (Int.ofNat 1)))) H442)))) (
                AsSlc (a 8) fun p471 o472 l473 c474 =>
                AsCnt v8 fun n475 =>
                Must (ltN n475 l473) (
                Ld H54 p471 (Nat.add o472 (Nat.mul n475 1)) fun v476 =>
                Call1 Tryz.prog con 62 [v476, (a 0), v8] H54 fun v477 H478 =>
                AsBool v477 fun b479 =>
                Cd b479 (
                  AsSlc (a 7) fun p480 o481 l482 c483 =>
                  AsCnt v8 fun n484 =>
                  Must (ltN n484 l482) (
                  St H478 p480 (Nat.add o481 (Nat.mul n484 1)) [(.pointer none)] fun H485 =>
                  AsSlc (a 8) fun p486 o487 l488 c489 =>
                  AsCnt v8 fun n490 =>
                  Must (ltN n490 l488) (
                  St H485 p486 (Nat.add o487 (Nat.mul n490 1)) [(.pointer none)] fun H491 =>
                  AsSlc (a 6) fun p492 o493 l494 c495 =>
                  AsCnt v8 fun n496 =>
                  Must (ltN n496 l494) (
                  Ld H491 p492 (Nat.add o493 (Nat.mul n496 1)) fun v497 =>
                  AsInt .i64 v497 fun z498 =>
                  InR (Int.add z498 (Int.ofNat 1)) (
                  AsSlc (a 6) fun p499 o500 l501 c502 =>
                  AsCnt v8 fun n503 =>
                  Must (ltN n503 l501) (
                  St H491 p499 (Nat.add o500 (Nat.mul n503 1)) [(.int .i64 (Int.add z498 (Int.ofNat 1)))] fun H504 =>
                  AsInt .i64 (a 9) fun z505 =>
                  InR (Int.add z505 (Int.ofNat 1)) (
                  K .normal (upd (upd (upd (upd (upd (upd (upd (upd (upd (upd (upd (upd (upd (upd (upd (upd (upd (upd (upd (upd (upd (upd (upd (upd (upd (upd (upd (upd (upd (upd (upd (upd (upd (upd (upd (upd (upd (upd (upd (upd (upd (upd (upd (upd (upd (upd (upd (upd (upd (upd (upd (upd (upd (upd (upd (upd (upd (upd (upd (upd (upd (upd (upd (upd (upd (upd (upd (upd (upd (upd (upd (upd (upd (upd (upd (upd (upd (upd (upd (upd (upd (upd (upd (upd (upd (upd (upd (upd (upd (upd (upd (upd (upd (upd (upd (upd (upd (upd (upd (upd (upd a 23 (a 9)) 24 (a 2)) 25 (.int .i64 (Int.ofNat l1))) 26 (.bool (ltZ z2 (Int.ofNat l1)))) 29 (a 2)) 30 (a 9)) 31 (ptr p3 (Nat.add o4 (Nat.mul n7 1)))) 32 v8) 10 v8) 33 v8) 34 (.bool (ltZ z9 (Int.ofNat 0)))) 35 (.bool (ltZ z9 (Int.ofNat 0)))) 35 (.bool false)) 36 v8) 35 (.bool false)) 37 (a 1)) 35 (.bool false)) 38 (.int .i64 (Int.ofNat l11))) 35 (.bool false)) 39 (.bool (leZ (Int.ofNat l11) z12))) 40 (.bool (leZ (Int.ofNat l11) z12))) 41 (.bool (leZ (Int.ofNat l11) z12))) 41 (.bool false)) 42 (a 6)) 41 (.bool false)) 43 v8) 41 (.bool false)) 44 (ptr p14 (Nat.add o15 (Nat.mul n18 1)))) 41 (.bool false)) 45 v19) 41 (.bool false)) 46 (a 1)) 41 (.bool false)) 47 v8) 41 (.bool false)) 48 (ptr p20 (Nat.add o21 (Nat.mul n24 1)))) 41 (.bool false)) 49 v25) 41 (.bool false)) 50 (.int .i64 (Int.ofNat l26))) 41 (.bool false)) 51 (.bool (leZ (Int.ofNat l26) z27))) 52 (.bool (leZ (Int.ofNat l26) z27))) 11 (ptr p29 0)) 53 (a 1)) 54 v8) 55 (ptr p31 (Nat.add o32 (Nat.mul n35 1)))) 56 v36) 57 (a 6)) 58 v8) 59 (ptr p37 (Nat.add o38 (Nat.mul n41 1)))) 60 v42) 61 (ptr p43 (Nat.add o44 (Nat.mul n47 6)))) 62 (.agg ⟨[v48, v49, v50, v51, v52, v53]⟩)) 63 (a 7)) 64 v8) 65 (ptr p55 (Nat.add o56 (Nat.mul n59 1)))) 66 v60) 67 (.bool b61)) 68 (.bool b61)) 68 (.bool true)) 69 (a 8)) 68 (.bool true)) 70 v8) 68 (.bool true)) 71 (ptr p62 (Nat.add o63 (Nat.mul n66 1)))) 68 (.bool true)) 72 v67) 68 (.bool true)) 73 (.bool b68)) 74 (.bool b68)) 13 (.bool false)) 118 (a 7)) 119 v8) 120 (ptr p428 (Nat.add o429 (Nat.mul n432 1)))) 121 v433) 122 (.bool (notB b434))) 130 (a 8)) 131 v8) 132 (ptr p471 (Nat.add o472 (Nat.mul n475 1)))) 133 v476) 134 (a 0)) 135 v8) 136 v477) 13 v477) 137 v477) 138 (a 7)) 139 v8) 140 (a 8)) 141 v8) 142 (ptr p480 (Nat.add o481 (Nat.mul n484 1)))) 143 (ptr p486 (Nat.add o487 (Nat.mul n490 1)))) 144 (a 6)) 145 v8) 146 (ptr p492 (Nat.add o493 (Nat.mul n496 1)))) 147 v497) 148 (.int .i64 (Int.add z498 (Int.ofNat 1)))) 149 (ptr p499 (Nat.add o500 (Nat.mul n503 1)))) 27 (a 9)) 28 (.int .i64 (Int.add z505 (Int.ofNat 1)))) 9 (.int .i64 (Int.add z505 (Int.ofNat 1)))) H504))))))) (
                  AsInt .i64 (a 9) fun z506 =>
                  InR (Int.add z506 (Int.ofNat 1)) (
                  K .normal (upd (upd (upd (upd (upd (upd (upd (upd (upd (upd (upd (upd (upd (upd (upd (upd (upd (upd (upd (upd (upd (upd (upd (upd (upd (upd (upd (upd (upd (upd (upd (upd (upd (upd (upd (upd (upd (upd (upd (upd (upd (upd (upd (upd (upd (upd (upd (upd (upd (upd (upd (upd (upd (upd (upd (upd (upd (upd (upd (upd (upd (upd (upd (upd (upd (upd (upd (upd (upd (upd (upd (upd (upd (upd (upd (upd (upd (upd (upd (upd (upd (upd (upd (upd (upd (upd (upd (upd (upd a 23 (a 9)) 24 (a 2)) 25 (.int .i64 (Int.ofNat l1))) 26 (.bool (ltZ z2 (Int.ofNat l1)))) 29 (a 2)) 30 (a 9)) 31 (ptr p3 (Nat.add o4 (Nat.mul n7 1)))) 32 v8) 10 v8) 33 v8) 34 (.bool (ltZ z9 (Int.ofNat 0)))) 35 (.bool (ltZ z9 (Int.ofNat 0)))) 35 (.bool false)) 36 v8) 35 (.bool false)) 37 (a 1)) 35 (.bool false)) 38 (.int .i64 (Int.ofNat l11))) 35 (.bool false)) 39 (.bool (leZ (Int.ofNat l11) z12))) 40 (.bool (leZ (Int.ofNat l11) z12))) 41 (.bool (leZ (Int.ofNat l11) z12))) 41 (.bool false)) 42 (a 6)) 41 (.bool false)) 43 v8) 41 (.bool false)) 44 (ptr p14 (Nat.add o15 (Nat.mul n18 1)))) 41 (.bool false)) 45 v19) 41 (.bool false)) 46 (a 1)) 41 (.bool false)) 47 v8) 41 (.bool false)) 48 (ptr p20 (Nat.add o21 (Nat.mul n24 1)))) 41 (.bool false)) 49 v25) 41 (.bool false)) 50 (.int .i64 (Int.ofNat l26))) 41 (.bool false)) 51 (.bool (leZ (Int.ofNat l26) z27))) 52 (.bool (leZ (Int.ofNat l26) z27))) 11 (ptr p29 0)) 53 (a 1)) 54 v8) 55 (ptr p31 (Nat.add o32 (Nat.mul n35 1)))) 56 v36) 57 (a 6)) 58 v8) 59 (ptr p37 (Nat.add o38 (Nat.mul n41 1)))) 60 v42) 61 (ptr p43 (Nat.add o44 (Nat.mul n47 6)))) 62 (.agg ⟨[v48, v49, v50, v51, v52, v53]⟩)) 63 (a 7)) 64 v8) 65 (ptr p55 (Nat.add o56 (Nat.mul n59 1)))) 66 v60) 67 (.bool b61)) 68 (.bool b61)) 68 (.bool true)) 69 (a 8)) 68 (.bool true)) 70 v8) 68 (.bool true)) 71 (ptr p62 (Nat.add o63 (Nat.mul n66 1)))) 68 (.bool true)) 72 v67) 68 (.bool true)) 73 (.bool b68)) 74 (.bool b68)) 13 (.bool false)) 118 (a 7)) 119 v8) 120 (ptr p428 (Nat.add o429 (Nat.mul n432 1)))) 121 v433) 122 (.bool (notB b434))) 130 (a 8)) 131 v8) 132 (ptr p471 (Nat.add o472 (Nat.mul n475 1)))) 133 v476) 134 (a 0)) 135 v8) 136 v477) 13 v477) 137 v477) 27 (a 9)) 28 (.int .i64 (Int.add z506 (Int.ofNat 1)))) 9 (.int .i64 (Int.add z506 (Int.ofNat 1)))) H478)))))))) (
            AsSlc (a 7) fun p507 o508 l509 c510 =>
            AsCnt v8 fun n511 =>
            Must (ltN n511 l509) (
            Ld H54 p507 (Nat.add o508 (Nat.mul n511 1)) fun v512 =>
            IsNil .ptr v512 fun b513 =>
            Cd (notB b513) (
              AsSlc (a 7) fun p514 o515 l516 c517 =>
              AsCnt v8 fun n518 =>
              Must (ltN n518 l516) (
              Ld H54 p514 (Nat.add o515 (Nat.mul n518 1)) fun v519 =>
              Call1 Tryz.prog con 61 [v519, (a 0), v8] H54 fun v520 H521 =>
              AsBool v520 fun b522 =>
              Cd b522 (
                AsSlc (a 7) fun p523 o524 l525 c526 =>
                AsCnt v8 fun n527 =>
                Must (ltN n527 l525) (
                St H521 p523 (Nat.add o524 (Nat.mul n527 1)) [(.pointer none)] fun H528 =>
                AsSlc (a 8) fun p529 o530 l531 c532 =>
                AsCnt v8 fun n533 =>
                Must (ltN n533 l531) (
                St H528 p529 (Nat.add o530 (Nat.mul n533 1)) [(.pointer none)] fun H534 =>
                AsSlc (a 6) fun p535 o536 l537 c538 =>
                AsCnt v8 fun n539 =>
                Must (ltN n539 l537) (
                Ld H534 p535 (Nat.add o536 (Nat.mul n539 1)) fun v540 =>
                AsInt .i64 v540 fun z541 =>
                InR (Int.add z541 (Int.ofNat 1)) (
                AsSlc (a 6) fun p542 o543 l544 c545 =>
                AsCnt v8 fun n546 =>
                Must (ltN n546 l544) (
                St H534 p542 (Nat.add o543 (Nat.mul n546 1)) [(.int .i64 (Int.add z541 (Int.ofNat 1)))] fun H547 =>
                AsInt .i64 (a 9) fun z548 =>
                InR (Int.add z548 (Int.ofNat 1)) (
                K .normal (upd (upd (upd (upd (upd (upd (upd (upd (upd (upd (upd (upd (upd (upd (upd (upd (upd (upd (upd (upd (upd (upd (upd (upd (upd (upd (upd (upd (upd (upd (upd (upd (upd (upd (upd (upd (upd (upd (upd (upd (upd (upd (upd (upd (upd (upd (upd (upd (upd (upd (upd (upd (upd (upd (upd (upd (upd (upd (upd (upd (upd (upd (upd (upd (upd (upd (upd (upd (upd (upd (upd (upd (upd (upd (upd (upd (upd (upd (upd (upd (upd (upd (upd (upd (upd (upd (upd (upd (upd (upd (upd (upd (upd (upd (upd (upd (upd (upd (upd (upd (upd a 23 (a 9)) 24 (a 2)) 25 (.int .i64 (Int.ofNat l1))) 26 (.bool (ltZ z2 (Int.ofNat l1)))) 29 (a 2)) 30 (a 9)) 31 (ptr p3 (Nat.add o4 (Nat.mul n7 1)))) 32 v8) 10 v8) 33 v8) 34 (.bool (ltZ z9 (Int.ofNat 0)))) 35 (.bool (ltZ z9 (Int.ofNat 0)))) 35 (.bool false)) 36 v8) 35 (.bool false)) 37 (a 1)) 35 (.bool false)) 38 (.int .i64 (Int.ofNat l11))) 35 (.bool false)) 39 (.bool (leZ (Int.ofNat l11) z12))) 40 (.bool (leZ (Int.ofNat l11) z12))) 41 (.bool (leZ (Int.ofNat l11) z12))) 41 (.bool false)) 42 (a 6)) 41 (.bool false)) 43 v8) 41 (.bool false)) 44 (ptr p14 (Nat.add o15 (Nat.mul n18 1)))) 41 (.bool false)) 45 v19) 41 (.bool false)) 46 (a 1)) 41 (.bool false)) 47 v8) 41 (.bool false)) 48 (ptr p20 (Nat.add o21 (Nat.mul n24 1)))) 41 (.bool false)) 49 v25) 41 (.bool false)) 50 (.int .i64 (Int.ofNat l26))) 41 (.bool false)) 51 (.bool (leZ (Int.ofNat l26) z27))) 52 (.bool (leZ (Int.ofNat l26) z27))) 11 (ptr p29 0)) 53 (a 1)) 54 v8) 55 (ptr p31 (Nat.add o32 (Nat.mul n35 1)))) 56 v36) 57 (a 6)) 58 v8) 59 (ptr p37 (Nat.add o38 (Nat.mul n41 1)))) 60 v42) 61 (ptr p43 (Nat.add o44 (Nat.mul n47 6)))) 62 (.agg ⟨[v48, v49, v50, v51, v52, v53]⟩)) 63 (a 7)) 64 v8) 65 (ptr p55 (Nat.add o56 (Nat.mul n59 1)))) 66 v60) 67 (.bool b61)) 68 (.bool b61)) 68 (.bool false)) 69 (.tuple ⟨[]⟩)) 68 (.bool false)) 70 (.tuple ⟨[]⟩)) 68 (.bool false)) 71 (.tuple ⟨[]⟩)) 68 (.bool false)) 72 (.tuple ⟨[]⟩)) 68 (.bool false)) 73 (.tuple ⟨[]⟩)) 74 (.bool false)) 13 (.bool false)) 118 (a 7)) 119 v8) 120 (ptr p507 (Nat.add o508 (Nat.mul n511 1)))) 121 v512) 122 (.bool (notB b513))) 123 (a 7)) 124 v8) 125 (ptr p514 (Nat.add o515 (Nat.mul n518 1)))) 126 v519) 127 (a 0)) 128 v8) 129 v520) 13 v520) 137 v520) 138 (a 7)) 139 v8) 140 (a 8)) 141 v8) 142 (ptr p523 (Nat.add o524 (Nat.mul n527 1)))) 143 (ptr p529 (Nat.add o530 (Nat.mul n533 1)))) 144 (a 6)) 145 v8) 146 (ptr p535 (Nat.add o536 (Nat.mul n539 1)))) 147 v540) 148 (.int .i64 (Int.add z541 (Int.ofNat 1)))) 149 (ptr p542 (Nat.add o543 (Nat.mul n546 1)))) 27 (a 9)) 28 (.int .i64 (Int.add z548 (Int.ofNat 1)))) 9 (.int .i64 (Int.add z548 (Int.ofNat 1)))) H547))))))) (
                AsInt .i64 (a 9) fun z549 =>
                InR (Int.add z549 (Int.ofNat 1)) (
                K .normal (upd (upd (upd (upd (upd (upd (upd (upd (upd (upd (upd (upd (upd (upd (upd (upd (upd (upd (upd (upd (upd (upd (upd (upd (upd (upd (upd (upd (upd (upd (upd (upd (upd (upd (upd (upd (upd (upd (upd (upd (upd (upd (upd (upd (upd (upd (upd (upd (upd (upd (upd (upd (upd (upd (upd (upd (upd (upd (upd (upd (upd (upd (upd (upd (upd (upd (upd (upd (upd (upd (upd (upd (upd (upd (upd (upd (upd (upd (upd (upd (upd (upd (upd (upd (upd (upd (upd (upd (upd a 23 (a 9)) 24 (a 2)) 25 (.int .i64 (Int.ofNat l1))) 26 (.bool (ltZ z2 (Int.ofNat l1)))) 29 (a 2)) 30 (a 9)) 31 (ptr p3 (Nat.add o4 (Nat.mul n7 1)))) 32 v8) 10 v8) 33 v8) 34 (.bool (ltZ z9 (Int.ofNat 0)))) 35 (.bool (ltZ z9 (Int.ofNat 0)))) 35 (.bool false)) 36 v8) 35 (.bool false)) 37 (a 1)) 35 (.bool false)) 38 (.int .i64 (Int.ofNat l11))) 35 (.bool false)) 39 (.bool (leZ (Int.ofNat l11) z12))) 40 (.bool (leZ (Int.ofNat l11) z12))) 41 (.bool (leZ (Int.ofNat l11) z12))) 41 (.bool false)) 42 (a 6)) 41 (.bool false)) 43 v8) 41 (.bool false)) 44 (ptr p14 (Nat.add o15 (Nat.mul n18 1)))) 41 (.bool false)) 45 v19) 41 (.bool false)) 46 (a 1)) 41 (.bool false)) 47 v8) 41 (.bool false)) 48 (ptr p20 (Nat.add o21 (Nat.mul n24 1)))) 41 (.bool false)) 49 v25) 41 (.bool false)) 50 (.int .i64 (Int.ofNat l26))) 41 (.bool false)) 51 (.bool (leZ (Int.ofNat l26) z27))) 52 (.bool (leZ (Int.ofNat l26) z27))) 11 (ptr p29 0)) 53 (a 1)) 54 v8) 55 (ptr p31 (Nat.add o32 (Nat.mul n35 1)))) 56 v36) 57 (a 6)) 58 v8) 59 (ptr p37 (Nat.add o38 (Nat.mul n41 1)))) 60 v42) 61 (ptr p43 (Nat.add o44 (Nat.mul n47 6)))) 62 (.agg ⟨[v48, v49, v50, v51, v52, v53]⟩)) 63 (a 7)) 64 v8) 65 (ptr p55 (Nat.add o56 (Nat.mul n59 1)))) 66 v60) 67 (.bool b61)) 68 (.bool b61)) 68 (.bool false)) 69 (.tuple ⟨[]⟩)) 68 (.bool false)) 70 (.tuple ⟨[]⟩)) 68 (.bool false)) 71 (.tuple ⟨[]⟩)) 68 (.bool false)) 72 (.tuple ⟨[]⟩)) 68 (.bool false)) 73 (.tuple ⟨[]⟩)) 74 (.bool false)) 13 (.bool false)) 118 (a 7)) 119 v8) 120 (ptr p507 (Nat.add o508 (Nat.mul n511 1)))) 121 v512) 122 (.bool (notB b513))) 123 (a 7)) 124 v8) 125 (ptr p514 (Nat.add o515 (Nat.mul n518 1)))) 126 v519) 127 (a 0)) 128 v8) 129 v520) 13 v520) 137 v520) 27 (a 9)) 28 (.int .i64 (Int.add z549 (Int.ofNat 1)))) 9 (.int .i64 (Int.add z549 (Int.ofNat 1)))) H521)))) (
              AsSlc (a 8) fun p550 o551 l552 c553 =>
              AsCnt v8 fun n554 =>
              Must (ltN n554 l552) (
              Ld H54 p550 (Nat.add o551 (Nat.mul n554 1)) fun v555 =>
              Call1 Tryz.prog con 62 [v555, (a 0), v8] H54 fun v556 H557 =>
              AsBool v556 fun b558 =>
              Cd b558 (
                AsSlc (a 7) fun p559 o560 l561 c562 =>
                AsCnt v8 fun n563 =>
                Must (ltN n563 l561) (
                St H557 p559 (Nat.add o560 (Nat.mul n563 1)) [(.pointer none)] fun H564 =>
                AsSlc (a 8) fun p565 o566 l567 c568 =>
                AsCnt v8 fun n569 =>
                Must (ltN n569 l567) (
                St H564 p565 (Nat.add o566 (Nat.mul n569 1)) [(.pointer none)] fun H570 =>
                AsSlc (a 6) fun p571 o572 l573 c574 =>
                AsCnt v8 fun n575 =>
                Must (ltN n575 l573) (
                Ld H570 p571 (Nat.add o572 (Nat.mul n575 1)) fun v576 =>
                AsInt .i64 v576 fun z577 =>
                InR (Int.add z577 (Int.ofNat 1)) (
                AsSlc (a 6) fun p578 o579 l580 c581 =>
                AsCnt v8 fun n582 =>
                Must (ltN n582 l580) (
                St H570 p578 (Nat.add o579 (Nat.mul n582 1)) [(.int .i64 (Int.add z577 (Int.ofNat 1)))] fun H583 =>
                AsInt .i64 (a 9) fun z584 =>
                InR (Int.add z584 (Int.ofNat 1)) (
                K .normal (upd (upd (upd (upd (upd (upd (upd (upd (upd (upd (upd (upd (upd (upd (upd (upd (upd (upd (upd (upd (upd (upd (upd (upd (upd (upd (upd (upd (upd (upd (upd (upd (upd (upd (upd (upd (upd (upd (upd (upd (upd (upd (upd (upd (upd (upd (upd (upd (upd (upd (upd (upd (upd (upd (upd (upd (upd (upd (upd (upd (upd (upd (upd (upd (upd (upd (upd (upd (upd (upd (upd (upd (upd (upd (upd (upd (upd (upd (upd (upd (upd (upd (upd (upd (upd (upd (upd (upd (upd (upd (upd (upd (upd (upd (upd (upd (upd (upd (upd (upd (upd a 23 (a 9)) 24 (a 2)) 25 (.int .i64 (Int.ofNat l1))) 26 (.bool (ltZ z2 (Int.ofNat l1)))) 29 (a 2)) 30 (a 9)) 31 (ptr p3 (Nat.add o4 (Nat.mul n7 1)))) 32 v8) 10 v8) 33 v8) 34 (.bool (ltZ z9 (Int.ofNat 0)))) 35 (.bool (ltZ z9 (Int.ofNat 0)))) 35 (.bool false)) 36 v8) 35 (.bool false)) 37 (a 1)) 35 (.bool false)) 38 (.int .i64 (Int.ofNat l11))) 35 (.bool false)) 39 (.bool (leZ (Int.ofNat l11) z12))) 40 (.bool (leZ (Int.ofNat l11) z12))) 41 (.bool (leZ (Int.ofNat l11) z12))) 41 (.bool false)) 42 (a 6)) 41 (.bool false)) 43 v8) 41 (.bool false)) 44 (ptr p14 (Nat.add o15 (Nat.mul n18 1)))) 41 (.bool false)) 45 v19) 41 (.bool false)) 46 (a 1)) 41 (.bool false)) 47 v8) 41 (.bool false)) 48 (ptr p20 (Nat.add o21 (Nat.mul n24 1)))) 41 (.bool false)) 49 v25) 41 (.bool false)) 50 (.int .i64 (Int.ofNat l26))) 41 (.bool false)) 51 (.bool (leZ (Int.ofNat l26) z27))) 52 (.bool (leZ (Int.ofNat l26) z27))) 11 (ptr p29 0)) 53 (a 1)) 54 v8) 55 (ptr p31 (Nat.add o32 (Nat.mul n35 1)))) 56 v36) 57 (a 6)) 58 v8) 59 (ptr p37 (Nat.add o38 (Nat.mul n41 1)))) 60 v42) 61 (ptr p43 (Nat.add o44 (Nat.mul n47 6)))) 62 (.agg ⟨[v48, v49, v50, v51, v52, v53]⟩)) 63 (a 7)) 64 v8) 65 (ptr p55 (Nat.add o56 (Nat.mul n59 1)))) 66 v60) 67 (.bool b61)) 68 (.bool b61)) 68 (.bool false)) 69 (.tuple ⟨[]⟩)) 68 (.bool false)) 70 (.tuple ⟨[]⟩)) 68 (.bool false)) 71 (.tuple ⟨[]⟩)) 68 (.bool false)) 72 (.tuple ⟨[]⟩)) 68 (.bool false)) 73 (.tuple ⟨[]⟩)) 74 (.bool false)) 13 (.bool false)) 118 (a 7)) 119 v8) 120 (ptr p507 (Nat.add o508 (Nat.mul n511 1)))) 121 v512) 122 (.bool (notB b513))) 130 (a 8)) 131 v8) 132 (ptr p550 (Nat.add o551 (Nat.mul n554 1)))) 133 v555) 134 (a 0)) 135 v8) 136 v556) 13 v556) 137 v556) 138 (a 7)) 139 v8) 140 (a 8)) 141 v8) 142 (ptr p559 (Nat.add o560 (Nat.mul n563 1)))) 143 (ptr p565 (Nat.add o566 (Nat.mul n569 1)))) 144 (a 6)) 145 v8) 146 (ptr p571 (Nat.add o572 (Nat.mul n575 1)))) 147 v576) 148 (.int .i64 (Int.add z577 (Int.ofNat 1)))) 149 (ptr p578 (Nat.add o579 (Nat.mul n582 1)))) 27 (a 9)) 28 (.int .i64 (Int.add z584 (Int.ofNat 1)))) 9 (.int .i64 (Int.add z584 (Int.ofNat 1)))) H583))))))) (
                AsInt .i64 (a 9) fun z585 =>
                InR (Int.add z585 (Int.ofNat 1)) (
                K .normal (upd (upd (upd (upd (upd (upd (upd (upd (upd (upd (upd (upd (upd (upd (upd (upd (upd (upd (upd (upd (upd (upd (upd (upd (upd (upd (upd (upd (upd (upd (upd (upd (upd (upd (upd (upd (upd (upd (upd (upd (upd (upd (upd (upd (upd (upd (upd (upd (upd (upd (upd (upd (upd (upd (upd (upd (upd (upd (upd (upd (upd (upd (upd (upd (upd (upd (upd (upd (upd (upd (upd (upd (upd (upd (upd (upd (upd (upd (upd (upd (upd (upd (upd (upd (upd (upd (upd (upd (upd a 23 (a 9)) 24 (a 2)) 25 (.int .i64 (Int.ofNat l1))) 26 (.bool (ltZ z2 (Int.ofNat l1)))) 29 (a 2)) 30 (a 9)) 31 (ptr p3 (Nat.add o4 (Nat.mul n7 1)))) 32 v8) 10 v8) 33 v8) 34 (.bool (ltZ z9 (Int.ofNat 0)))) 35 (.bool (ltZ z9 (Int.ofNat 0)))) 35 (.bool false)) 36 v8) 35 (.bool false)) 37 (a 1)) 35 (.bool false)) 38 (.int .i64 (Int.ofNat l11))) 35 (.bool false)) 39 (.bool (leZ (Int.ofNat l11) z12))) 40 (.bool (leZ (Int.ofNat l11) z12))) 41 (.bool (leZ (Int.ofNat l11) z12))) 41 (.bool false)) 42 (a 6)) 41 (.bool false)) 43 v8) 41 (.bool false)) 44 (ptr p14 (Nat.add o15 (Nat.mul n18 1)))) 41 (.bool false)) 45 v19) 41 (.bool false)) 46 (a 1)) 41 (.bool false)) 47 v8) 41 (.bool false)) 48 (ptr p20 (Nat.add o21 (Nat.mul n24 1)))) 41 (.bool false)) 49 v25) 41 (.bool false)) 50 (.int .i64 (Int.ofNat l26))) 41 (.bool false)) 51 (.bool (leZ (Int.ofNat l26) z27))) 52 (.bool (leZ (Int.ofNat l26) z27))) 11 (ptr p29 0)) 53 (a 1)) 54 v8) 55 (ptr p31 (Nat.add o32 (Nat.mul n35 1)))) 56 v36) 57 (a 6)) 58 v8) 59 (ptr p37 (Nat.add o38 (Nat.mul n41 1)))) 60 v42) 61 (ptr p43 (Nat.add o44 (Nat.mul n47 6)))) 62 (.agg ⟨[v48, v49, v50, v51, v52, v53]⟩)) 63 (a 7)) 64 v8) 65 (ptr p55 (Nat.add o56 (Nat.mul n59 1)))) 66 v60) 67 (.bool b61)) 68 (.bool b61)) 68 (.bool false)) 69 (.tuple ⟨[]⟩)) 68 (.bool false)) 70 (.tuple ⟨[]⟩)) 68 (.bool false)) 71 (.tuple ⟨[]⟩)) 68 (.bool false)) 72 (.tuple ⟨[]⟩)) 68 (.bool false)) 73 (.tuple ⟨[]⟩)) 74 (.bool false)) 13 (.bool false)) 118 (a 7)) 119 v8) 120 (ptr p507 (Nat.add o508 (Nat.mul n511 1)))) 121 v512) 122 (.bool (notB b513))) 130 (a 8)) 131 v8) 132 (ptr p550 (Nat.add o551 (Nat.mul n554 1)))) 133 v555) 134 (a 0)) 135 v8) 136 v556) 13 v556) 137 v556) 27 (a 9)) 28 (.int .i64 (Int.add z585 (Int.ofNat 1)))) 9 (.int .i64 (Int.add z585 (Int.ofNat 1)))) H557))))))))))))))))) (
    K (.exit 0) (upd (upd (upd (upd a 23 (a 9)) 24 (a 2)) 25 (.int .i64 (Int.ofNat l1))) 26 (.bool (ltZ z2 (Int.ofNat l1)))) H)) := by kernel_rfl

end Go.Proofs.YtipbbnoepphdkaaGreat

/- What some functions' texts ask for, step by step, each checked by the kernel. No conditions. -/
set_option linter.unusedVariables false
namespace Go.Proofs.YtipbbnoepphdkaaGreat
open Go Go.CM

theorem cutPlays_W (con : CallT) (xv xw : Value) (H : CH) (K : KP) : funW Tryz.prog con 3 [xv, xw] H K =
  (Call1 Tryz.prog con 7 [(.int .i64 (Int.ofNat 4096)), (.bool false)] H fun v1 H2 =>
  AsTup v1 fun l3 =>
  Nth l3 0 fun v4 =>
  AsTup v1 fun l5 =>
  Nth l5 1 fun v6 =>
  Call1 Tryz.prog con 8 [] H2 fun v7 H8 =>
  AsBool v7 fun b9 =>
  Cd (notB b9) (
    K (.bool false) H8) (
    AsInt .i64 v6 fun z10 =>
    Cd (notB (eqZ z10 (Int.ofNat 0))) (
      K (.bool false) H8) (
      Call1 Tryz.prog con 9 [(.int .i64 (Int.ofNat 4096)), (.bool false)] H8 fun v11 H12 =>
      AsTup v11 fun l13 =>
      Nth l13 0 fun v14 =>
      AsTup v11 fun l15 =>
      Nth l15 1 fun v16 =>
      Call1 Tryz.prog con 10 [v4, (.int .i64 (Int.negSucc 0))] H12 fun v17 H18 =>
      Nw H18 (mkRow 32 0 [(.int .u64 (Int.ofNat 1)), (.int .u64 (Int.ofNat 0)), (.int .u64 (Int.ofNat 0))]) fun p19 H20 =>
      Call1 Tryz.prog con 11 [v17, (.slice (some ⟨p19, 0, none⟩) 3 3)] H20 fun v21 H22 =>
      Nw H22 (mkRow 32 0 [(.int .u64 (Int.ofNat 1)), (.int .u64 (Int.ofNat 0)), (.int .u64 (Int.ofNat 0))]) fun p23 H24 =>
      Call1 Tryz.prog con 12 [v14, (.int .i64 (Int.negSucc 0)), (.slice (some ⟨p23, 0, none⟩) 3 3)] H24 fun v25 H26 =>
      LoopC Tryz.prog con (lpAt Tryz.prog 3 0) (upd (upd (upd (upd (upd (upd (upd (upd (upd (upd (upd (upd (upd (upd (upd (upd (upd (upd (upd (upd (upd (upd (upd (upd (upd (upd (upd (upd (upd (upd (upd (upd (fun _ => undV) 1 xw) 0 xv) 4 (.bool false)) 15 v1) 14 v1) 16 v4) 17 v6) 5 v4) 6 v6) 18 v7) 19 (.bool (notB b9))) 20 (.bool (notB b9))) 20 (.bool false)) 21 v6) 20 (.bool false)) 22 (.bool (notB (eqZ z10 (Int.ofNat 0))))) 23 (.bool (notB (eqZ z10 (Int.ofNat 0))))) 25 v11) 24 v11) 26 v14) 27 v16) 7 v14) 8 v16) 28 v4) 29 v17) 30 (.slice (some ⟨p19, 0, none⟩) 3 3)) 31 v21) 32 v14) 33 (.slice (some ⟨p23, 0, none⟩) 3 3)) 34 v25) 9 (.slice none 0 0)) 10 (.int .i64 (Int.ofNat 0))) H26 (fun e => ceP e
      (fun a27 H28 =>
        Call1 Tryz.prog con 14 [(a27 5), (a27 9)] H28 fun v30 H31 =>
        AsTup v30 fun l32 =>
        Nth l32 0 fun v33 =>
        AsTup v30 fun l34 =>
        Nth l34 1 fun v35 =>
        AsInt .i64 v35 fun z36 =>
        Cd (notB (eqZ z36 (Int.ofNat 0))) (
          AsLen (a27 0) fun l37 =>
          Cd (ltZ (Int.ofNat 64) (Int.ofNat l37)) (
            K (.bool true) H31) (
            Call1 Tryz.prog con 15 [(a27 0)] H31 fun v38 H39 =>
            K v38 H39)) (
          Call1 Tryz.prog con 16 [v33, (a27 1)] H31 fun v40 H41 =>
          Call1 Tryz.prog con 17 [(a27 7), (a27 0), (a27 1)] H41 fun v42 H43 =>
          Call1 Tryz.prog con 19 [(a27 5)] H43 fun v44 H45 =>
          NotNil Tryz.prog (a27 7) (
          AsPtr (a27 7) fun p46 o47 =>
          Ld H45 p46 (Nat.add o47 2) fun v48 =>
          Call1 Tryz.prog con 18 [v44, v48] H45 fun v49 H50 =>
          Ld H43 p46 (Nat.add o47 2) fun v51 =>
          Same v48 v51 (
          Ld H45 p46 (Nat.add o47 2) fun v52 =>
          Same v48 v52 (
          K v49 H50)))))
      (fun i29 => fun a27 H28 =>
        Cd (eqN i29 0) (
          Call1 Tryz.prog con 14 [(a27 5), (a27 9)] H28 fun v53 H54 =>
          AsTup v53 fun l55 =>
          Nth l55 0 fun v56 =>
          AsTup v53 fun l57 =>
          Nth l57 1 fun v58 =>
          AsInt .i64 v58 fun z59 =>
          Cd (notB (eqZ z59 (Int.ofNat 0))) (
            AsLen (a27 0) fun l60 =>
            Cd (ltZ (Int.ofNat 64) (Int.ofNat l60)) (
              K (.bool true) H54) (
              Call1 Tryz.prog con 15 [(a27 0)] H54 fun v61 H62 =>
              K v61 H62)) (
            Call1 Tryz.prog con 16 [v56, (a27 1)] H54 fun v63 H64 =>
            Call1 Tryz.prog con 17 [(a27 7), (a27 0), (a27 1)] H64 fun v65 H66 =>
            Call1 Tryz.prog con 19 [(a27 5)] H66 fun v67 H68 =>
            NotNil Tryz.prog (a27 7) (
            AsPtr (a27 7) fun p69 o70 =>
            Ld H68 p69 (Nat.add o70 2) fun v71 =>
            Call1 Tryz.prog con 18 [v67, v71] H68 fun v72 H73 =>
            Ld H66 p69 (Nat.add o70 2) fun v74 =>
            Same v71 v74 (
            Ld H68 p69 (Nat.add o70 2) fun v75 =>
            Same v71 v75 (
            K v72 H73))))) (
          False))
      (fun a27 H28 =>
        K (a27 4) H28))))) := by kernel_rfl

theorem cutPlaysA_W (con : CallT) (a : TF) (H : CH) (K : KX) : codeW (lpAt Tryz.prog 3 0) Tryz.prog con a H K =
  (AsLen (a 0) fun l1 =>
  AsInt .i64 (a 10) fun z2 =>
  Cd (ltZ z2 (Int.ofNat l1)) (
    LoopC Tryz.prog con (lpAt Tryz.prog 3 1) (upd (upd (upd (upd (upd (upd a 35 (a 10)) 36 (a 0)) 37 (.int .i64 (Int.ofNat l1))) 38 (.bool (ltZ z2 (Int.ofNat l1)))) 11 (.slice none 0 0)) 12 (.int .i64 (Int.ofNat 0))) H (fun e => ceP e
    (fun a3 H4 =>
      Sc (a3 11) (Nw H4 (mkRow 39 0 [(a3 11)]) fun p6 H7 =>
      App Tryz.prog 38 38 H7 (a3 9) (.slice (some ⟨p6, 0, none⟩) 1 1) fun v8 H9 =>
      AsInt .i64 (a3 10) fun z10 =>
      InR (Int.add z10 (Int.ofNat 1)) (
      K .normal (upd (upd (upd (upd (upd (upd (upd (upd a3 61 (a3 9)) 62 (a3 11)) 63 (.slice (some ⟨p6, 0, none⟩) 1 1)) 64 v8) 9 v8) 39 (a3 10)) 40 (.int .i64 (Int.add z10 (Int.ofNat 1)))) 10 (.int .i64 (Int.add z10 (Int.ofNat 1)))) H9)))
    (fun i5 => fun a3 H4 =>
      Cd (eqN i5 2) (
        Sc (a3 11) (Nw H4 (mkRow 39 0 [(a3 11)]) fun p11 H12 =>
        App Tryz.prog 38 38 H12 (a3 9) (.slice (some ⟨p11, 0, none⟩) 1 1) fun v13 H14 =>
        AsInt .i64 (a3 10) fun z15 =>
        InR (Int.add z15 (Int.ofNat 1)) (
        K .normal (upd (upd (upd (upd (upd (upd (upd (upd a3 61 (a3 9)) 62 (a3 11)) 63 (.slice (some ⟨p11, 0, none⟩) 1 1)) 64 v13) 9 v13) 39 (a3 10)) 40 (.int .i64 (Int.add z15 (Int.ofNat 1)))) 10 (.int .i64 (Int.add z15 (Int.ofNat 1)))) H14))) (
        Cd (eqN i5 1) (
          AsInt .i64 (a3 10) fun z16 =>
          InR (Int.add z16 (Int.ofNat 1)) (
          K .normal (upd (upd (upd a3 39 (a3 10)) 40 (.int .i64 (Int.add z16 (Int.ofNat 1)))) 10 (.int .i64 (Int.add z16 (Int.ofNat 1)))) H4)) (
          K (.exit i5) a3 H4)))
    (fun a3 H4 =>
      K .ret a3 H4))) (
    K (.exit 0) (upd (upd (upd (upd a 35 (a 10)) 36 (a 0)) 37 (.int .i64 (Int.ofNat l1))) 38 (.bool (ltZ z2 (Int.ofNat l1)))) H)) := by kernel_rfl

theorem cutPlaysB_W (con : CallT) (a : TF) (H : CH) (K : KX) : codeW (lpAt Tryz.prog 3 1) Tryz.prog con a H K =
  (AsSlc (a 0) fun p1 o2 l3 c4 =>
  AsCnt (a 10) fun n5 =>
  Must (ltN n5 l3) (
  Ld H p1 (Nat.add o2 (Nat.mul n5 1)) fun v6 =>
  AsLen v6 fun l7 =>
  AsInt .i64 (a 12) fun z8 =>
  Cd (ltZ z8 (Int.ofNat l7)) (
    AsSlc (a 0) fun p9 o10 l11 c12 =>
    AsCnt (a 10) fun n13 =>
    Must (ltN n13 l11) (
    Ld H p9 (Nat.add o10 (Nat.mul n13 1)) fun v14 =>
    AsSlc v14 fun p15 o16 l17 c18 =>
    AsCnt (a 12) fun n19 =>
    Must (ltN n19 l17) (
    Ld H p15 (Nat.add (Nat.add o16 (Nat.mul n19 6)) 0) fun v20 =>
    Ld H p15 (Nat.add (Nat.add o16 (Nat.mul n19 6)) 1) fun v21 =>
    Ld H p15 (Nat.add (Nat.add o16 (Nat.mul n19 6)) 2) fun v22 =>
    Ld H p15 (Nat.add (Nat.add o16 (Nat.mul n19 6)) 3) fun v23 =>
    Ld H p15 (Nat.add (Nat.add o16 (Nat.mul n19 6)) 4) fun v24 =>
    Ld H p15 (Nat.add (Nat.add o16 (Nat.mul n19 6)) 5) fun v25 =>
    Call1 Tryz.prog con 13 [(.agg ⟨[v20, v21, v22, v23, v24, v25]⟩)] H fun v26 H27 =>
    Sc v26 (Nw H27 (mkRow 42 0 [v26]) fun p28 H29 =>
    App Tryz.prog 39 39 H29 (a 11) (.slice (some ⟨p28, 0, none⟩) 1 1) fun v30 H31 =>
    AsInt .i64 (a 12) fun z32 =>
    InR (Int.add z32 (Int.ofNat 1)) (
    K .normal (upd (upd (upd (upd (upd (upd (upd (upd (upd (upd (upd (upd (upd (upd (upd (upd (upd (upd (upd (upd (upd (upd a 41 (a 12)) 42 (a 0)) 43 (a 10)) 44 (ptr p1 (Nat.add o2 (Nat.mul n5 1)))) 45 v6) 46 (.int .i64 (Int.ofNat l7))) 47 (.bool (ltZ z8 (Int.ofNat l7)))) 50 (a 11)) 51 (a 0)) 52 (a 10)) 53 (ptr p9 (Nat.add o10 (Nat.mul n13 1)))) 54 v14) 55 (a 12)) 56 (ptr p15 (Nat.add o16 (Nat.mul n19 6)))) 57 (.agg ⟨[v20, v21, v22, v23, v24, v25]⟩)) 58 v26) 59 (.slice (some ⟨p28, 0, none⟩) 1 1)) 60 v30) 11 v30) 48 (a 12)) 49 (.int .i64 (Int.add z32 (Int.ofNat 1)))) 12 (.int .i64 (Int.add z32 (Int.ofNat 1)))) H31))))) (
    K (.exit 2) (upd (upd (upd (upd (upd (upd (upd a 41 (a 12)) 42 (a 0)) 43 (a 10)) 44 (ptr p1 (Nat.add o2 (Nat.mul n5 1)))) 45 v6) 46 (.int .i64 (Int.ofNat l7))) 47 (.bool (ltZ z8 (Int.ofNat l7)))) H))) := by kernel_rfl

end Go.Proofs.YtipbbnoepphdkaaGreat
