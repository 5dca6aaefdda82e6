/- What some functions' texts ask for, step by step, each checked by the kernel. No conditions. -/
import Derived.Test.YtipbbnoepphdkaaProg
import Derived.Test.YtipbbnoepphdkaaCmE
set_option linter.unusedVariables false
set_option linter.unusedSimpArgs false

/- What some functions' texts ask for, step by step, each checked by the kernel. No conditions. -/
set_option linter.unusedVariables false
namespace Go.Proofs.Ytipbbnoepphdkaa
open Go Go.CM

theorem arenaNew_W (con : CallT) (z : Int) (b : Bool) (H : CH) (K : KP) : funW Try.prog con 20 [.int .i64 z, .bool b] H K =
  (Cd (ltZ z (Int.ofNat 128)) (
    K (.tuple ⟨[(.pointer none), (.int .i64 (Int.ofNat 2))]⟩) H) (
    Cd (ltZ (Int.ofNat 4194304) z) (
      K (.tuple ⟨[(.pointer none), (.int .i64 (Int.ofNat 2))]⟩) H) (
      Cd b (
        MkS Try.prog H 133 (.int .i64 z) (.int .i64 z) fun v1 H2 =>
        Sc v1 (Nw H2 (mkRow 140 0 [v1, (.int .i64 (Int.ofNat 0))]) fun p3 H4 =>
        Call1 Try.prog con 82 [(ptr p3 1), (.int .i64 (Int.ofNat 1))] H4 fun v5 H6 =>
        Nw H6 (mkRow 145 0 [(.iface 132 (ptr p3 0)), (.bool true), (.slice none 0 0)]) fun p7 H8 =>
        K (.tuple ⟨[(ptr p7 0), (.int .i64 (Int.ofNat 0))]⟩) H8)) (
        MkS Try.prog H 23 (.int .i64 z) (.int .i64 z) fun v9 H10 =>
        Sc v9 (Nw H10 (mkRow 148 0 [v9, (.int .i64 (Int.ofNat 1))]) fun p11 H12 =>
        Nw H12 (mkRow 145 0 [(.iface 146 (ptr p11 0)), (.bool false), (.slice none 0 0)]) fun p13 H14 =>
        K (.tuple ⟨[(ptr p13 0), (.int .i64 (Int.ofNat 0))]⟩) H14))))) := by kernel_rfl

theorem memView_W (con : CallT) (m : Nat) (z : Int) (H : CH) (K : KP) : funW Try.prog con 22 [ptr m 0, .int .i64 z] H K =
  (Nw H (mkRow 150 0 [(ptr m 0), (.int .i64 z), (.int .i64 (Int.ofNat 0))]) fun p1 H2 =>
  K (ptr p1 0) H2) := by kernel_rfl

theorem viewStore_W (con : CallT) (p a x : Nat) (H : CH) (K : KP) : funW Try.prog con 23 [ptr p 0, .int .u64 (Int.ofNat a), .int .u64 (Int.ofNat x)] H K =
  (Ld H p 0 fun v1 =>
  Call1 Try.prog con 83 [v1, (.int .u64 (Int.ofNat a))] H fun v2 H3 =>
  AsBool v2 fun b4 =>
  Cd b4 (
    Ld H3 p 0 fun v5 =>
    NotNil Try.prog v5 (
    AsPtr v5 fun p6 o7 =>
    Ld H3 p6 (Nat.add o7 0) fun v8 =>
    Mth Try.prog con v8 "shutter/arena.store" [(.int .u64 (Int.ofNat a)), (.int .u64 (Int.ofNat x))] H3 fun v9 H10 =>
    Call1 Try.prog con 84 [(ptr p 0), (.agg ⟨[(.int .i64 (Int.ofNat 0)), (.int .u8 (Int.ofNat 2)), (.int .u64 (Int.ofNat a)), (.int .u64 (Int.ofNat x)), (.int .u64 (Int.ofNat 0)), (.slice none 0 0), (.int .u64 (Int.ofNat 0)), (.bool false)]⟩)] H10 fun v11 H12 =>
    K (.tuple ⟨[]⟩) H12)) (
    Call1 Try.prog con 84 [(ptr p 0), (.agg ⟨[(.int .i64 (Int.ofNat 0)), (.int .u8 (Int.ofNat 2)), (.int .u64 (Int.ofNat a)), (.int .u64 (Int.ofNat x)), (.int .u64 (Int.ofNat 0)), (.slice none 0 0), (.int .u64 (Int.ofNat 0)), (.bool false)]⟩)] H3 fun v13 H14 =>
    K (.tuple ⟨[]⟩) H14)) := by kernel_rfl

theorem viewLoad_W (con : CallT) (p a : Nat) (H : CH) (K : KP) : funW Try.prog con 74 [ptr p 0, .int .u64 (Int.ofNat a)] H K =
  (Ld H p 0 fun v1 =>
  Call1 Try.prog con 71 [v1, (.int .u64 (Int.ofNat a))] H fun v2 H3 =>
  Sc v2 (Call1 Try.prog con 84 [(ptr p 0), (.agg ⟨[(.int .i64 (Int.ofNat 0)), (.int .u8 (Int.ofNat 1)), (.int .u64 (Int.ofNat a)), (.int .u64 (Int.ofNat 0)), (.int .u64 (Int.ofNat 0)), (.slice none 0 0), v2, (.bool false)]⟩)] H3 fun v4 H5 =>
  K v2 H5)) := by kernel_rfl

theorem memPeek_W (con : CallT) (m a : Nat) (H : CH) (K : KP) : funW Try.prog con 71 [ptr m 0, .int .u64 (Int.ofNat a)] H K =
  (Call1 Try.prog con 83 [(ptr m 0), (.int .u64 (Int.ofNat a))] H fun v1 H2 =>
  AsBool v1 fun b3 =>
  Cd (notB b3) (
    K (.int .u64 (Int.ofNat 0)) H2) (
    Ld H2 m 0 fun v4 =>
    Mth Try.prog con v4 "shutter/arena.load" [(.int .u64 (Int.ofNat a))] H2 fun v5 H6 =>
    K v5 H6)) := by kernel_rfl

theorem memHas_W (con : CallT) (m a : Nat) (H : CH) (K : KP) : funW Try.prog con 83 [ptr m 0, .int .u64 (Int.ofNat a)] H K =
  (Ld H m 0 fun v1 =>
  Mth Try.prog con v1 "shutter/arena.size" [] H fun v2 H3 =>
  AsInt .i64 v2 fun z4 =>
  Must (cvOk .i64 z4) (
  K (.bool (ltN a (wrapN .u64 z4))) H3)) := by kernel_rfl

theorem viewNote_W (con : CallT) (p : Nat) (c0 c1 c2 c3 c4 c5 c6 c7 : Value) (H : CH) (K : KP) : funW Try.prog con 84 [ptr p 0, .agg ⟨[c0, c1, c2, c3, c4, c5, c6, c7]⟩] H K =
  (Nw H (mkRow 87 0 [c0, c1, c2, c3, c4, c5, c6, c7]) fun p1 H2 =>
  Ld H2 p 2 fun v3 =>
  AsInt .i64 v3 fun z4 =>
  InR (Int.add z4 (Int.ofNat 1)) (
  St H2 p 2 [(.int .i64 (Int.add z4 (Int.ofNat 1)))] fun H5 =>
  Ld H5 p 0 fun v6 =>
  NotNil Try.prog v6 (
  AsPtr v6 fun p7 o8 =>
  Ld H5 p7 (Nat.add o8 1) fun v9 =>
  AsBool v9 fun b10 =>
  Cd (notB b10) (
    Ld H5 p 1 fun v11 =>
    Sc v11 (St H5 p1 0 [v11] fun H12 =>
    Ld H12 p 0 fun v13 =>
    Ld H12 p 0 fun v14 =>
    NotNil Try.prog v14 (
    AsPtr v14 fun p15 o16 =>
    Ld H12 p15 (Nat.add o16 2) fun v17 =>
    Ld H12 p1 0 fun v18 =>
    Ld H12 p1 1 fun v19 =>
    Ld H12 p1 2 fun v20 =>
    Ld H12 p1 3 fun v21 =>
    Ld H12 p1 4 fun v22 =>
    Ld H12 p1 5 fun v23 =>
    Ld H12 p1 6 fun v24 =>
    Ld H12 p1 7 fun v25 =>
    Nw H12 (mkRow 87 0 [v18, v19, v20, v21, v22, v23, v24, v25]) fun p26 H27 =>
    App Try.prog 55 55 H27 v17 (.slice (some ⟨p26, 0, none⟩) 1 1) fun v28 H29 =>
    NotNil Try.prog v13 (
    AsPtr v13 fun p30 o31 =>
    Sc v28 (St H29 p30 (Nat.add o31 2) [v28] fun H32 =>
    Ld H12 p15 (Nat.add o16 2) fun v33 =>
    Same v17 v33 (
    Ld H27 p15 (Nat.add o16 2) fun v34 =>
    Same v17 v34 (
    Ld H12 p 0 fun v35 =>
    Same v14 v35 (
    Ld H27 p 0 fun v36 =>
    Same v14 v36 (
    Ld H12 p 0 fun v37 =>
    Same v13 v37 (
    Ld H27 p 0 fun v38 =>
    Same v13 v38 (
    Ld H29 p 0 fun v39 =>
    Same v13 v39 (
    K (.tuple ⟨[]⟩) H32)))))))))))) (
    K (.tuple ⟨[]⟩) H5)))) := by kernel_rfl

theorem memTrace_W (con : CallT) (m : Nat) (H : CH) (K : KP) : funW Try.prog con 28 [ptr m 0] H K =
  (Ld H m 2 fun v1 =>
  Call1 Try.prog con 92 [v1] H fun v2 H3 =>
  AsLen v2 fun l4 =>
  LoopC Try.prog con (lpAt Try.prog 28 0) (upd (upd (upd (upd (upd (upd (upd (upd (upd (upd (upd (upd (upd (fun _ => undV) 0 (ptr m 0)) 2 (.slice none 0 0)) 5 (ptr m 0)) 6 (.bool false)) 7 (ptr m 0)) 8 (ptr m 0)) 9 (ptr m 2)) 10 v1) 11 v2) 3 v2) 12 v2) 13 (.int .i64 (Int.ofNat l4))) 14 (.int .i64 (Int.ofNat 0))) H3 (fun e => ceP e
  (fun a5 H6 =>
    K (a5 3) H6)
  (fun i7 => fun a5 H6 =>
    Cd (eqN i7 0) (
      K (a5 3) H6) (
      False))
  (fun a5 H6 =>
    K (a5 2) H6))) := by kernel_rfl

theorem memMade_W (con : CallT) (m : Nat) (H : CH) (K : KP) : funW Try.prog con 129 [ptr m 0] H K =
  (Ld H m 2 fun v1 =>
  AsLen v1 fun l2 =>
  K (.int .i64 (Int.ofNat l2)) H) := by kernel_rfl

theorem viewCas_W (con : CallT) (p a x y : Nat) (H : CH) (K : KP) : funW Try.prog con 109 [ptr p 0, .int .u64 (Int.ofNat a), .int .u64 (Int.ofNat x), .int .u64 (Int.ofNat y)] H K =
  (Ld H p 0 fun v1 =>
  Call1 Try.prog con 83 [v1, (.int .u64 (Int.ofNat a))] H fun v2 H3 =>
  AsWant v2 (False) fun b4 =>
  Cd b4 (
    Ld H3 p 0 fun v5 =>
    NotNil Try.prog v5 (
    AsPtr v5 fun p6 o7 =>
    Ld H3 p6 (Nat.add o7 0) fun v8 =>
    Mth Try.prog con v8 "shutter/arena.cas" [(.int .u64 (Int.ofNat a)), (.int .u64 (Int.ofNat x)), (.int .u64 (Int.ofNat y))] H3 fun v9 H10 =>
    Sc v9 (Call1 Try.prog con 84 [(ptr p 0), (.agg ⟨[(.int .i64 (Int.ofNat 0)), (.int .u8 (Int.ofNat 3)), (.int .u64 (Int.ofNat a)), (.int .u64 (Int.ofNat x)), (.int .u64 (Int.ofNat y)), (.slice none 0 0), (.int .u64 (Int.ofNat 0)), v9]⟩)] H10 fun v11 H12 =>
    K v9 H12))) (
    Call1 Try.prog con 84 [(ptr p 0), (.agg ⟨[(.int .i64 (Int.ofNat 0)), (.int .u8 (Int.ofNat 3)), (.int .u64 (Int.ofNat a)), (.int .u64 (Int.ofNat x)), (.int .u64 (Int.ofNat y)), (.slice none 0 0), (.int .u64 (Int.ofNat 0)), (.bool false)]⟩)] H3 fun v13 H14 =>
    K (.bool false) H14)) := by kernel_rfl

theorem viewAlloc_W (con : CallT) (p : Nat) (v : Value) (H : CH) (K : KP) : funW Try.prog con 34 [ptr p 0, v] H K =
  (AsLen v fun l1 =>
  Cd (ltZ (Int.ofNat 0) (Int.ofNat l1)) (
    Ld H p 0 fun v2 =>
    NotNil Try.prog v2 (
    AsPtr v2 fun p3 o4 =>
    Ld H p3 (Nat.add o4 0) fun v5 =>
    Mth Try.prog con v5 "shutter/arena.alloc" [v] H fun v6 H7 =>
    Call1 Try.prog con 87 [v] H7 fun v8 H9 =>
    Sc v6 (Sc v8 (Call1 Try.prog con 84 [(ptr p 0), (.agg ⟨[(.int .i64 (Int.ofNat 0)), (.int .u8 (Int.ofNat 5)), v6, (.int .u64 (Int.ofNat 0)), (.int .u64 (Int.ofNat 0)), v8, (.int .u64 (Int.ofNat 0)), (.bool false)]⟩)] H9 fun v10 H11 =>
    K v6 H11)))) (
    Call1 Try.prog con 87 [v] H fun v12 H13 =>
    Sc v12 (Call1 Try.prog con 84 [(ptr p 0), (.agg ⟨[(.int .i64 (Int.ofNat 0)), (.int .u8 (Int.ofNat 5)), (.int .u64 (Int.ofNat 0)), (.int .u64 (Int.ofNat 0)), (.int .u64 (Int.ofNat 0)), v12, (.int .u64 (Int.ofNat 0)), (.bool false)]⟩)] H13 fun v14 H15 =>
    K (.int .u64 (Int.ofNat 0)) H15))) := by kernel_rfl

theorem plainAdd_W (con : CallT) (p a x : Nat) (H : CH) (K : KP) : funW Try.prog con 224 [ptr p 0, .int .u64 (Int.ofNat a), .int .u64 (Int.ofNat x)] H K =
  (False) := by kernel_rfl

theorem plainAlloc_W (con : CallT) (p : Nat) (v : Value) (H : CH) (K : KP) : funW Try.prog con 225 [ptr p 0, v] H K =
  (AsLen v fun l1 =>
  Ld H p 0 fun v2 =>
  AsLen v2 fun l3 =>
  Ld H p 1 fun v4 =>
  AsInt .i64 v4 fun z5 =>
  InR (Int.sub (Int.ofNat l3) z5) (
  Cd (ltZ (Int.sub (Int.ofNat l3) z5) (Int.ofNat l1)) (
    K (.int .u64 (Int.ofNat 0)) H) (
    Ld H p 1 fun v6 =>
    Ld H p 1 fun v7 =>
    Ld H p 0 fun v8 =>
    Slc Try.prog H 23 v8 (some v6) none none fun v9 =>
    Cpy Try.prog 23 H v9 v fun v10 H11 =>
    AsInt .i64 v7 fun z12 =>
    AsInt .i64 v10 fun z13 =>
    InR (Int.add z12 z13) (
    St H11 p 1 [(.int .i64 (Int.add z12 z13))] fun H14 =>
    Ld H p 1 fun v15 =>
    Same v7 v15 (
    Ld H11 p 1 fun v16 =>
    Same v7 v16 (
    AsInt .i64 v6 fun z17 =>
    Must (cvOk .i64 z17) (
    K (.int .u64 (Int.ofNat (wrapN .u64 z17))) H14))))))) := by kernel_rfl

theorem plainCas_W (con : CallT) (p a x y : Nat) (H : CH) (K : KP) : funW Try.prog con 226 [ptr p 0, .int .u64 (Int.ofNat a), .int .u64 (Int.ofNat x), .int .u64 (Int.ofNat y)] H K =
  (Ld H p 0 fun v1 =>
  AsSlc v1 fun p2 o3 l4 c5 =>
  Must (ltN a l4) (
  Ld H p2 (Nat.add o3 (Nat.mul a 1)) fun v6 =>
  AsNat .u64 v6 fun n7 =>
  Cd (notB (eqN n7 x)) (
    K (.bool false) H) (
    Ld H p 0 fun v8 =>
    AsSlc v8 fun p9 o10 l11 c12 =>
    Must (ltN a l11) (
    St H p9 (Nat.add o10 (Nat.mul a 1)) [(.int .u64 (Int.ofNat y))] fun H13 =>
    K (.bool true) H13)))) := by kernel_rfl

theorem plainLoad_W (con : CallT) (p a : Nat) (H : CH) (K : KP) : funW Try.prog con 228 [ptr p 0, .int .u64 (Int.ofNat a)] H K =
  (Ld H p 0 fun v1 =>
  AsSlc v1 fun p2 o3 l4 c5 =>
  Must (ltN a l4) (
  Ld H p2 (Nat.add o3 (Nat.mul a 1)) fun v6 =>
  K v6 H)) := by kernel_rfl

theorem plainNext_W (con : CallT) (p : Nat) (H : CH) (K : KP) : funW Try.prog con 229 [ptr p 0] H K =
  (False) := by kernel_rfl

theorem plainSize_W (con : CallT) (p : Nat) (H : CH) (K : KP) : funW Try.prog con 230 [ptr p 0] H K =
  (Ld H p 0 fun v1 =>
  AsLen v1 fun l2 =>
  K (.int .i64 (Int.ofNat l2)) H) := by kernel_rfl

theorem plainStore_W (con : CallT) (p a x : Nat) (H : CH) (K : KP) : funW Try.prog con 231 [ptr p 0, .int .u64 (Int.ofNat a), .int .u64 (Int.ofNat x)] H K =
  (Ld H p 0 fun v1 =>
  AsSlc v1 fun p2 o3 l4 c5 =>
  Must (ltN a l4) (
  St H p2 (Nat.add o3 (Nat.mul a 1)) [(.int .u64 (Int.ofNat x))] fun H6 =>
  K (.tuple ⟨[]⟩) H6)) := by kernel_rfl

theorem cloneN_W (con : CallT) (v : Value) (H : CH) (K : KP) : funW Try.prog con 87 [v] H K =
  (IsNil .slc v fun b1 =>
  Cd b1 (
    K (.slice none 0 0) H) (
    Nw H (mkRow 22 0 []) fun p2 H3 =>
    App Try.prog 23 23 H3 (.slice (some ⟨p2, 0, none⟩) 0 0) v fun v4 H5 =>
    K v4 H5)) := by kernel_rfl

theorem cloneA_W (con : CallT) (v : Value) (H : CH) (K : KP) : funW Try.prog con 92 [v] H K =
  (IsNil .slc v fun b1 =>
  Cd b1 (
    K (.slice none 0 0) H) (
    Nw H (mkRow 87 0 []) fun p2 H3 =>
    App Try.prog 55 55 H3 (.slice (some ⟨p2, 0, none⟩) 0 0) v fun v4 H5 =>
    K v4 H5)) := by kernel_rfl

theorem refNew_W (con : CallT) (z : Int) (b : Bool) (H : CH) (K : KP) : funW Try.prog con 21 [.int .i64 z, .bool b] H K =
  (Cd (ltZ z (Int.ofNat 128)) (
    K (.tuple ⟨[(.pointer none), (.int .i64 (Int.ofNat 2))]⟩) H) (
    Cd (ltZ (Int.ofNat 4194304) z) (
      K (.tuple ⟨[(.pointer none), (.int .i64 (Int.ofNat 2))]⟩) H) (
      MkS Try.prog H 23 (.int .i64 z) (.int .i64 z) fun v1 H2 =>
      Sc v1 (Nw H2 (mkRow 58 0 [v1, (.int .i64 (Int.ofNat 1)), (.slice none 0 0), (.bool b)]) fun p3 H4 =>
      K (.tuple ⟨[(ptr p3 0), (.int .i64 (Int.ofNat 0))]⟩) H4)))) := by kernel_rfl

theorem refStore_W (con : CallT) (p a x : Nat) (t : Int) (H : CH) (K : KP) : funW Try.prog con 24 [ptr p 0, .int .i64 t, .int .u64 (Int.ofNat a), .int .u64 (Int.ofNat x)] H K =
  (Call1 Try.prog con 85 [(ptr p 0), (.int .u64 (Int.ofNat a)), (.int .u64 (Int.ofNat x))] H fun v1 H2 =>
  Call1 Try.prog con 86 [(ptr p 0), (.agg ⟨[(.int .i64 t), (.int .u8 (Int.ofNat 2)), (.int .u64 (Int.ofNat a)), (.int .u64 (Int.ofNat x)), (.int .u64 (Int.ofNat 0)), (.slice none 0 0), (.int .u64 (Int.ofNat 0)), (.bool false)]⟩)] H2 fun v3 H4 =>
  K (.tuple ⟨[]⟩) H4) := by kernel_rfl

theorem refLoad_W (con : CallT) (p a : Nat) (t : Int) (H : CH) (K : KP) : funW Try.prog con 88 [ptr p 0, .int .i64 t, .int .u64 (Int.ofNat a)] H K =
  (Call1 Try.prog con 126 [(ptr p 0), (.int .u64 (Int.ofNat a))] H fun v1 H2 =>
  Sc v1 (Call1 Try.prog con 86 [(ptr p 0), (.agg ⟨[(.int .i64 t), (.int .u8 (Int.ofNat 1)), (.int .u64 (Int.ofNat a)), (.int .u64 (Int.ofNat 0)), (.int .u64 (Int.ofNat 0)), (.slice none 0 0), v1, (.bool false)]⟩)] H2 fun v3 H4 =>
  K v1 H4)) := by kernel_rfl

theorem refPeek_W (con : CallT) (p a : Nat) (H : CH) (K : KP) : funW Try.prog con 126 [ptr p 0, .int .u64 (Int.ofNat a)] H K =
  (Ld H p 0 fun v1 =>
  AsLen v1 fun l2 =>
  Must (cvOk .i64 (Int.ofNat l2)) (
  Cd (leN (wrapN .u64 (Int.ofNat l2)) a) (
    K (.int .u64 (Int.ofNat 0)) H) (
    Ld H p 0 fun v3 =>
    AsSlc v3 fun p4 o5 l6 c7 =>
    Must (ltN a l6) (
    Ld H p4 (Nat.add o5 (Nat.mul a 1)) fun v8 =>
    K v8 H)))) := by kernel_rfl

theorem refSet_W (con : CallT) (p a x : Nat) (H : CH) (K : KP) : funW Try.prog con 85 [ptr p 0, .int .u64 (Int.ofNat a), .int .u64 (Int.ofNat x)] H K =
  (Ld H p 0 fun v1 =>
  AsLen v1 fun l2 =>
  Must (cvOk .i64 (Int.ofNat l2)) (
  Cd (ltN a (wrapN .u64 (Int.ofNat l2))) (
    Ld H p 0 fun v3 =>
    AsSlc v3 fun p4 o5 l6 c7 =>
    Must (ltN a l6) (
    St H p4 (Nat.add o5 (Nat.mul a 1)) [(.int .u64 (Int.ofNat x))] fun H8 =>
    K (.tuple ⟨[]⟩) H8)) (
    K (.tuple ⟨[]⟩) H))) := by kernel_rfl

theorem refNote_W (con : CallT) (p : Nat) (c0 c1 c2 c3 c4 c5 c6 c7 : Value) (H : CH) (K : KP) : funW Try.prog con 86 [ptr p 0, .agg ⟨[c0, c1, c2, c3, c4, c5, c6, c7]⟩] H K =
  (Nw H (mkRow 87 0 [c0, c1, c2, c3, c4, c5, c6, c7]) fun p1 H2 =>
  Ld H2 p 3 fun v3 =>
  AsBool v3 fun b4 =>
  Cd (notB b4) (
    Ld H2 p 2 fun v5 =>
    Ld H2 p1 0 fun v6 =>
    Ld H2 p1 1 fun v7 =>
    Ld H2 p1 2 fun v8 =>
    Ld H2 p1 3 fun v9 =>
    Ld H2 p1 4 fun v10 =>
    Ld H2 p1 5 fun v11 =>
    Ld H2 p1 6 fun v12 =>
    Ld H2 p1 7 fun v13 =>
    Nw H2 (mkRow 87 0 [v6, v7, v8, v9, v10, v11, v12, v13]) fun p14 H15 =>
    App Try.prog 55 55 H15 v5 (.slice (some ⟨p14, 0, none⟩) 1 1) fun v16 H17 =>
    Sc v16 (St H17 p 2 [v16] fun H18 =>
    Ld H2 p 2 fun v19 =>
    Same v5 v19 (
    Ld H15 p 2 fun v20 =>
    Same v5 v20 (
    K (.tuple ⟨[]⟩) H18)))) (
    K (.tuple ⟨[]⟩) H2)) := by kernel_rfl

theorem refAlloc_W (con : CallT) (p : Nat) (t : Int) (v : Value) (H : CH) (K : KP) : funW Try.prog con 164 [ptr p 0, .int .i64 t, v] H K =
  (AsLen v fun l1 =>
  Cd (ltZ (Int.ofNat 0) (Int.ofNat l1)) (
    AsLen v fun l2 =>
    Call1 Try.prog con 178 [(ptr p 0)] H fun v3 H4 =>
    AsInt .i64 v3 fun z5 =>
    Cd (leZ (Int.ofNat l2) z5) (
      Ld H4 p 1 fun v6 =>
      Ld H4 p 1 fun v7 =>
      AsLen v fun l8 =>
      AsInt .i64 v7 fun z9 =>
      InR (Int.add z9 (Int.ofNat l8)) (
      St H4 p 1 [(.int .i64 (Int.add z9 (Int.ofNat l8)))] fun H10 =>
      LoopC Try.prog con (lpAt Try.prog 164 0) (upd (upd (upd (upd (upd (upd (upd (upd (upd (upd (upd (upd (upd (upd (upd (upd (upd (upd (upd (upd (upd (upd (upd (upd (upd (upd (upd (upd (upd (upd (upd (upd (upd (upd (upd (upd (upd (fun _ => undV) 2 v) 1 (.int .i64 t)) 0 (ptr p 0)) 6 (.int .u64 (Int.ofNat 0))) 10 (ptr p 0)) 11 (.bool false)) 7 (.int .i64 (Int.ofNat 0))) 12 v) 13 (.int .i64 (Int.ofNat l1))) 14 (.bool (ltZ (Int.ofNat 0) (Int.ofNat l1)))) 15 (.bool (ltZ (Int.ofNat 0) (Int.ofNat l1)))) 15 (.bool true)) 16 v) 15 (.bool true)) 17 (.int .i64 (Int.ofNat l2))) 15 (.bool true)) 18 (ptr p 0)) 15 (.bool true)) 19 v3) 15 (.bool true)) 20 (.bool (leZ (Int.ofNat l2) z5))) 21 (.bool (leZ (Int.ofNat l2) z5))) 22 (ptr p 0)) 23 (ptr p 0)) 24 (ptr p 1)) 25 v6) 7 v6) 26 (ptr p 0)) 27 (ptr p 0)) 28 (ptr p 1)) 29 v7) 30 v) 31 (.int .i64 (Int.ofNat l8))) 32 (.int .i64 (Int.add z9 (Int.ofNat l8)))) 33 (ptr p 0)) 34 (ptr p 1)) 8 (.int .i64 (Int.ofNat 0))) H10 (fun e => ceP e
      (fun a11 H12 =>
        App Try.prog 23 23 H12 (.slice none 0 0) (a11 2) fun v14 H15 =>
        AsInt .i64 (a11 7) fun z16 =>
        Must (cvOk .i64 z16) (
        Sc (a11 1) (Sc v14 (Call1 Try.prog con 86 [(a11 0), (.agg ⟨[(a11 1), (.int .u8 (Int.ofNat 5)), (.int .u64 (Int.ofNat (wrapN .u64 z16))), (.int .u64 (Int.ofNat 0)), (.int .u64 (Int.ofNat 0)), v14, (.int .u64 (Int.ofNat 0)), (.bool false)]⟩)] H15 fun v17 H18 =>
        AsInt .i64 (a11 7) fun z19 =>
        Must (cvOk .i64 z19) (
        K (.int .u64 (Int.ofNat (wrapN .u64 z19))) H18)))))
      (fun i13 => fun a11 H12 =>
        Cd (eqN i13 0) (
          App Try.prog 23 23 H12 (.slice none 0 0) (a11 2) fun v20 H21 =>
          AsInt .i64 (a11 7) fun z22 =>
          Must (cvOk .i64 z22) (
          Sc (a11 1) (Sc v20 (Call1 Try.prog con 86 [(a11 0), (.agg ⟨[(a11 1), (.int .u8 (Int.ofNat 5)), (.int .u64 (Int.ofNat (wrapN .u64 z22))), (.int .u64 (Int.ofNat 0)), (.int .u64 (Int.ofNat 0)), v20, (.int .u64 (Int.ofNat 0)), (.bool false)]⟩)] H21 fun v23 H24 =>
          AsInt .i64 (a11 7) fun z25 =>
          Must (cvOk .i64 z25) (
          K (.int .u64 (Int.ofNat (wrapN .u64 z25))) H24))))) (
          False))
      (fun a11 H12 =>
        K (a11 6) H12)))) (
      App Try.prog 23 23 H4 (.slice none 0 0) v fun v26 H27 =>
      Must (cvOk .i64 (Int.ofNat 0)) (
      Sc v26 (Call1 Try.prog con 86 [(ptr p 0), (.agg ⟨[(.int .i64 t), (.int .u8 (Int.ofNat 5)), (.int .u64 (Int.ofNat (wrapN .u64 (Int.ofNat 0)))), (.int .u64 (Int.ofNat 0)), (.int .u64 (Int.ofNat 0)), v26, (.int .u64 (Int.ofNat 0)), (.bool false)]⟩)] H27 fun v28 H29 =>
      Must (cvOk .i64 (Int.ofNat 0)) (
      K (.int .u64 (Int.ofNat (wrapN .u64 (Int.ofNat 0)))) H29))))) (
    App Try.prog 23 23 H (.slice none 0 0) v fun v30 H31 =>
    Must (cvOk .i64 (Int.ofNat 0)) (
    Sc v30 (Call1 Try.prog con 86 [(ptr p 0), (.agg ⟨[(.int .i64 t), (.int .u8 (Int.ofNat 5)), (.int .u64 (Int.ofNat (wrapN .u64 (Int.ofNat 0)))), (.int .u64 (Int.ofNat 0)), (.int .u64 (Int.ofNat 0)), v30, (.int .u64 (Int.ofNat 0)), (.bool false)]⟩)] H31 fun v32 H33 =>
    Must (cvOk .i64 (Int.ofNat 0)) (
    K (.int .u64 (Int.ofNat (wrapN .u64 (Int.ofNat 0)))) H33))))) := by kernel_rfl

theorem refLeft_W (con : CallT) (p : Nat) (H : CH) (K : KP) : funW Try.prog con 178 [ptr p 0] H K =
  (Ld H p 0 fun v1 =>
  AsLen v1 fun l2 =>
  Ld H p 1 fun v3 =>
  AsInt .i64 v3 fun z4 =>
  InR (Int.sub (Int.ofNat l2) z4) (
  K (.int .i64 (Int.sub (Int.ofNat l2) z4)) H)) := by kernel_rfl

theorem sameTrace_W (con : CallT) (v w : Value) (H : CH) (K : KP) : funW Try.prog con 27 [v, w] H K =
  (AsLen v fun l1 =>
  AsLen w fun l2 =>
  Cd (notB (eqZ (Int.ofNat l1) (Int.ofNat l2))) (
    K (.bool false) H) (
    LoopC Try.prog con (lpAt Try.prog 27 0) (upd (upd (upd (upd (upd (upd (upd (upd (upd (fun _ => undV) 1 w) 0 v) 4 (.bool false)) 6 v) 7 (.int .i64 (Int.ofNat l1))) 8 w) 9 (.int .i64 (Int.ofNat l2))) 10 (.bool (notB (eqZ (Int.ofNat l1) (Int.ofNat l2))))) 5 (.int .i64 (Int.ofNat 0))) H (fun e => ceP e
    (fun a3 H4 =>
      K (.bool true) H4)
    (fun i5 => fun a3 H4 =>
      Cd (eqN i5 0) (
        K (.bool true) H4) (
        False))
    (fun a3 H4 =>
      K (a3 4) H4)))) := by kernel_rfl

theorem sameAccess_W (con : CallT) (c0 c1 c2 c3 c4 c5 c6 c7 d0 d1 d2 d3 d4 d5 d6 d7 : Value) (H : CH) (K : KP) : funW Try.prog con 91 [.agg ⟨[c0, c1, c2, c3, c4, c5, c6, c7]⟩, .agg ⟨[d0, d1, d2, d3, d4, d5, d6, d7]⟩] H K =
  (Nw H (mkRow 87 0 [c0, c1, c2, c3, c4, c5, c6, c7]) fun p1 H2 =>
  Nw H2 (mkRow 87 0 [d0, d1, d2, d3, d4, d5, d6, d7]) fun p3 H4 =>
  Ld H4 p1 0 fun v5 =>
  Ld H4 p3 0 fun v6 =>
  AsInt .i64 v5 fun z7 =>
  AsInt .i64 v6 fun z8 =>
  Cd (notB (eqZ z7 z8)) (
    K (.bool false) H4) (
    Ld H4 p1 1 fun v9 =>
    Ld H4 p3 1 fun v10 =>
    AsNat .u8 v9 fun n11 =>
    AsNat .u8 v10 fun n12 =>
    Cd (notB (eqN n11 n12)) (
      K (.bool false) H4) (
      Ld H4 p1 2 fun v13 =>
      Ld H4 p3 2 fun v14 =>
      AsNat .u64 v13 fun n15 =>
      AsNat .u64 v14 fun n16 =>
      Cd (notB (eqN n15 n16)) (
        K (.bool false) H4) (
        Ld H4 p1 3 fun v17 =>
        Ld H4 p3 3 fun v18 =>
        AsNat .u64 v17 fun n19 =>
        AsNat .u64 v18 fun n20 =>
        Cd (notB (eqN n19 n20)) (
          K (.bool false) H4) (
          Ld H4 p1 4 fun v21 =>
          Ld H4 p3 4 fun v22 =>
          AsNat .u64 v21 fun n23 =>
          AsNat .u64 v22 fun n24 =>
          Cd (notB (eqN n23 n24)) (
            K (.bool false) H4) (
            Ld H4 p1 6 fun v25 =>
            Ld H4 p3 6 fun v26 =>
            AsNat .u64 v25 fun n27 =>
            AsNat .u64 v26 fun n28 =>
            Cd (notB (eqN n27 n28)) (
              K (.bool false) H4) (
              Ld H4 p1 7 fun v29 =>
              Ld H4 p3 7 fun v30 =>
              AsBool v29 fun b31 =>
              AsBool v30 fun b32 =>
              Cd (notB (eqB b31 b32)) (
                K (.bool false) H4) (
                Ld H4 p1 5 fun v33 =>
                AsLen v33 fun l34 =>
                Ld H4 p3 5 fun v35 =>
                AsLen v35 fun l36 =>
                Cd (notB (eqZ (Int.ofNat l34) (Int.ofNat l36))) (
                  K (.bool false) H4) (
                  LoopC Try.prog con (lpAt Try.prog 91 0) (upd (upd (upd (upd (upd (upd (upd (upd (upd (upd (upd (upd (upd (upd (upd (upd (upd (upd (upd (upd (upd (upd (upd (upd (upd (upd (upd (upd (upd (upd (upd (upd (upd (upd (upd (upd (upd (upd (upd (upd (upd (upd (upd (upd (upd (upd (upd (upd (upd (upd (upd (upd (upd (upd (upd (upd (upd (upd (upd (upd (upd (upd (upd (upd (upd (upd (upd (upd (upd (upd (upd (upd (upd (upd (upd (upd (upd (upd (upd (upd (upd (upd (upd (upd (upd (upd (upd (upd (upd (upd (upd (upd (upd (upd (upd (upd (upd (upd (upd (fun _ => undV) 1 (.agg ⟨[d0, d1, d2, d3, d4, d5, d6, d7]⟩)) 0 (.agg ⟨[c0, c1, c2, c3, c4, c5, c6, c7]⟩)) 2 (ptr p1 0)) 3 (ptr p3 0)) 4 (.bool false)) 6 (ptr p1 0)) 7 v5) 8 (ptr p3 0)) 9 v6) 10 (.bool (notB (eqZ z7 z8)))) 11 (.bool (notB (eqZ z7 z8)))) 11 (.bool false)) 12 (ptr p1 1)) 11 (.bool false)) 13 v9) 11 (.bool false)) 14 (ptr p3 1)) 11 (.bool false)) 15 v10) 11 (.bool false)) 16 (.bool (notB (eqN n11 n12)))) 17 (.bool (notB (eqN n11 n12)))) 18 (.bool (notB (eqN n11 n12)))) 18 (.bool false)) 19 (ptr p1 2)) 18 (.bool false)) 20 v13) 18 (.bool false)) 21 (ptr p3 2)) 18 (.bool false)) 22 v14) 18 (.bool false)) 23 (.bool (notB (eqN n15 n16)))) 24 (.bool (notB (eqN n15 n16)))) 25 (.bool (notB (eqN n15 n16)))) 25 (.bool false)) 26 (ptr p1 3)) 25 (.bool false)) 27 v17) 25 (.bool false)) 28 (ptr p3 3)) 25 (.bool false)) 29 v18) 25 (.bool false)) 30 (.bool (notB (eqN n19 n20)))) 31 (.bool (notB (eqN n19 n20)))) 32 (.bool (notB (eqN n19 n20)))) 32 (.bool false)) 33 (ptr p1 4)) 32 (.bool false)) 34 v21) 32 (.bool false)) 35 (ptr p3 4)) 32 (.bool false)) 36 v22) 32 (.bool false)) 37 (.bool (notB (eqN n23 n24)))) 38 (.bool (notB (eqN n23 n24)))) 39 (.bool (notB (eqN n23 n24)))) 39 (.bool false)) 40 (ptr p1 6)) 39 (.bool false)) 41 v25) 39 (.bool false)) 42 (ptr p3 6)) 39 (.bool false)) 43 v26) 39 (.bool false)) 44 (.bool (notB (eqN n27 n28)))) 45 (.bool (notB (eqN n27 n28)))) 46 (.bool (notB (eqN n27 n28)))) 46 (.bool false)) 47 (ptr p1 7)) 46 (.bool false)) 48 v29) 46 (.bool false)) 49 (ptr p3 7)) 46 (.bool false)) 50 v30) 46 (.bool false)) 51 (.bool (notB (eqB b31 b32)))) 52 (.bool (notB (eqB b31 b32)))) 53 (.bool (notB (eqB b31 b32)))) 53 (.bool false)) 54 (ptr p1 5)) 53 (.bool false)) 55 v33) 53 (.bool false)) 56 (.int .i64 (Int.ofNat l34))) 53 (.bool false)) 57 (ptr p3 5)) 53 (.bool false)) 58 v35) 53 (.bool false)) 59 (.int .i64 (Int.ofNat l36))) 53 (.bool false)) 60 (.bool (notB (eqZ (Int.ofNat l34) (Int.ofNat l36))))) 61 (.bool (notB (eqZ (Int.ofNat l34) (Int.ofNat l36))))) 5 (.int .i64 (Int.ofNat 0))) H4 (fun e => ceP e
                  (fun a37 H38 =>
                    K (.bool true) H38)
                  (fun i39 => fun a37 H38 =>
                    Cd (eqN i39 0) (
                      K (.bool true) H38) (
                      False))
                  (fun a37 H38 =>
                    K (a37 4) H38))))))))))) := by kernel_rfl

end Go.Proofs.Ytipbbnoepphdkaa

/- What some functions' texts ask for, step by step, each checked by the kernel. No conditions. -/
set_option linter.unusedVariables false
namespace Go.Proofs.Ytipbbnoepphdkaa
open Go Go.CM

theorem sameAccessL_W (con : CallT) (a : TF) (H : CH) (K : KX) : codeW (lpAt Try.prog 91 0) Try.prog con a H K =
  (AsPtr (a 2) fun p1 o2 =>
  Ld H p1 (Nat.add o2 5) fun v3 =>
  AsLen v3 fun l4 =>
  AsInt .i64 (a 5) fun z5 =>
  Cd (ltZ z5 (Int.ofNat l4)) (
    AsPtr (a 2) fun p6 o7 =>
    Ld H p6 (Nat.add o7 5) fun v8 =>
    AsSlc v8 fun p9 o10 l11 c12 =>
    AsCnt (a 5) fun n13 =>
    Must (ltN n13 l11) (
    Ld H p9 (Nat.add o10 (Nat.mul n13 1)) fun v14 =>
    AsPtr (a 3) fun p15 o16 =>
    Ld H p15 (Nat.add o16 5) fun v17 =>
    AsSlc v17 fun p18 o19 l20 c21 =>
    AsCnt (a 5) fun n22 =>
    Must (ltN n22 l20) (
    Ld H p18 (Nat.add o19 (Nat.mul n22 1)) fun v23 =>
    AsNat .u64 v14 fun n24 =>
    AsNat .u64 v23 fun n25 =>
    Cd (notB (eqN n24 n25)) (
      K .ret (upd (upd (upd (upd (upd (upd (upd (upd (upd (upd (upd (upd (upd (upd (upd (upd (upd a 62 (a 5)) 63 (ptr p1 (Nat.add o2 5))) 64 v3) 65 (.int .i64 (Int.ofNat l4))) 66 (.bool (ltZ z5 (Int.ofNat l4)))) 69 (ptr p6 (Nat.add o7 5))) 70 v8) 71 (a 5)) 72 (ptr p9 (Nat.add o10 (Nat.mul n13 1)))) 73 v14) 74 (ptr p15 (Nat.add o16 5))) 75 v17) 76 (a 5)) 77 (ptr p18 (Nat.add o19 (Nat.mul n22 1)))) 78 v23) 79 (.bool (notB (eqN n24 n25)))) 4 (.bool false)) H) (
      AsInt .i64 (a 5) fun z26 =>
      InR (Int.add z26 (Int.ofNat 1)) (
      K .normal (upd (upd (upd (upd (upd (upd (upd (upd (upd (upd (upd (upd (upd (upd (upd (upd (upd (upd (upd a 62 (a 5)) 63 (ptr p1 (Nat.add o2 5))) 64 v3) 65 (.int .i64 (Int.ofNat l4))) 66 (.bool (ltZ z5 (Int.ofNat l4)))) 69 (ptr p6 (Nat.add o7 5))) 70 v8) 71 (a 5)) 72 (ptr p9 (Nat.add o10 (Nat.mul n13 1)))) 73 v14) 74 (ptr p15 (Nat.add o16 5))) 75 v17) 76 (a 5)) 77 (ptr p18 (Nat.add o19 (Nat.mul n22 1)))) 78 v23) 79 (.bool (notB (eqN n24 n25)))) 67 (a 5)) 68 (.int .i64 (Int.add z26 (Int.ofNat 1)))) 5 (.int .i64 (Int.add z26 (Int.ofNat 1)))) H))))) (
    K (.exit 0) (upd (upd (upd (upd (upd a 62 (a 5)) 63 (ptr p1 (Nat.add o2 5))) 64 v3) 65 (.int .i64 (Int.ofNat l4))) 66 (.bool (ltZ z5 (Int.ofNat l4)))) H)) := by kernel_rfl

theorem sameTraceL_W (con : CallT) (a : TF) (H : CH) (K : KX) : codeW (lpAt Try.prog 27 0) Try.prog con a H K =
  (AsLen (a 0) fun l1 =>
  AsInt .i64 (a 5) fun z2 =>
  Cd (ltZ z2 (Int.ofNat l1)) (
    AsSlc (a 0) fun p3 o4 l5 c6 =>
    AsCnt (a 5) fun n7 =>
    Must (ltN n7 l5) (
    Ld H p3 (Nat.add (Nat.add o4 (Nat.mul n7 8)) 0) fun v8 =>
    Ld H p3 (Nat.add (Nat.add o4 (Nat.mul n7 8)) 1) fun v9 =>
    Ld H p3 (Nat.add (Nat.add o4 (Nat.mul n7 8)) 2) fun v10 =>
    Ld H p3 (Nat.add (Nat.add o4 (Nat.mul n7 8)) 3) fun v11 =>
    Ld H p3 (Nat.add (Nat.add o4 (Nat.mul n7 8)) 4) fun v12 =>
    Ld H p3 (Nat.add (Nat.add o4 (Nat.mul n7 8)) 5) fun v13 =>
    Ld H p3 (Nat.add (Nat.add o4 (Nat.mul n7 8)) 6) fun v14 =>
    Ld H p3 (Nat.add (Nat.add o4 (Nat.mul n7 8)) 7) fun v15 =>
    AsSlc (a 1) fun p16 o17 l18 c19 =>
    AsCnt (a 5) fun n20 =>
    Must (ltN n20 l18) (
    Ld H p16 (Nat.add (Nat.add o17 (Nat.mul n20 8)) 0) fun v21 =>
    Ld H p16 (Nat.add (Nat.add o17 (Nat.mul n20 8)) 1) fun v22 =>
    Ld H p16 (Nat.add (Nat.add o17 (Nat.mul n20 8)) 2) fun v23 =>
    Ld H p16 (Nat.add (Nat.add o17 (Nat.mul n20 8)) 3) fun v24 =>
    Ld H p16 (Nat.add (Nat.add o17 (Nat.mul n20 8)) 4) fun v25 =>
    Ld H p16 (Nat.add (Nat.add o17 (Nat.mul n20 8)) 5) fun v26 =>
    Ld H p16 (Nat.add (Nat.add o17 (Nat.mul n20 8)) 6) fun v27 =>
    Ld H p16 (Nat.add (Nat.add o17 (Nat.mul n20 8)) 7) fun v28 =>
    Call1 Try.prog con 91 [(.agg ⟨[v8, v9, v10, v11, v12, v13, v14, v15]⟩), (.agg ⟨[v21, v22, v23, v24, v25, v26, v27, v28]⟩)] H fun v29 H30 =>
    AsBool v29 fun b31 =>
    Cd (notB b31) (
      K .ret (upd (upd (upd (upd (upd (upd (upd (upd (upd (upd (upd (upd (upd (upd (upd a 11 (a 5)) 12 (a 0)) 13 (.int .i64 (Int.ofNat l1))) 14 (.bool (ltZ z2 (Int.ofNat l1)))) 17 (a 0)) 18 (a 5)) 19 (ptr p3 (Nat.add o4 (Nat.mul n7 8)))) 20 (.agg ⟨[v8, v9, v10, v11, v12, v13, v14, v15]⟩)) 21 (a 1)) 22 (a 5)) 23 (ptr p16 (Nat.add o17 (Nat.mul n20 8)))) 24 (.agg ⟨[v21, v22, v23, v24, v25, v26, v27, v28]⟩)) 25 v29) 26 (.bool (notB b31))) 4 (.bool false)) H30) (
      AsInt .i64 (a 5) fun z32 =>
      InR (Int.add z32 (Int.ofNat 1)) (
      K .normal (upd (upd (upd (upd (upd (upd (upd (upd (upd (upd (upd (upd (upd (upd (upd (upd (upd a 11 (a 5)) 12 (a 0)) 13 (.int .i64 (Int.ofNat l1))) 14 (.bool (ltZ z2 (Int.ofNat l1)))) 17 (a 0)) 18 (a 5)) 19 (ptr p3 (Nat.add o4 (Nat.mul n7 8)))) 20 (.agg ⟨[v8, v9, v10, v11, v12, v13, v14, v15]⟩)) 21 (a 1)) 22 (a 5)) 23 (ptr p16 (Nat.add o17 (Nat.mul n20 8)))) 24 (.agg ⟨[v21, v22, v23, v24, v25, v26, v27, v28]⟩)) 25 v29) 26 (.bool (notB b31))) 15 (a 5)) 16 (.int .i64 (Int.add z32 (Int.ofNat 1)))) 5 (.int .i64 (Int.add z32 (Int.ofNat 1)))) H30))))) (
    K (.exit 0) (upd (upd (upd (upd a 11 (a 5)) 12 (a 0)) 13 (.int .i64 (Int.ofNat l1))) 14 (.bool (ltZ z2 (Int.ofNat l1)))) H)) := by kernel_rfl

theorem memTraceL_W (con : CallT) (a : TF) (H : CH) (K : KX) : codeW (lpAt Try.prog 28 0) Try.prog con a H K =
  (AsInt .i64 (a 14) fun z1 =>
  AsInt .i64 (a 13) fun z2 =>
  Cd (ltZ z1 z2) (
    AsSlc (a 3) fun p3 o4 l5 c6 =>
    AsCnt (a 14) fun n7 =>
    Must (ltN n7 l5) (
    Ld H p3 (Nat.add (Nat.add o4 (Nat.mul n7 8)) 5) fun v8 =>
    Call1 Try.prog con 87 [v8] H fun v9 H10 =>
    AsSlc (a 3) fun p11 o12 l13 c14 =>
    AsCnt (a 14) fun n15 =>
    Must (ltN n15 l13) (
    Sc v9 (St H10 p11 (Nat.add (Nat.add o12 (Nat.mul n15 8)) 5) [v9] fun H16 =>
    AsInt .i64 (a 14) fun z17 =>
    InR (Int.add z17 (Int.ofNat 1)) (
    K .normal (upd (upd (upd (upd (upd (upd (upd (upd (upd (upd (upd (upd (upd (upd (upd a 15 (.bool (ltZ z1 z2))) 16 (a 14)) 4 (a 14)) 17 (a 3)) 18 (a 14)) 19 (a 3)) 20 (a 14)) 21 (ptr p3 (Nat.add o4 (Nat.mul n7 8)))) 22 (ptr p3 (Nat.add (Nat.add o4 (Nat.mul n7 8)) 5))) 23 v8) 24 v9) 25 (ptr p11 (Nat.add o12 (Nat.mul n15 8)))) 26 (ptr p11 (Nat.add (Nat.add o12 (Nat.mul n15 8)) 5))) 27 (.int .i64 (Int.add z17 (Int.ofNat 1)))) 14 (.int .i64 (Int.add z17 (Int.ofNat 1)))) H16))))) (
    K (.exit 0) (upd a 15 (.bool (ltZ z1 z2))) H)) := by kernel_rfl

theorem refAllocL_W (con : CallT) (a : TF) (H : CH) (K : KX) : codeW (lpAt Try.prog 164 0) Try.prog con a H K =
  (AsLen (a 2) fun l1 =>
  AsInt .i64 (a 8) fun z2 =>
  Cd (ltZ z2 (Int.ofNat l1)) (
    NotNil Try.prog (a 0) (
    AsPtr (a 0) fun p3 o4 =>
    Ld H p3 (Nat.add o4 0) fun v5 =>
    AsInt .i64 (a 7) fun z6 =>
    AsInt .i64 (a 8) fun z7 =>
    InR (Int.add z6 z7) (
    AsSlc (a 2) fun p8 o9 l10 c11 =>
    AsCnt (a 8) fun n12 =>
    Must (ltN n12 l10) (
    Ld H p8 (Nat.add o9 (Nat.mul n12 1)) fun v13 =>
    AsSlc v5 fun p14 o15 l16 c17 =>
    AsCnt (.int .i64 (Int.add z6 z7)) fun n18 =>
    Must (ltN n18 l16) (
    Sc v13 (St H p14 (Nat.add o15 (Nat.mul n18 1)) [v13] fun H19 =>
    AsInt .i64 (a 8) fun z20 =>
    InR (Int.add z20 (Int.ofNat 1)) (
    K .normal (upd (upd (upd (upd (upd (upd (upd (upd (upd (upd (upd (upd (upd (upd (upd (upd (upd (upd (upd a 35 (a 8)) 36 (a 2)) 37 (.int .i64 (Int.ofNat l1))) 38 (.bool (ltZ z2 (Int.ofNat l1)))) 41 (a 0)) 42 (a 0)) 43 (ptr p3 (Nat.add o4 0))) 44 v5) 45 (a 7)) 46 (a 8)) 47 (.int .i64 (Int.add z6 z7))) 48 (a 2)) 49 (a 8)) 50 (ptr p8 (Nat.add o9 (Nat.mul n12 1)))) 51 v13) 52 (ptr p14 (Nat.add o15 (Nat.mul n18 1)))) 39 (a 8)) 40 (.int .i64 (Int.add z20 (Int.ofNat 1)))) 8 (.int .i64 (Int.add z20 (Int.ofNat 1)))) H19))))))) (
    K (.exit 0) (upd (upd (upd (upd a 35 (a 8)) 36 (a 2)) 37 (.int .i64 (Int.ofNat l1))) 38 (.bool (ltZ z2 (Int.ofNat l1)))) H)) := by kernel_rfl

end Go.Proofs.Ytipbbnoepphdkaa

/- What some functions' texts ask for, step by step, each checked by the kernel. No conditions. -/
set_option linter.unusedVariables false
namespace Go.Proofs.Ytipbbnoepphdkaa
open Go Go.CM

theorem needed_W (con : CallT) (xa xb xc xd : Value) (H : CH) (K : KP) : funW Try.prog con 12 [.agg ⟨[xa, xb]⟩, xc, xd] H K =
  (Nw H (mkRow 25 0 [xa, xb]) fun p1 H2 =>
  Sc xc (Nw H2 (mkRow 22 0 [xc]) fun p3 H4 =>
  Sc xd (Nw H4 (mkRow 22 0 [xd]) fun p5 H6 =>
  Ld H6 p5 0 fun v7 =>
  Ld H6 p3 0 fun v8 =>
  AsNat .u64 v7 fun n9 =>
  AsNat .u64 v8 fun n10 =>
  Cd (leN n9 n10) (
    K (.bool false) H6) (
    Ld H6 p5 0 fun v11 =>
    Ld H6 p1 0 fun v12 =>
    AsNat .u64 v11 fun n13 =>
    AsNat .u64 v12 fun n14 =>
    Cd (ltN n14 n13) (
      K (.bool true) H6) (
      Ld H6 p1 1 fun v15 =>
      Call1 Try.prog con 73 [v15, (.func (.func 72) ⟨[]⟩ ⟨[(ptr p3 0), (ptr p5 0)]⟩)] H6 fun v16 H17 =>
      K v16 H17))))) := by kernel_rfl

theorem refNeeded_W (con : CallT) (xa xb xc xd : Value) (H : CH) (K : KP) : funW Try.prog con 13 [.agg ⟨[xa, xb]⟩, xc, xd] H K =
  (Nw H (mkRow 25 0 [xa, xb]) fun p1 H2 =>
  AsNat .u64 xc fun n3 =>
  AsNat .u64 xd fun n4 =>
  Cd (leN n4 n3) (
    K (.bool false) H2) (
    Ld H2 p1 0 fun v5 =>
    AsNat .u64 v5 fun n6 =>
    AsNat .u64 xd fun n7 =>
    Cd (ltN n6 n7) (
      K (.bool true) H2) (
      LoopC Try.prog con (lpAt Try.prog 13 0) (upd (upd (upd (upd (upd (upd (upd (upd (upd (upd (upd (upd (upd (fun _ => undV) 2 xd) 1 xc) 0 (.agg ⟨[xa, xb]⟩)) 3 (ptr p1 0)) 6 (.bool false)) 8 xc) 9 xd) 10 (.bool (leN n4 n3))) 11 (ptr p1 0)) 12 v5) 13 xd) 14 (.bool (ltN n6 n7))) 7 (.int .i64 (Int.ofNat 0))) H2 (fun e => ceP e
      (fun a8 H9 =>
        K (.bool false) H9)
      (fun i10 => fun a8 H9 =>
        Cd (eqN i10 0) (
          K (.bool false) H9) (
          False))
      (fun a8 H9 =>
        K (a8 6) H9))))) := by kernel_rfl

theorem neededC_W (con : CallT) (x p q : Nat) (H : CH) (K : KP) : funW Try.prog con 72 [u64 x, ptr p 0, ptr q 0] H K =
  (Ld H p 0 fun v1 =>
  AsNat .u64 v1 fun n2 =>
  Cd (leN n2 x) (
    Ld H q 0 fun v3 =>
    AsNat .u64 v3 fun n4 =>
    K (.bool (ltN x n4)) H) (
    K (.bool false) H)) := by kernel_rfl

theorem containsF_W (con : CallT) (xa xf : Value) (H : CH) (K : KP) : funW Try.prog con 73 [xa, xf] H K =
  (Call1 Try.prog con 124 [xa, xf] H fun v1 H2 =>
  AsInt .i64 v1 fun z3 =>
  K (.bool (leZ (Int.ofNat 0) z3)) H2) := by kernel_rfl

theorem indexF_W (con : CallT) (xa xf : Value) (H : CH) (K : KP) : funW Try.prog con 124 [xa, xf] H K =
  (AsLen xa fun l1 =>
  LoopC Try.prog con (lpAt Try.prog 124 0) (upd (upd (upd (upd (upd (upd (fun _ => undV) 1 xf) 0 xa) 4 (.int .i64 (Int.ofNat 0))) 6 xa) 7 (.int .i64 (Int.ofNat l1))) 8 (.int .i64 (Int.ofNat 0))) H (fun e => ceP e
  (fun a2 H3 =>
    K (.int .i64 (Int.negSucc 0)) H3)
  (fun i4 => fun a2 H3 =>
    Cd (eqN i4 0) (
      K (.int .i64 (Int.negSucc 0)) H3) (
      False))
  (fun a2 H3 =>
    K (a2 4) H3))) := by kernel_rfl

theorem newCut_W (con : CallT) (xa xb : Nat) (xc xd : Value) (H : CH) (K : KP) : funW Try.prog con 25 [u64 xa, u64 xb, .agg ⟨[xc, xd]⟩] H K =
  (Nw H (mkRow 25 0 [xc, xd]) fun p1 H2 =>
  Ld H2 p1 0 fun v3 =>
  Ld H2 p1 1 fun v4 =>
  Call1 Try.prog con 87 [v4] H2 fun v5 H6 =>
  Sc v3 (Sc v5 (Nw H6 (mkRow 122 0 [(.int .u64 (Int.ofNat xb)), v3, v5, (.int .i64 (Int.ofNat 0)), (.int .u64 (Int.ofNat 0)), (.int .u64 (Int.ofNat 0)), (.int .u64 (Int.ofNat 0)), (.int .u64 (Int.ofNat 0)), (.int .u64 (Int.ofNat 0)), (.int .u64 (Int.ofNat 0)), (.int .u64 (Int.ofNat 0)), (.int .u64 (Int.ofNat 0))]) fun p7 H8 =>
  Ld H2 p1 0 fun v9 =>
  Same v3 v9 (
  Ld H6 p1 0 fun v10 =>
  Same v3 v10 (
  K (ptr p7 0) H8))))) := by kernel_rfl

theorem cutStep_W (con : CallT) (p q : Nat) (H : CH) (K : KP) : funW Try.prog con 14 [ptr p 0, ptr q 0] H K =
  (Ld H p 3 fun v1 =>
  AsInt .i64 v1 fun z2 =>
  Cd (eqZ z2 (Int.ofNat 0)) (
    Ld H p 0 fun v3 =>
    Call1 Try.prog con 74 [(ptr q 0), v3] H fun v4 H5 =>
    Sc v4 (St H5 p 4 [v4] fun H6 =>
    St H6 p 3 [(.int .i64 (Int.ofNat 1))] fun H7 =>
    Ld H7 p 4 fun v8 =>
    AsNat .u64 v8 fun n9 =>
    Cd (eqN n9 0) (
      St H7 p 3 [(.int .i64 (Int.ofNat 7))] fun H10 =>
      Ld H10 p 3 fun v11 =>
      AsInt .i64 v11 fun z12 =>
      Cd (eqZ z12 (Int.ofNat 7)) (
        Ld H10 p 11 fun v13 =>
        Sc v13 (St H10 p 10 [v13] fun H14 =>
        Ld H14 p 3 fun v15 =>
        AsInt .i64 v15 fun z16 =>
        K (.bool (eqZ z16 (Int.ofNat 7))) H14)) (
        Ld H10 p 3 fun v17 =>
        AsInt .i64 v17 fun z18 =>
        K (.bool (eqZ z18 (Int.ofNat 7))) H10)) (
      Ld H7 p 3 fun v19 =>
      AsInt .i64 v19 fun z20 =>
      Cd (eqZ z20 (Int.ofNat 7)) (
        Ld H7 p 11 fun v21 =>
        Sc v21 (St H7 p 10 [v21] fun H22 =>
        Ld H22 p 3 fun v23 =>
        AsInt .i64 v23 fun z24 =>
        K (.bool (eqZ z24 (Int.ofNat 7))) H22)) (
        Ld H7 p 3 fun v25 =>
        AsInt .i64 v25 fun z26 =>
        K (.bool (eqZ z26 (Int.ofNat 7))) H7)))) (
    AsInt .i64 v1 fun z27 =>
    Cd (eqZ z27 (Int.ofNat 1)) (
      Ld H p 4 fun v28 =>
      AsNat .u64 v28 fun n29 =>
      Call1 Try.prog con 74 [(ptr q 0), (.int .u64 (Int.ofNat (Nat.mod (Nat.add n29 1) 18446744073709551616)))] H fun v30 H31 =>
      Sc v30 (St H31 p 5 [v30] fun H32 =>
      Ld H32 p 5 fun v33 =>
      AsNat .u64 v33 fun n34 =>
      Cd (eqN n34 0) (
        St H32 p 5 [(.int .u64 (Int.ofNat 18446744073709551615))] fun H35 =>
        St H35 p 3 [(.int .i64 (Int.ofNat 2))] fun H36 =>
        Ld H36 p 3 fun v37 =>
        AsInt .i64 v37 fun z38 =>
        Cd (eqZ z38 (Int.ofNat 7)) (
          Ld H36 p 11 fun v39 =>
          Sc v39 (St H36 p 10 [v39] fun H40 =>
          Ld H40 p 3 fun v41 =>
          AsInt .i64 v41 fun z42 =>
          K (.bool (eqZ z42 (Int.ofNat 7))) H40)) (
          Ld H36 p 3 fun v43 =>
          AsInt .i64 v43 fun z44 =>
          K (.bool (eqZ z44 (Int.ofNat 7))) H36)) (
        St H32 p 3 [(.int .i64 (Int.ofNat 2))] fun H45 =>
        Ld H45 p 3 fun v46 =>
        AsInt .i64 v46 fun z47 =>
        Cd (eqZ z47 (Int.ofNat 7)) (
          Ld H45 p 11 fun v48 =>
          Sc v48 (St H45 p 10 [v48] fun H49 =>
          Ld H49 p 3 fun v50 =>
          AsInt .i64 v50 fun z51 =>
          K (.bool (eqZ z51 (Int.ofNat 7))) H49)) (
          Ld H45 p 3 fun v52 =>
          AsInt .i64 v52 fun z53 =>
          K (.bool (eqZ z53 (Int.ofNat 7))) H45)))) (
      AsInt .i64 v1 fun z54 =>
      Cd (eqZ z54 (Int.ofNat 2)) (
        Ld H p 4 fun v55 =>
        Call1 Try.prog con 74 [(ptr q 0), v55] H fun v56 H57 =>
        Sc v56 (St H57 p 11 [v56] fun H58 =>
        St H58 p 3 [(.int .i64 (Int.ofNat 3))] fun H59 =>
        Ld H59 p 3 fun v60 =>
        AsInt .i64 v60 fun z61 =>
        Cd (eqZ z61 (Int.ofNat 7)) (
          Ld H59 p 11 fun v62 =>
          Sc v62 (St H59 p 10 [v62] fun H63 =>
          Ld H63 p 3 fun v64 =>
          AsInt .i64 v64 fun z65 =>
          K (.bool (eqZ z65 (Int.ofNat 7))) H63)) (
          Ld H59 p 3 fun v66 =>
          AsInt .i64 v66 fun z67 =>
          K (.bool (eqZ z67 (Int.ofNat 7))) H59))) (
        AsInt .i64 v1 fun z68 =>
        Cd (eqZ z68 (Int.ofNat 3)) (
          Ld H p 4 fun v69 =>
          AsNat .u64 v69 fun n70 =>
          Call1 Try.prog con 74 [(ptr q 0), (.int .u64 (Int.ofNat (Nat.mod (Nat.add n70 2) 18446744073709551616)))] H fun v71 H72 =>
          Sc v71 (St H72 p 7 [v71] fun H73 =>
          Ld H73 p 7 fun v74 =>
          Sc v74 (St H73 p 6 [v74] fun H75 =>
          Call1 Try.prog con 75 [(ptr p 0)] H75 fun v76 H77 =>
          Ld H77 p 3 fun v78 =>
          AsInt .i64 v78 fun z79 =>
          Cd (eqZ z79 (Int.ofNat 7)) (
            Ld H77 p 11 fun v80 =>
            Sc v80 (St H77 p 10 [v80] fun H81 =>
            Ld H81 p 3 fun v82 =>
            AsInt .i64 v82 fun z83 =>
            K (.bool (eqZ z83 (Int.ofNat 7))) H81)) (
            Ld H77 p 3 fun v84 =>
            AsInt .i64 v84 fun z85 =>
            K (.bool (eqZ z85 (Int.ofNat 7))) H77)))) (
          AsInt .i64 v1 fun z86 =>
          Cd (eqZ z86 (Int.ofNat 4)) (
            Ld H p 6 fun v87 =>
            AsNat .u64 v87 fun n88 =>
            Call1 Try.prog con 74 [(ptr q 0), (.int .u64 (Int.ofNat (Nat.mod (Nat.add n88 1) 18446744073709551616)))] H fun v89 H90 =>
            Sc v89 (St H90 p 8 [v89] fun H91 =>
            Ld H91 p 1 fun v92 =>
            Ld H91 p 2 fun v93 =>
            Ld H91 p 8 fun v94 =>
            Ld H91 p 5 fun v95 =>
            Call1 Try.prog con 12 [(.agg ⟨[v92, v93]⟩), v94, v95] H91 fun v96 H97 =>
            AsBool v96 fun b98 =>
            Cd b98 (
              Call1 Try.prog con 76 [(ptr p 0)] H97 fun v99 H100 =>
              Ld H100 p 3 fun v101 =>
              AsInt .i64 v101 fun z102 =>
              Cd (eqZ z102 (Int.ofNat 7)) (
                Ld H100 p 11 fun v103 =>
                Sc v103 (St H100 p 10 [v103] fun H104 =>
                Ld H104 p 3 fun v105 =>
                AsInt .i64 v105 fun z106 =>
                K (.bool (eqZ z106 (Int.ofNat 7))) H104)) (
                Ld H100 p 3 fun v107 =>
                AsInt .i64 v107 fun z108 =>
                K (.bool (eqZ z108 (Int.ofNat 7))) H100)) (
              Ld H97 p 9 fun v109 =>
              AsNat .u64 v109 fun n110 =>
              St H97 p 9 [(.int .u64 (Int.ofNat (Nat.mod (Nat.add n110 1) 18446744073709551616)))] fun H111 =>
              St H111 p 3 [(.int .i64 (Int.ofNat 5))] fun H112 =>
              Ld H112 p 3 fun v113 =>
              AsInt .i64 v113 fun z114 =>
              Cd (eqZ z114 (Int.ofNat 7)) (
                Ld H112 p 11 fun v115 =>
                Sc v115 (St H112 p 10 [v115] fun H116 =>
                Ld H116 p 3 fun v117 =>
                AsInt .i64 v117 fun z118 =>
                K (.bool (eqZ z118 (Int.ofNat 7))) H116)) (
                Ld H112 p 3 fun v119 =>
                AsInt .i64 v119 fun z120 =>
                K (.bool (eqZ z120 (Int.ofNat 7))) H112)))) (
            AsInt .i64 v1 fun z121 =>
            Cd (eqZ z121 (Int.ofNat 5)) (
              Ld H p 6 fun v122 =>
              AsNat .u64 v122 fun n123 =>
              Call1 Try.prog con 74 [(ptr q 0), (.int .u64 (Int.ofNat (Nat.mod (Nat.add n123 2) 18446744073709551616)))] H fun v124 H125 =>
              Sc v124 (St H125 p 6 [v124] fun H126 =>
              Call1 Try.prog con 75 [(ptr p 0)] H126 fun v127 H128 =>
              Ld H128 p 3 fun v129 =>
              AsInt .i64 v129 fun z130 =>
              Cd (eqZ z130 (Int.ofNat 7)) (
                Ld H128 p 11 fun v131 =>
                Sc v131 (St H128 p 10 [v131] fun H132 =>
                Ld H132 p 3 fun v133 =>
                AsInt .i64 v133 fun z134 =>
                K (.bool (eqZ z134 (Int.ofNat 7))) H132)) (
                Ld H128 p 3 fun v135 =>
                AsInt .i64 v135 fun z136 =>
                K (.bool (eqZ z136 (Int.ofNat 7))) H128))) (
              AsInt .i64 v1 fun z137 =>
              Cd (eqZ z137 (Int.ofNat 6)) (
                Ld H p 4 fun v138 =>
                AsNat .u64 v138 fun n139 =>
                Ld H p 6 fun v140 =>
                Call1 Try.prog con 23 [(ptr q 0), (.int .u64 (Int.ofNat (Nat.mod (Nat.add n139 2) 18446744073709551616))), v140] H fun v141 H142 =>
                Call1 Try.prog con 77 [(ptr p 0)] H142 fun v143 H144 =>
                Ld H144 p 3 fun v145 =>
                AsInt .i64 v145 fun z146 =>
                Cd (eqZ z146 (Int.ofNat 7)) (
                  Ld H144 p 11 fun v147 =>
                  Sc v147 (St H144 p 10 [v147] fun H148 =>
                  Ld H148 p 3 fun v149 =>
                  AsInt .i64 v149 fun z150 =>
                  K (.bool (eqZ z150 (Int.ofNat 7))) H148)) (
                  Ld H144 p 3 fun v151 =>
                  AsInt .i64 v151 fun z152 =>
                  K (.bool (eqZ z152 (Int.ofNat 7))) H144)) (
                Ld H p 3 fun v153 =>
                AsInt .i64 v153 fun z154 =>
                Cd (eqZ z154 (Int.ofNat 7)) (
                  Ld H p 11 fun v155 =>
                  Sc v155 (St H p 10 [v155] fun H156 =>
                  Ld H156 p 3 fun v157 =>
                  AsInt .i64 v157 fun z158 =>
                  K (.bool (eqZ z158 (Int.ofNat 7))) H156)) (
                  Ld H p 3 fun v159 =>
                  AsInt .i64 v159 fun z160 =>
                  K (.bool (eqZ z160 (Int.ofNat 7))) H))))))))) := by kernel_rfl

theorem cutOn_W (con : CallT) (p : Nat) (H : CH) (K : KP) : funW Try.prog con 75 [ptr p 0] H K =
  (St H p 3 [(.int .i64 (Int.ofNat 4))] fun H1 =>
  Ld H1 p 6 fun v2 =>
  AsNat .u64 v2 fun n3 =>
  Cd (eqN n3 0) (
    Call1 Try.prog con 76 [(ptr p 0)] H1 fun v4 H5 =>
    K (.tuple ⟨[]⟩) H5) (
    K (.tuple ⟨[]⟩) H1)) := by kernel_rfl

theorem cutStay_W (con : CallT) (p : Nat) (H : CH) (K : KP) : funW Try.prog con 76 [ptr p 0] H K =
  (Ld H p 6 fun v1 =>
  Ld H p 7 fun v2 =>
  AsNat .u64 v1 fun n3 =>
  AsNat .u64 v2 fun n4 =>
  Cd (notB (eqN n3 n4)) (
    St H p 3 [(.int .i64 (Int.ofNat 6))] fun H5 =>
    K (.tuple ⟨[]⟩) H5) (
    Call1 Try.prog con 77 [(ptr p 0)] H fun v6 H7 =>
    K (.tuple ⟨[]⟩) H7)) := by kernel_rfl

theorem cutFurther_W (con : CallT) (p : Nat) (H : CH) (K : KP) : funW Try.prog con 77 [ptr p 0] H K =
  (St H p 3 [(.int .i64 (Int.ofNat 7))] fun H1 =>
  Ld H1 p 6 fun v2 =>
  AsNat .u64 v2 fun n3 =>
  Cd (notB (eqN n3 0)) (
    Ld H1 p 6 fun v4 =>
    Ld H1 p 8 fun v5 =>
    Sc v4 (St H1 p 4 [v4] fun H6 =>
    Sc v5 (St H6 p 5 [v5] fun H7 =>
    St H7 p 3 [(.int .i64 (Int.ofNat 3))] fun H8 =>
    K (.tuple ⟨[]⟩) H8))) (
    K (.tuple ⟨[]⟩) H1)) := by kernel_rfl

theorem cutCount_W (con : CallT) (p : Nat) (H : CH) (K : KP) : funW Try.prog con 16 [ptr p 0] H K =
  (Ld H p 3 fun v1 =>
  AsInt .i64 v1 fun z2 =>
  Cd (notB (eqZ z2 (Int.ofNat 7))) (
    K (.int .u64 (Int.ofNat 0)) H) (
    Ld H p 9 fun v3 =>
    K v3 H)) := by kernel_rfl

theorem cutHead_W (con : CallT) (p : Nat) (H : CH) (K : KP) : funW Try.prog con 17 [ptr p 0] H K =
  (Ld H p 10 fun v1 =>
  K v1 H) := by kernel_rfl

theorem rcutStep_W (con : CallT) (p m : Nat) (t : Int) (H : CH) (K : KP) : funW Try.prog con 26 [ptr p 0, ptr m 0, i64 t] H K =
  (Ld H p 0 fun v1 =>
  AsInt .i64 v1 fun z2 =>
  Cd (eqZ z2 (Int.ofNat 0)) (
    Ld H p 1 fun v3 =>
    Call1 Try.prog con 88 [(ptr m 0), (.int .i64 t), v3] H fun v4 H5 =>
    Sc v4 (St H5 p 4 [v4] fun H6 =>
    St H6 p 0 [(.int .i64 (Int.ofNat 1))] fun H7 =>
    Ld H7 p 4 fun v8 =>
    AsNat .u64 v8 fun n9 =>
    Cd (eqN n9 0) (
      Call1 Try.prog con 89 [(ptr p 0)] H7 fun v10 H11 =>
      Ld H11 p 0 fun v12 =>
      AsInt .i64 v12 fun z13 =>
      K (.bool (eqZ z13 (Int.ofNat 9))) H11) (
      Ld H7 p 0 fun v14 =>
      AsInt .i64 v14 fun z15 =>
      K (.bool (eqZ z15 (Int.ofNat 9))) H7))) (
    AsInt .i64 v1 fun z16 =>
    Cd (eqZ z16 (Int.ofNat 1)) (
      Ld H p 4 fun v17 =>
      AsNat .u64 v17 fun n18 =>
      Call1 Try.prog con 88 [(ptr m 0), (.int .i64 t), (.int .u64 (Int.ofNat (Nat.mod (Nat.add n18 1) 18446744073709551616)))] H fun v19 H20 =>
      Sc v19 (St H20 p 5 [v19] fun H21 =>
      Ld H21 p 5 fun v22 =>
      AsNat .u64 v22 fun n23 =>
      Cd (eqN n23 0) (
        St H21 p 5 [(.int .u64 (Int.ofNat 18446744073709551615))] fun H24 =>
        St H24 p 0 [(.int .i64 (Int.ofNat 2))] fun H25 =>
        Ld H25 p 0 fun v26 =>
        AsInt .i64 v26 fun z27 =>
        K (.bool (eqZ z27 (Int.ofNat 9))) H25) (
        St H21 p 0 [(.int .i64 (Int.ofNat 2))] fun H28 =>
        Ld H28 p 0 fun v29 =>
        AsInt .i64 v29 fun z30 =>
        K (.bool (eqZ z30 (Int.ofNat 9))) H28))) (
      AsInt .i64 v1 fun z31 =>
      Cd (eqZ z31 (Int.ofNat 2)) (
        Ld H p 4 fun v32 =>
        Call1 Try.prog con 88 [(ptr m 0), (.int .i64 t), v32] H fun v33 H34 =>
        Sc v33 (St H34 p 10 [v33] fun H35 =>
        St H35 p 0 [(.int .i64 (Int.ofNat 3))] fun H36 =>
        Ld H36 p 0 fun v37 =>
        AsInt .i64 v37 fun z38 =>
        K (.bool (eqZ z38 (Int.ofNat 9))) H36)) (
        AsInt .i64 v1 fun z39 =>
        Cd (eqZ z39 (Int.ofNat 3)) (
          Ld H p 4 fun v40 =>
          AsNat .u64 v40 fun n41 =>
          Call1 Try.prog con 88 [(ptr m 0), (.int .i64 t), (.int .u64 (Int.ofNat (Nat.mod (Nat.add n41 2) 18446744073709551616)))] H fun v42 H43 =>
          Sc v42 (St H43 p 6 [v42] fun H44 =>
          Ld H44 p 6 fun v45 =>
          Sc v45 (St H44 p 7 [v45] fun H46 =>
          St H46 p 0 [(.int .i64 (Int.ofNat 4))] fun H47 =>
          Ld H47 p 6 fun v48 =>
          AsNat .u64 v48 fun n49 =>
          Cd (eqN n49 0) (
            Call1 Try.prog con 89 [(ptr p 0)] H47 fun v50 H51 =>
            Ld H51 p 0 fun v52 =>
            AsInt .i64 v52 fun z53 =>
            K (.bool (eqZ z53 (Int.ofNat 9))) H51) (
            Ld H47 p 0 fun v54 =>
            AsInt .i64 v54 fun z55 =>
            K (.bool (eqZ z55 (Int.ofNat 9))) H47)))) (
          AsInt .i64 v1 fun z56 =>
          Cd (eqZ z56 (Int.ofNat 4)) (
            Ld H p 6 fun v57 =>
            AsNat .u64 v57 fun n58 =>
            Call1 Try.prog con 88 [(ptr m 0), (.int .i64 t), (.int .u64 (Int.ofNat (Nat.mod (Nat.add n58 1) 18446744073709551616)))] H fun v59 H60 =>
            Ld H60 p 2 fun v61 =>
            Ld H60 p 3 fun v62 =>
            Ld H60 p 5 fun v63 =>
            Call1 Try.prog con 13 [(.agg ⟨[v61, v62]⟩), v59, v63] H60 fun v64 H65 =>
            AsBool v64 fun b66 =>
            Cd b66 (
              Call1 Try.prog con 90 [(ptr p 0), v59] H65 fun v67 H68 =>
              Ld H68 p 0 fun v69 =>
              AsInt .i64 v69 fun z70 =>
              K (.bool (eqZ z70 (Int.ofNat 9))) H68) (
              Ld H65 p 9 fun v71 =>
              AsNat .u64 v71 fun n72 =>
              St H65 p 9 [(.int .u64 (Int.ofNat (Nat.mod (Nat.add n72 1) 18446744073709551616)))] fun H73 =>
              St H73 p 0 [(.int .i64 (Int.ofNat 5))] fun H74 =>
              Ld H74 p 0 fun v75 =>
              AsInt .i64 v75 fun z76 =>
              K (.bool (eqZ z76 (Int.ofNat 9))) H74)) (
            AsInt .i64 v1 fun z77 =>
            Cd (eqZ z77 (Int.ofNat 5)) (
              Ld H p 6 fun v78 =>
              AsNat .u64 v78 fun n79 =>
              Call1 Try.prog con 88 [(ptr m 0), (.int .i64 t), (.int .u64 (Int.ofNat (Nat.mod (Nat.add n79 2) 18446744073709551616)))] H fun v80 H81 =>
              Sc v80 (St H81 p 6 [v80] fun H82 =>
              St H82 p 0 [(.int .i64 (Int.ofNat 4))] fun H83 =>
              Ld H83 p 6 fun v84 =>
              AsNat .u64 v84 fun n85 =>
              Cd (eqN n85 0) (
                Call1 Try.prog con 90 [(ptr p 0), (.int .u64 (Int.ofNat 0))] H83 fun v86 H87 =>
                Ld H87 p 0 fun v88 =>
                AsInt .i64 v88 fun z89 =>
                K (.bool (eqZ z89 (Int.ofNat 9))) H87) (
                Ld H83 p 0 fun v90 =>
                AsInt .i64 v90 fun z91 =>
                K (.bool (eqZ z91 (Int.ofNat 9))) H83))) (
              AsInt .i64 v1 fun z92 =>
              Cd (eqZ z92 (Int.ofNat 6)) (
                Ld H p 4 fun v93 =>
                AsNat .u64 v93 fun n94 =>
                Ld H p 6 fun v95 =>
                Call1 Try.prog con 24 [(ptr m 0), (.int .i64 t), (.int .u64 (Int.ofNat (Nat.mod (Nat.add n94 2) 18446744073709551616))), v95] H fun v96 H97 =>
                St H97 p 0 [(.int .i64 (Int.ofNat 3))] fun H98 =>
                Ld H98 p 6 fun v99 =>
                AsNat .u64 v99 fun n100 =>
                Cd (eqN n100 0) (
                  Call1 Try.prog con 89 [(ptr p 0)] H98 fun v101 H102 =>
                  Ld H102 p 0 fun v103 =>
                  AsInt .i64 v103 fun z104 =>
                  K (.bool (eqZ z104 (Int.ofNat 9))) H102) (
                  Ld H98 p 6 fun v105 =>
                  Ld H98 p 8 fun v106 =>
                  Sc v105 (St H98 p 4 [v105] fun H107 =>
                  Sc v106 (St H107 p 5 [v106] fun H108 =>
                  Ld H108 p 0 fun v109 =>
                  AsInt .i64 v109 fun z110 =>
                  K (.bool (eqZ z110 (Int.ofNat 9))) H108)))) (
                Ld H p 0 fun v111 =>
                AsInt .i64 v111 fun z112 =>
                K (.bool (eqZ z112 (Int.ofNat 9))) H)))))))) := by kernel_rfl

theorem rcutEnd_W (con : CallT) (p : Nat) (H : CH) (K : KP) : funW Try.prog con 89 [ptr p 0] H K =
  (Ld H p 9 fun v1 =>
  Sc v1 (St H p 11 [v1] fun H2 =>
  Ld H2 p 10 fun v3 =>
  Sc v3 (St H2 p 12 [v3] fun H4 =>
  St H4 p 0 [(.int .i64 (Int.ofNat 9))] fun H5 =>
  K (.tuple ⟨[]⟩) H5))) := by kernel_rfl

theorem rcutEnough_W (con : CallT) (p a : Nat) (H : CH) (K : KP) : funW Try.prog con 90 [ptr p 0, u64 a] H K =
  (St H p 8 [(.int .u64 (Int.ofNat a))] fun H1 =>
  Ld H1 p 6 fun v2 =>
  Ld H1 p 7 fun v3 =>
  AsNat .u64 v2 fun n4 =>
  AsNat .u64 v3 fun n5 =>
  Cd (notB (eqN n4 n5)) (
    St H1 p 0 [(.int .i64 (Int.ofNat 6))] fun H6 =>
    K (.tuple ⟨[]⟩) H6) (
    Ld H1 p 6 fun v7 =>
    AsNat .u64 v7 fun n8 =>
    Cd (eqN n8 0) (
      Call1 Try.prog con 89 [(ptr p 0)] H1 fun v9 H10 =>
      K (.tuple ⟨[]⟩) H10) (
      Ld H1 p 6 fun v11 =>
      Sc v11 (St H1 p 4 [v11] fun H12 =>
      St H12 p 5 [(.int .u64 (Int.ofNat a))] fun H13 =>
      St H13 p 0 [(.int .i64 (Int.ofNat 3))] fun H14 =>
      K (.tuple ⟨[]⟩) H14)))) := by kernel_rfl

theorem cutAny_W (con : CallT) (xa xb : Value) (obj fl : Nat) (H : CH) (K : KP) : funW Try.prog con 5 [xa, u64 obj, .agg ⟨[u64 fl, xb]⟩] H K =
  (Nw H (mkRow 25 0 [(.int .u64 (Int.ofNat fl)), xb]) fun p1 H2 =>
  Call1 Try.prog con 20 [(.int .i64 (Int.ofNat 256)), (.bool false)] H2 fun v3 H4 =>
  AsTup v3 fun l5 =>
  Nth l5 0 fun v6 =>
  AsTup v3 fun l7 =>
  Nth l7 1 fun v8 =>
  AsInt .i64 v8 fun z9 =>
  Cd (notB (eqZ z9 (Int.ofNat 0))) (
    K (.bool false) H4) (
    Call1 Try.prog con 21 [(.int .i64 (Int.ofNat 256)), (.bool false)] H4 fun v10 H11 =>
    AsTup v10 fun l12 =>
    Nth l12 0 fun v13 =>
    AsTup v10 fun l14 =>
    Nth l14 1 fun v15 =>
    Call1 Try.prog con 22 [v6, (.int .i64 (Int.ofNat 0))] H11 fun v16 H17 =>
    LoopC Try.prog con (lpAt Try.prog 5 0) (upd (upd (upd (upd (upd (upd (upd (upd (upd (upd (upd (upd (upd (upd (upd (upd (upd (upd (upd (upd (upd (upd (upd (fun _ => undV) 2 (.agg ⟨[(.int .u64 (Int.ofNat fl)), xb]⟩)) 1 (.int .u64 (Int.ofNat obj))) 0 xa) 5 (ptr p1 0)) 6 (.bool false)) 19 v3) 18 v3) 20 v6) 21 v8) 7 v6) 8 v8) 22 v8) 23 (.bool (notB (eqZ z9 (Int.ofNat 0))))) 25 v10) 24 v10) 26 v13) 27 v15) 9 v13) 10 v15) 28 v6) 29 v16) 11 v16) 12 (.int .i64 (Int.ofNat 0))) H17 (fun e => ceP e
    (fun a18 H19 =>
      AsPtr (a18 5) fun p21 o22 =>
      Ld H19 p21 (Nat.add o22 0) fun v23 =>
      Ld H19 p21 (Nat.add o22 1) fun v24 =>
      Call1 Try.prog con 25 [(.int .u64 (Int.ofNat 1)), (a18 1), (.agg ⟨[v23, v24]⟩)] H19 fun v25 H26 =>
      AsPtr (a18 5) fun p27 o28 =>
      Ld H26 p27 (Nat.add o28 0) fun v29 =>
      Ld H26 p27 (Nat.add o28 1) fun v30 =>
      Sc (a18 1) (Nw H26 (mkRow 52 0 [(.int .i64 (Int.ofNat 0)), (a18 1), v29, v30, (.int .u64 (Int.ofNat 0)), (.int .u64 (Int.ofNat 0)), (.int .u64 (Int.ofNat 0)), (.int .u64 (Int.ofNat 0)), (.int .u64 (Int.ofNat 0)), (.int .u64 (Int.ofNat 0)), (.int .u64 (Int.ofNat 0)), (.int .u64 (Int.ofNat 0)), (.int .u64 (Int.ofNat 0))]) fun p31 H32 =>
      LoopC Try.prog con (lpAt Try.prog 5 1) (upd (upd (upd (upd (upd (upd (upd (upd (upd (upd a18 56 (a18 1)) 57 (.agg ⟨[v23, v24]⟩)) 58 v25) 13 v25) 59 (a18 1)) 60 (.agg ⟨[v29, v30]⟩)) 61 (.agg ⟨[(.int .i64 (Int.ofNat 0)), (a18 1), v29, v30, (.int .u64 (Int.ofNat 0)), (.int .u64 (Int.ofNat 0)), (.int .u64 (Int.ofNat 0)), (.int .u64 (Int.ofNat 0)), (.int .u64 (Int.ofNat 0)), (.int .u64 (Int.ofNat 0)), (.int .u64 (Int.ofNat 0)), (.int .u64 (Int.ofNat 0)), (.int .u64 (Int.ofNat 0))]⟩)) 62 (ptr p31 0)) 14 (ptr p31 0)) 15 (.int .i64 (Int.ofNat 0))) H32 (fun e => ceP e
      (fun a33 H34 =>
        Call1 Try.prog con 11 [] H34 fun v36 H37 =>
        AsWant v36 (False) fun b38 =>
        Cd b38 (
          Call1 Try.prog con 28 [(a33 7)] H37 fun v39 H40 =>
          NotNil Try.prog (a33 9) (
          AsPtr (a33 9) fun p41 o42 =>
          Ld H40 p41 (Nat.add o42 2) fun v43 =>
          Call1 Try.prog con 27 [v39, v43] H40 fun v44 H45 =>
          Ld H37 p41 (Nat.add o42 2) fun v46 =>
          Same v43 v46 (
          Ld H40 p41 (Nat.add o42 2) fun v47 =>
          Same v43 v47 (
          K v44 H45)))) (
          K (.bool false) H37))
      (fun i35 => fun a33 H34 =>
        Cd (eqN i35 2) (
          Call1 Try.prog con 11 [] H34 fun v48 H49 =>
          AsWant v48 (False) fun b50 =>
          Cd b50 (
            Call1 Try.prog con 28 [(a33 7)] H49 fun v51 H52 =>
            NotNil Try.prog (a33 9) (
            AsPtr (a33 9) fun p53 o54 =>
            Ld H52 p53 (Nat.add o54 2) fun v55 =>
            Call1 Try.prog con 27 [v51, v55] H52 fun v56 H57 =>
            Ld H49 p53 (Nat.add o54 2) fun v58 =>
            Same v55 v58 (
            Ld H52 p53 (Nat.add o54 2) fun v59 =>
            Same v55 v59 (
            K v56 H57)))) (
            K (.bool false) H49)) (
          False))
      (fun a33 H34 =>
        K (a33 6) H34))))
    (fun i20 => fun a18 H19 =>
      Cd (eqN i20 0) (
        AsPtr (a18 5) fun p60 o61 =>
        Ld H19 p60 (Nat.add o61 0) fun v62 =>
        Ld H19 p60 (Nat.add o61 1) fun v63 =>
        Call1 Try.prog con 25 [(.int .u64 (Int.ofNat 1)), (a18 1), (.agg ⟨[v62, v63]⟩)] H19 fun v64 H65 =>
        AsPtr (a18 5) fun p66 o67 =>
        Ld H65 p66 (Nat.add o67 0) fun v68 =>
        Ld H65 p66 (Nat.add o67 1) fun v69 =>
        Sc (a18 1) (Nw H65 (mkRow 52 0 [(.int .i64 (Int.ofNat 0)), (a18 1), v68, v69, (.int .u64 (Int.ofNat 0)), (.int .u64 (Int.ofNat 0)), (.int .u64 (Int.ofNat 0)), (.int .u64 (Int.ofNat 0)), (.int .u64 (Int.ofNat 0)), (.int .u64 (Int.ofNat 0)), (.int .u64 (Int.ofNat 0)), (.int .u64 (Int.ofNat 0)), (.int .u64 (Int.ofNat 0))]) fun p70 H71 =>
        LoopC Try.prog con (lpAt Try.prog 5 1) (upd (upd (upd (upd (upd (upd (upd (upd (upd (upd a18 56 (a18 1)) 57 (.agg ⟨[v62, v63]⟩)) 58 v64) 13 v64) 59 (a18 1)) 60 (.agg ⟨[v68, v69]⟩)) 61 (.agg ⟨[(.int .i64 (Int.ofNat 0)), (a18 1), v68, v69, (.int .u64 (Int.ofNat 0)), (.int .u64 (Int.ofNat 0)), (.int .u64 (Int.ofNat 0)), (.int .u64 (Int.ofNat 0)), (.int .u64 (Int.ofNat 0)), (.int .u64 (Int.ofNat 0)), (.int .u64 (Int.ofNat 0)), (.int .u64 (Int.ofNat 0)), (.int .u64 (Int.ofNat 0))]⟩)) 62 (ptr p70 0)) 14 (ptr p70 0)) 15 (.int .i64 (Int.ofNat 0))) H71 (fun e => ceP e
        (fun a72 H73 =>
          Call1 Try.prog con 11 [] H73 fun v75 H76 =>
          AsWant v75 (False) fun b77 =>
          Cd b77 (
            Call1 Try.prog con 28 [(a72 7)] H76 fun v78 H79 =>
            NotNil Try.prog (a72 9) (
            AsPtr (a72 9) fun p80 o81 =>
            Ld H79 p80 (Nat.add o81 2) fun v82 =>
            Call1 Try.prog con 27 [v78, v82] H79 fun v83 H84 =>
            Ld H76 p80 (Nat.add o81 2) fun v85 =>
            Same v82 v85 (
            Ld H79 p80 (Nat.add o81 2) fun v86 =>
            Same v82 v86 (
            K v83 H84)))) (
            K (.bool false) H76))
        (fun i74 => fun a72 H73 =>
          Cd (eqN i74 2) (
            Call1 Try.prog con 11 [] H73 fun v87 H88 =>
            AsWant v87 (False) fun b89 =>
            Cd b89 (
              Call1 Try.prog con 28 [(a72 7)] H88 fun v90 H91 =>
              NotNil Try.prog (a72 9) (
              AsPtr (a72 9) fun p92 o93 =>
              Ld H91 p92 (Nat.add o93 2) fun v94 =>
              Call1 Try.prog con 27 [v90, v94] H91 fun v95 H96 =>
              Ld H88 p92 (Nat.add o93 2) fun v97 =>
              Same v94 v97 (
              Ld H91 p92 (Nat.add o93 2) fun v98 =>
              Same v94 v98 (
              K v95 H96)))) (
              K (.bool false) H88)) (
            False))
        (fun a72 H73 =>
          K (a72 6) H73)))) (
        False))
    (fun a18 H19 =>
      K (a18 6) H19)))) := by kernel_rfl

theorem indexFL_W (con : CallT) (a : TF) (H : CH) (K : KX) : codeW (lpAt Try.prog 124 0) Try.prog con a H K =
  (AsInt .i64 (a 8) fun z1 =>
  AsInt .i64 (a 7) fun z2 =>
  Cd (ltZ z1 z2) (
    AsSlc (a 0) fun p3 o4 l5 c6 =>
    AsCnt (a 8) fun n7 =>
    Must (ltN n7 l5) (
    Ld H p3 (Nat.add o4 (Nat.mul n7 1)) fun v8 =>
    AsFn (a 1) fun g9 l10 l11 =>
    Must (isFunT Try.prog g9) (
    Call1 Try.prog con g9 (appF l10 (v8 :: l11)) H fun v12 H13 =>
    AsBool v12 fun b14 =>
    Cd b14 (
      K .ret (upd (upd (upd (upd (upd (upd (upd (upd (upd (upd (upd a 9 (.bool (ltZ z1 z2))) 10 (a 8)) 5 (a 8)) 11 (a 1)) 12 (a 0)) 13 (a 8)) 14 (ptr p3 (Nat.add o4 (Nat.mul n7 1)))) 15 v8) 16 v12) 17 (a 8)) 4 (a 8)) H13) (
      AsInt .i64 (a 8) fun z15 =>
      InR (Int.add z15 (Int.ofNat 1)) (
      K .normal (upd (upd (upd (upd (upd (upd (upd (upd (upd (upd (upd a 9 (.bool (ltZ z1 z2))) 10 (a 8)) 5 (a 8)) 11 (a 1)) 12 (a 0)) 13 (a 8)) 14 (ptr p3 (Nat.add o4 (Nat.mul n7 1)))) 15 v8) 16 v12) 18 (.int .i64 (Int.add z15 (Int.ofNat 1)))) 8 (.int .i64 (Int.add z15 (Int.ofNat 1)))) H13))))) (
    K (.exit 0) (upd a 9 (.bool (ltZ z1 z2))) H)) := by kernel_rfl

theorem refNeededL_W (con : CallT) (a : TF) (H : CH) (K : KX) : codeW (lpAt Try.prog 13 0) Try.prog con a H K =
  (AsPtr (a 3) fun p1 o2 =>
  Ld H p1 (Nat.add o2 1) fun v3 =>
  AsLen v3 fun l4 =>
  AsInt .i64 (a 7) fun z5 =>
  Cd (ltZ z5 (Int.ofNat l4)) (
    AsPtr (a 3) fun p6 o7 =>
    Ld H p6 (Nat.add o7 1) fun v8 =>
    AsSlc v8 fun p9 o10 l11 c12 =>
    AsCnt (a 7) fun n13 =>
    Must (ltN n13 l11) (
    Ld H p9 (Nat.add o10 (Nat.mul n13 1)) fun v14 =>
    AsNat .u64 v14 fun n15 =>
    AsNat .u64 (a 1) fun n16 =>
    Cd (leN n16 n15) (
      AsPtr (a 3) fun p17 o18 =>
      Ld H p17 (Nat.add o18 1) fun v19 =>
      AsSlc v19 fun p20 o21 l22 c23 =>
      AsCnt (a 7) fun n24 =>
      Must (ltN n24 l22) (
      Ld H p20 (Nat.add o21 (Nat.mul n24 1)) fun v25 =>
      AsNat .u64 v25 fun n26 =>
      AsNat .u64 (a 2) fun n27 =>
      Cd (ltN n26 n27) (
        K .ret (upd (upd (upd (upd (upd (upd (upd (upd (upd (upd (upd (upd (upd (upd (upd (upd (upd (upd (upd (upd (upd (upd (upd (upd (upd (upd (upd (upd (upd a 15 (a 7)) 16 (ptr p1 (Nat.add o2 1))) 17 v3) 18 (.int .i64 (Int.ofNat l4))) 19 (.bool (ltZ z5 (Int.ofNat l4)))) 22 (ptr p6 (Nat.add o7 1))) 23 v8) 24 (a 7)) 25 (ptr p9 (Nat.add o10 (Nat.mul n13 1)))) 26 v14) 27 (a 1)) 28 (.bool (leN n16 n15))) 29 (.bool (leN n16 n15))) 29 (.bool true)) 30 (ptr p17 (Nat.add o18 1))) 29 (.bool true)) 31 v19) 29 (.bool true)) 32 (a 7)) 29 (.bool true)) 33 (ptr p20 (Nat.add o21 (Nat.mul n24 1)))) 29 (.bool true)) 34 v25) 29 (.bool true)) 35 (a 2)) 29 (.bool true)) 36 (.bool (ltN n26 n27))) 37 (.bool (ltN n26 n27))) 6 (.bool true)) H) (
        AsInt .i64 (a 7) fun z28 =>
        InR (Int.add z28 (Int.ofNat 1)) (
        K .normal (upd (upd (upd (upd (upd (upd (upd (upd (upd (upd (upd (upd (upd (upd (upd (upd (upd (upd (upd (upd (upd (upd (upd (upd (upd (upd (upd (upd (upd (upd (upd a 15 (a 7)) 16 (ptr p1 (Nat.add o2 1))) 17 v3) 18 (.int .i64 (Int.ofNat l4))) 19 (.bool (ltZ z5 (Int.ofNat l4)))) 22 (ptr p6 (Nat.add o7 1))) 23 v8) 24 (a 7)) 25 (ptr p9 (Nat.add o10 (Nat.mul n13 1)))) 26 v14) 27 (a 1)) 28 (.bool (leN n16 n15))) 29 (.bool (leN n16 n15))) 29 (.bool true)) 30 (ptr p17 (Nat.add o18 1))) 29 (.bool true)) 31 v19) 29 (.bool true)) 32 (a 7)) 29 (.bool true)) 33 (ptr p20 (Nat.add o21 (Nat.mul n24 1)))) 29 (.bool true)) 34 v25) 29 (.bool true)) 35 (a 2)) 29 (.bool true)) 36 (.bool (ltN n26 n27))) 37 (.bool (ltN n26 n27))) 20 (a 7)) 21 (.int .i64 (Int.add z28 (Int.ofNat 1)))) 7 (.int .i64 (Int.add z28 (Int.ofNat 1)))) H)))) (
      AsInt .i64 (a 7) fun z29 =>
      InR (Int.add z29 (Int.ofNat 1)) (
      K .normal (upd (upd (upd (upd (upd (upd (upd (upd (upd (upd (upd (upd (upd (upd (upd (upd (upd (upd (upd (upd (upd (upd (upd (upd (upd (upd (upd (upd (upd (upd (upd a 15 (a 7)) 16 (ptr p1 (Nat.add o2 1))) 17 v3) 18 (.int .i64 (Int.ofNat l4))) 19 (.bool (ltZ z5 (Int.ofNat l4)))) 22 (ptr p6 (Nat.add o7 1))) 23 v8) 24 (a 7)) 25 (ptr p9 (Nat.add o10 (Nat.mul n13 1)))) 26 v14) 27 (a 1)) 28 (.bool (leN n16 n15))) 29 (.bool (leN n16 n15))) 29 (.bool false)) 30 (.tuple ⟨[]⟩)) 29 (.bool false)) 31 (.tuple ⟨[]⟩)) 29 (.bool false)) 32 (.tuple ⟨[]⟩)) 29 (.bool false)) 33 (.tuple ⟨[]⟩)) 29 (.bool false)) 34 (.tuple ⟨[]⟩)) 29 (.bool false)) 35 (.tuple ⟨[]⟩)) 29 (.bool false)) 36 (.tuple ⟨[]⟩)) 37 (.bool false)) 20 (a 7)) 21 (.int .i64 (Int.add z29 (Int.ofNat 1)))) 7 (.int .i64 (Int.add z29 (Int.ofNat 1)))) H)))) (
    K (.exit 0) (upd (upd (upd (upd (upd a 15 (a 7)) 16 (ptr p1 (Nat.add o2 1))) 17 v3) 18 (.int .i64 (Int.ofNat l4))) 19 (.bool (ltZ z5 (Int.ofNat l4)))) H)) := by kernel_rfl

end Go.Proofs.Ytipbbnoepphdkaa

/- What some functions' texts ask for, step by step, each checked by the kernel. No conditions. -/
set_option linter.unusedVariables false
namespace Go.Proofs.Ytipbbnoepphdkaa
open Go Go.CM

theorem newTake_W (con : CallT) (xa xb : Nat) (H : CH) (K : KP) : funW Try.prog con 95 [u64 xa, u64 xb] H K =
  (Nw H (mkRow 236 0 [(.int .i64 (Int.ofNat 0)), (.int .u64 (Int.ofNat xa)), (.int .u64 (Int.ofNat xb)), (.int .u64 (Int.ofNat 0)), (.int .u64 (Int.ofNat 0)), (.int .i64 (Int.ofNat 0)), (.bool false)]) fun p1 H2 =>
  K (ptr p1 0) H2) := by kernel_rfl

theorem takeStep_W (con : CallT) (p q : Nat) (H : CH) (K : KP) : funW Try.prog con 239 [ptr p 0, ptr q 0] H K =
  (Ld H p 0 fun v1 =>
  AsInt .i64 v1 fun z2 =>
  Cd (eqZ z2 (Int.ofNat 0)) (
    Ld H p 1 fun v3 =>
    Call1 Try.prog con 74 [(ptr q 0), v3] H fun v4 H5 =>
    Sc v4 (St H5 p 3 [v4] fun H6 =>
    Ld H6 p 3 fun v7 =>
    Ld H6 p 2 fun v8 =>
    AsNat .u64 v7 fun n9 =>
    AsNat .u64 v8 fun n10 =>
    Cd (ltN n9 n10) (
      St H6 p 0 [(.int .i64 (Int.ofNat 1))] fun H11 =>
      K (.bool false) H11) (
      St H6 p 5 [(.int .i64 (Int.ofNat 31))] fun H12 =>
      St H12 p 0 [(.int .i64 (Int.ofNat 2))] fun H13 =>
      K (.bool true) H13))) (
    AsInt .i64 v1 fun z14 =>
    Cd (eqZ z14 (Int.ofNat 1)) (
      Ld H p 1 fun v15 =>
      Ld H p 3 fun v16 =>
      Ld H p 3 fun v17 =>
      AsNat .u64 v17 fun n18 =>
      Call1 Try.prog con 109 [(ptr q 0), v15, v16, (.int .u64 (Int.ofNat (Nat.mod (Nat.add n18 1) 18446744073709551616)))] H fun v19 H20 =>
      Sc v19 (St H20 p 6 [v19] fun H21 =>
      Ld H21 p 3 fun v22 =>
      Sc v22 (St H21 p 4 [v22] fun H23 =>
      St H23 p 0 [(.int .i64 (Int.ofNat 2))] fun H24 =>
      K (.bool true) H24))) (
      K (.bool true) H))) := by kernel_rfl

theorem newInit_W (con : CallT) (xa xb : Nat) (H : CH) (K : KP) : funW Try.prog con 236 [u64 xa, u64 xb] H K =
  (Nw H (mkRow 323 0 [(.int .u64 (Int.ofNat xa)), (.int .u64 (Int.ofNat xb)), (.int .i64 (Int.ofNat 0)), (.int .u64 (Int.ofNat 0))]) fun p1 H2 =>
  K (ptr p1 0) H2) := by kernel_rfl

theorem initStep_W (con : CallT) (p q : Nat) (H : CH) (K : KP) : funW Try.prog con 237 [ptr p 0, ptr q 0] H K =
  (Ld H p 2 fun v1 =>
  AsInt .i64 v1 fun z2 =>
  Cd (eqZ z2 (Int.ofNat 0)) (
    St H p 2 [(.int .i64 (Int.ofNat 1))] fun H3 =>
    Ld H3 p 1 fun v4 =>
    AsNat .u64 v4 fun n5 =>
    Call1 Try.prog con 74 [(ptr q 0), (.int .u64 (Int.ofNat (Nat.mod (Nat.add n5 1) 18446744073709551616)))] H3 fun v6 H7 =>
    AsNat .u64 v6 fun n8 =>
    Cd (notB (eqN n8 0)) (
      St H7 p 2 [(.int .i64 (Int.ofNat 3))] fun H9 =>
      Ld H9 p 2 fun v10 =>
      AsInt .i64 v10 fun z11 =>
      K (.bool (eqZ z11 (Int.ofNat 3))) H9) (
      Ld H7 p 2 fun v12 =>
      AsInt .i64 v12 fun z13 =>
      K (.bool (eqZ z13 (Int.ofNat 3))) H7)) (
    AsInt .i64 v1 fun z14 =>
    Cd (eqZ z14 (Int.ofNat 1)) (
      Ld H p 0 fun v15 =>
      Call1 Try.prog con 74 [(ptr q 0), v15] H fun v16 H17 =>
      Sc v16 (St H17 p 3 [v16] fun H18 =>
      St H18 p 2 [(.int .i64 (Int.ofNat 2))] fun H19 =>
      Ld H19 p 2 fun v20 =>
      AsInt .i64 v20 fun z21 =>
      K (.bool (eqZ z21 (Int.ofNat 3))) H19)) (
      AsInt .i64 v1 fun z22 =>
      Cd (eqZ z22 (Int.ofNat 2)) (
        Ld H p 1 fun v23 =>
        AsNat .u64 v23 fun n24 =>
        Ld H p 3 fun v25 =>
        Call1 Try.prog con 109 [(ptr q 0), (.int .u64 (Int.ofNat (Nat.mod (Nat.add n24 1) 18446744073709551616))), (.int .u64 (Int.ofNat 0)), v25] H fun v26 H27 =>
        St H27 p 2 [(.int .i64 (Int.ofNat 3))] fun H28 =>
        Ld H28 p 2 fun v29 =>
        AsInt .i64 v29 fun z30 =>
        K (.bool (eqZ z30 (Int.ofNat 3))) H28) (
        Ld H p 2 fun v31 =>
        AsInt .i64 v31 fun z32 =>
        K (.bool (eqZ z32 (Int.ofNat 3))) H)))) := by kernel_rfl

theorem headFind_W (con : CallT) (p q : Nat) (H : CH) (K : KP) : funW Try.prog con 234 [ptr p 0, ptr q 0] H K =
  (Ld H p 2 fun v1 =>
  AsBool v1 fun b2 =>
  Cd (notB b2) (
    St H p 2 [(.bool true)] fun H3 =>
    Ld H3 p 1 fun v4 =>
    Call1 Try.prog con 74 [(ptr q 0), v4] H3 fun v5 H6 =>
    Sc v5 (St H6 p 4 [v5] fun H7 =>
    Ld H7 p 4 fun v8 =>
    AsNat .u64 v8 fun n9 =>
    St H7 p 3 [(.bool (eqN n9 0))] fun H10 =>
    Ld H10 p 0 fun v11 =>
    Ld H10 p 4 fun v12 =>
    Call1 Try.prog con 236 [v11, v12] H10 fun v13 H14 =>
    Sc v13 (St H14 p 5 [v13] fun H15 =>
    Ld H15 p 3 fun v16 =>
    K v16 H15))) (
    Ld H p 5 fun v17 =>
    Call1 Try.prog con 237 [v17, (ptr q 0)] H fun v18 H19 =>
    K v18 H19)) := by kernel_rfl

theorem newCas_W (con : CallT) (xa xb xc xd : Nat) (H : CH) (K : KP) : funW Try.prog con 94 [u64 xa, u64 xb, u64 xc, u64 xd] H K =
  (Nw H (mkRow 234 0 [(.int .u64 (Int.ofNat xa)), (.int .u64 (Int.ofNat xb)), (.bool false), (.bool false), (.int .u64 (Int.ofNat 0)), (.pointer none), (.int .i64 (Int.ofNat 0)), (.int .u64 (Int.ofNat xc)), (.int .u64 (Int.ofNat xd)), (.int .u64 (Int.ofNat 0)), (.bool false), (.pointer none), (.int .i64 (Int.ofNat 0))]) fun p1 H2 =>
  K (ptr p1 0) H2) := by kernel_rfl

theorem casStep_W (con : CallT) (p q : Nat) (H : CH) (K : KP) : funW Try.prog con 233 [ptr p 0, ptr q 0] H K =
  (Ld H p 6 fun v1 =>
  AsInt .i64 v1 fun z2 =>
  Cd (eqZ z2 (Int.ofNat 0)) (
    Call1 Try.prog con 234 [(ptr p 0), (ptr q 0)] H fun v3 H4 =>
    AsBool v3 fun b5 =>
    Cd (notB b5) (
      K (.bool false) H4) (
      St H4 p 6 [(.int .i64 (Int.ofNat 1))] fun H6 =>
      Ld H6 p 3 fun v7 =>
      AsBool v7 fun b8 =>
      Cd (notB b8) (
        K (.bool false) H6) (
        Ld H6 p 3 fun v9 =>
        AsBool v9 fun b10 =>
        Cd (notB b10) (
          Ld H6 p 4 fun v11 =>
          Call1 Try.prog con 74 [(ptr q 0), v11] H6 fun v12 H13 =>
          Call1 Try.prog con 235 [(ptr p 0), v12] H13 fun v14 H15 =>
          Ld H15 p 6 fun v16 =>
          AsInt .i64 v16 fun z17 =>
          K (.bool (eqZ z17 (Int.ofNat 7))) H15) (
          Call1 Try.prog con 235 [(ptr p 0), (.int .u64 (Int.ofNat 0))] H6 fun v18 H19 =>
          Ld H19 p 6 fun v20 =>
          AsInt .i64 v20 fun z21 =>
          K (.bool (eqZ z21 (Int.ofNat 7))) H19)))) (
    AsInt .i64 v1 fun z22 =>
    Cd (eqZ z22 (Int.ofNat 1)) (
      Ld H p 3 fun v23 =>
      AsBool v23 fun b24 =>
      Cd (notB b24) (
        Ld H p 4 fun v25 =>
        Call1 Try.prog con 74 [(ptr q 0), v25] H fun v26 H27 =>
        Call1 Try.prog con 235 [(ptr p 0), v26] H27 fun v28 H29 =>
        Ld H29 p 6 fun v30 =>
        AsInt .i64 v30 fun z31 =>
        K (.bool (eqZ z31 (Int.ofNat 7))) H29) (
        Call1 Try.prog con 235 [(ptr p 0), (.int .u64 (Int.ofNat 0))] H fun v32 H33 =>
        Ld H33 p 6 fun v34 =>
        AsInt .i64 v34 fun z35 =>
        K (.bool (eqZ z35 (Int.ofNat 7))) H33)) (
      AsInt .i64 v1 fun z36 =>
      Cd (eqZ z36 (Int.ofNat 2)) (
        St H p 6 [(.int .i64 (Int.ofNat 3))] fun H37 =>
        Ld H37 p 8 fun v38 =>
        Ld H37 p 4 fun v39 =>
        Sc v38 (Sc v39 (Nw H37 (mkRow 22 0 [v38, (.int .u64 (Int.ofNat 0)), v39]) fun p40 H41 =>
        Call1 Try.prog con 34 [(ptr q 0), (.slice (some ⟨p40, 0, none⟩) 3 3)] H41 fun v42 H43 =>
        Sc v42 (St H43 p 9 [v42] fun H44 =>
        Ld H44 p 9 fun v45 =>
        AsNat .u64 v45 fun n46 =>
        Cd (eqN n46 0) (
          St H44 p 12 [(.int .i64 (Int.ofNat 30))] fun H47 =>
          St H47 p 6 [(.int .i64 (Int.ofNat 7))] fun H48 =>
          Ld H48 p 6 fun v49 =>
          AsInt .i64 v49 fun z50 =>
          K (.bool (eqZ z50 (Int.ofNat 7))) H48) (
          Ld H44 p 6 fun v51 =>
          AsInt .i64 v51 fun z52 =>
          K (.bool (eqZ z52 (Int.ofNat 7))) H44))))) (
        AsInt .i64 v1 fun z53 =>
        Cd (eqZ z53 (Int.ofNat 3)) (
          Ld H p 1 fun v54 =>
          Ld H p 4 fun v55 =>
          Ld H p 9 fun v56 =>
          Call1 Try.prog con 109 [(ptr q 0), v54, v55, v56] H fun v57 H58 =>
          Sc v57 (St H58 p 10 [v57] fun H59 =>
          Ld H59 p 0 fun v60 =>
          Ld H59 p 9 fun v61 =>
          Call1 Try.prog con 236 [v60, v61] H59 fun v62 H63 =>
          Sc v62 (St H63 p 11 [v62] fun H64 =>
          St H64 p 6 [(.int .i64 (Int.ofNat 4))] fun H65 =>
          Ld H65 p 10 fun v66 =>
          AsBool v66 fun b67 =>
          Cd (notB b67) (
            St H65 p 6 [(.int .i64 (Int.ofNat 5))] fun H68 =>
            Ld H68 p 6 fun v69 =>
            AsInt .i64 v69 fun z70 =>
            K (.bool (eqZ z70 (Int.ofNat 7))) H68) (
            Ld H65 p 6 fun v71 =>
            AsInt .i64 v71 fun z72 =>
            K (.bool (eqZ z72 (Int.ofNat 7))) H65)))) (
          AsInt .i64 v1 fun z73 =>
          Cd (eqZ z73 (Int.ofNat 5)) (
            Ld H p 0 fun v74 =>
            Ld H p 1 fun v75 =>
            Call1 Try.prog con 74 [(ptr q 0), v75] H fun v76 H77 =>
            Call1 Try.prog con 236 [v74, v76] H77 fun v78 H79 =>
            Sc v78 (St H79 p 11 [v78] fun H80 =>
            Ld H p 0 fun v81 =>
            Same v74 v81 (
            Ld H77 p 0 fun v82 =>
            Same v74 v82 (
            St H80 p 6 [(.int .i64 (Int.ofNat 4))] fun H83 =>
            Ld H83 p 6 fun v84 =>
            AsInt .i64 v84 fun z85 =>
            K (.bool (eqZ z85 (Int.ofNat 7))) H83)))) (
            AsInt .i64 v1 fun z86 =>
            Cd (eqZ z86 (Int.ofNat 4)) (
              Ld H p 11 fun v87 =>
              Call1 Try.prog con 237 [v87, (ptr q 0)] H fun v88 H89 =>
              AsBool v88 fun b90 =>
              Cd b90 (
                St H89 p 6 [(.int .i64 (Int.ofNat 7))] fun H91 =>
                Ld H91 p 6 fun v92 =>
                AsInt .i64 v92 fun z93 =>
                K (.bool (eqZ z93 (Int.ofNat 7))) H91) (
                Ld H89 p 6 fun v94 =>
                AsInt .i64 v94 fun z95 =>
                K (.bool (eqZ z95 (Int.ofNat 7))) H89)) (
              Ld H p 6 fun v96 =>
              AsInt .i64 v96 fun z97 =>
              K (.bool (eqZ z97 (Int.ofNat 7))) H))))))) := by kernel_rfl

theorem casCompare_W (con : CallT) (p xa : Nat) (H : CH) (K : KP) : funW Try.prog con 235 [ptr p 0, u64 xa] H K =
  (Ld H p 7 fun v1 =>
  AsNat .u64 v1 fun n2 =>
  Cd (notB (eqN xa n2)) (
    St H p 6 [(.int .i64 (Int.ofNat 7))] fun H3 =>
    K (.tuple ⟨[]⟩) H3) (
    Ld H p 7 fun v4 =>
    Ld H p 8 fun v5 =>
    AsNat .u64 v4 fun n6 =>
    AsNat .u64 v5 fun n7 =>
    Cd (eqN n6 n7) (
      St H p 10 [(.bool true)] fun H8 =>
      St H8 p 6 [(.int .i64 (Int.ofNat 7))] fun H9 =>
      K (.tuple ⟨[]⟩) H9) (
      St H p 6 [(.int .i64 (Int.ofNat 2))] fun H10 =>
      K (.tuple ⟨[]⟩) H10))) := by kernel_rfl

theorem newAt_W (con : CallT) (xa xb xc : Nat) (H : CH) (K : KP) : funW Try.prog con 96 [u64 xa, u64 xb, u64 xc] H K =
  (Nw H (mkRow 238 0 [(.int .u64 (Int.ofNat xa)), (.int .u64 (Int.ofNat xb)), (.bool false), (.bool false), (.int .u64 (Int.ofNat 0)), (.pointer none), (.int .i64 (Int.ofNat 0)), (.int .u64 (Int.ofNat xc)), (.int .u64 (Int.ofNat 0))]) fun p1 H2 =>
  K (ptr p1 0) H2) := by kernel_rfl

theorem atStep_W (con : CallT) (p q : Nat) (H : CH) (K : KP) : funW Try.prog con 240 [ptr p 0, ptr q 0] H K =
  (Ld H p 6 fun v1 =>
  AsInt .i64 v1 fun z2 =>
  Cd (eqZ z2 (Int.ofNat 0)) (
    Call1 Try.prog con 234 [(ptr p 0), (ptr q 0)] H fun v3 H4 =>
    AsBool v3 fun b5 =>
    Cd b5 (
      St H4 p 6 [(.int .i64 (Int.ofNat 5))] fun H6 =>
      Ld H6 p 3 fun v7 =>
      AsBool v7 fun b8 =>
      Cd b8 (
        St H6 p 6 [(.int .i64 (Int.ofNat 7))] fun H9 =>
        Ld H9 p 6 fun v10 =>
        AsInt .i64 v10 fun z11 =>
        K (.bool (eqZ z11 (Int.ofNat 7))) H9) (
        Ld H6 p 6 fun v12 =>
        AsInt .i64 v12 fun z13 =>
        K (.bool (eqZ z13 (Int.ofNat 7))) H6)) (
      Ld H4 p 6 fun v14 =>
      AsInt .i64 v14 fun z15 =>
      K (.bool (eqZ z15 (Int.ofNat 7))) H4)) (
    AsInt .i64 v1 fun z16 =>
    Cd (eqZ z16 (Int.ofNat 5)) (
      St H p 6 [(.int .i64 (Int.ofNat 1))] fun H17 =>
      Ld H17 p 4 fun v18 =>
      AsNat .u64 v18 fun n19 =>
      Call1 Try.prog con 74 [(ptr q 0), (.int .u64 (Int.ofNat (Nat.mod (Nat.add n19 1) 18446744073709551616)))] H17 fun v20 H21 =>
      Ld H21 p 7 fun v22 =>
      AsNat .u64 v20 fun n23 =>
      AsNat .u64 v22 fun n24 =>
      Ld H17 p 7 fun v25 =>
      Same v22 v25 (
      Ld H21 p 7 fun v26 =>
      Same v22 v26 (
      Cd (ltN n24 n23) (
        St H21 p 6 [(.int .i64 (Int.ofNat 6))] fun H27 =>
        Ld H27 p 6 fun v28 =>
        AsInt .i64 v28 fun z29 =>
        K (.bool (eqZ z29 (Int.ofNat 7))) H27) (
        Ld H21 p 6 fun v30 =>
        AsInt .i64 v30 fun z31 =>
        K (.bool (eqZ z31 (Int.ofNat 7))) H21)))) (
      AsInt .i64 v1 fun z32 =>
      Cd (eqZ z32 (Int.ofNat 6)) (
        St H p 6 [(.int .i64 (Int.ofNat 5))] fun H33 =>
        Ld H33 p 4 fun v34 =>
        AsNat .u64 v34 fun n35 =>
        Call1 Try.prog con 74 [(ptr q 0), (.int .u64 (Int.ofNat (Nat.mod (Nat.add n35 2) 18446744073709551616)))] H33 fun v36 H37 =>
        Sc v36 (St H37 p 4 [v36] fun H38 =>
        Ld H38 p 4 fun v39 =>
        AsNat .u64 v39 fun n40 =>
        Cd (eqN n40 0) (
          St H38 p 6 [(.int .i64 (Int.ofNat 7))] fun H41 =>
          Ld H41 p 6 fun v42 =>
          AsInt .i64 v42 fun z43 =>
          K (.bool (eqZ z43 (Int.ofNat 7))) H41) (
          Ld H38 p 6 fun v44 =>
          AsInt .i64 v44 fun z45 =>
          K (.bool (eqZ z45 (Int.ofNat 7))) H38))) (
        AsInt .i64 v1 fun z46 =>
        Cd (eqZ z46 (Int.ofNat 1)) (
          Ld H p 4 fun v47 =>
          Call1 Try.prog con 74 [(ptr q 0), v47] H fun v48 H49 =>
          Sc v48 (St H49 p 8 [v48] fun H50 =>
          St H50 p 6 [(.int .i64 (Int.ofNat 7))] fun H51 =>
          Ld H51 p 6 fun v52 =>
          AsInt .i64 v52 fun z53 =>
          K (.bool (eqZ z53 (Int.ofNat 7))) H51)) (
          Ld H p 6 fun v54 =>
          AsInt .i64 v54 fun z55 =>
          K (.bool (eqZ z55 (Int.ofNat 7))) H))))) := by kernel_rfl

end Go.Proofs.Ytipbbnoepphdkaa

/- What some functions' texts ask for, step by step, each checked by the kernel. No conditions. -/
set_option linter.unusedVariables false
namespace Go.Proofs.Ytipbbnoepphdkaa
open Go Go.CM

theorem stepNew_W (con : CallT) (m : Nat) (v : Value) (H : CH) (K : KP) : funW Try.prog con 36 [ptr m 0, v] H K =
  (AsLen v fun l1 =>
  Cd (ltZ (Int.ofNat 64) (Int.ofNat l1)) (
    K (.tuple ⟨[(.pointer none), (.int .i64 (Int.ofNat 6))]⟩) H) (
    Call1 Try.prog con 97 [v, (.func (.func 98) ⟨[]⟩ ⟨[]⟩)] H fun v2 H3 =>
    AsBool v2 fun b4 =>
    Cd b4 (
      K (.tuple ⟨[(.pointer none), (.int .i64 (Int.ofNat 6))]⟩) H3) (
      Nw H3 (mkRow 169 0 [(ptr m 0), (.slice none 0 0), (.pointer none), (.pointer none), (.pointer none), (.pointer none), (.pointer none), (.pointer none), (.pointer none), (.pointer none), (.pointer none), (.pointer none), (.pointer none), (.pointer none), (.pointer none), (.pointer none), (.pointer none), (.pointer none), (.pointer none), (.pointer none), (.pointer none), (.pointer none), (.pointer none), (.pointer none), (.pointer none), (.pointer none), (.pointer none), (.pointer none), (.pointer none), (.pointer none), (.pointer none), (.pointer none), (.pointer none), (.pointer none), (.pointer none), (.pointer none), (.pointer none), (.pointer none), (.pointer none), (.pointer none), (.pointer none), (.pointer none), (.pointer none), (.pointer none), (.pointer none), (.pointer none), (.pointer none), (.pointer none), (.pointer none), (.pointer none), (.pointer none), (.pointer none), (.pointer none), (.pointer none), (.pointer none), (.pointer none), (.pointer none), (.pointer none), (.pointer none), (.pointer none), (.pointer none), (.pointer none), (.pointer none), (.pointer none), (.pointer none), (.pointer none), (.int .i64 (Int.ofNat 0)), (.slice none 0 0), (.slice none 0 0)]) fun p5 H6 =>
      AsLen v fun l7 =>
      LoopC Try.prog con (lpAt Try.prog 36 0) (upd (upd (upd (upd (upd (upd (upd (upd (upd (upd (upd (upd (upd (upd (upd (upd (upd (upd (upd (upd (upd (upd (fun _ => undV) 1 v) 0 (ptr m 0)) 4 (.pointer none)) 5 (.int .i64 (Int.ofNat 0))) 9 (ptr m 0)) 10 (.bool false)) 11 v) 12 (.int .i64 (Int.ofNat l1))) 13 (.bool (ltZ (Int.ofNat 64) (Int.ofNat l1)))) 14 (.bool (ltZ (Int.ofNat 64) (Int.ofNat l1)))) 14 (.bool false)) 15 v) 14 (.bool false)) 16 v2) 17 v2) 18 (ptr m 0)) 19 (.agg ⟨[(ptr m 0), (.slice none 0 0), (.pointer none), (.pointer none), (.pointer none), (.pointer none), (.pointer none), (.pointer none), (.pointer none), (.pointer none), (.pointer none), (.pointer none), (.pointer none), (.pointer none), (.pointer none), (.pointer none), (.pointer none), (.pointer none), (.pointer none), (.pointer none), (.pointer none), (.pointer none), (.pointer none), (.pointer none), (.pointer none), (.pointer none), (.pointer none), (.pointer none), (.pointer none), (.pointer none), (.pointer none), (.pointer none), (.pointer none), (.pointer none), (.pointer none), (.pointer none), (.pointer none), (.pointer none), (.pointer none), (.pointer none), (.pointer none), (.pointer none), (.pointer none), (.pointer none), (.pointer none), (.pointer none), (.pointer none), (.pointer none), (.pointer none), (.pointer none), (.pointer none), (.pointer none), (.pointer none), (.pointer none), (.pointer none), (.pointer none), (.pointer none), (.pointer none), (.pointer none), (.pointer none), (.pointer none), (.pointer none), (.pointer none), (.pointer none), (.pointer none), (.pointer none), (.int .i64 (Int.ofNat 0)), (.slice none 0 0), (.slice none 0 0)]⟩)) 20 (ptr p5 0)) 6 (ptr p5 0)) 21 v) 22 (.int .i64 (Int.ofNat l7))) 23 (.int .i64 (Int.ofNat 0))) H6 (fun e => ceP e
      (fun a8 H9 =>
        K (.tuple ⟨[(a8 6), (.int .i64 (Int.ofNat 0))]⟩) H9)
      (fun i10 => fun a8 H9 =>
        Cd (eqN i10 0) (
          K (.tuple ⟨[(a8 6), (.int .i64 (Int.ofNat 0))]⟩) H9) (
          False))
      (fun a8 H9 =>
        K (.tuple ⟨[(a8 4), (a8 5)]⟩) H9))))) := by kernel_rfl

theorem stepNewC_W (con : CallT) (v : Value) (H : CH) (K : KP) : funW Try.prog con 98 [v] H K =
  (AsLen v fun l1 =>
  K (.bool (ltZ (Int.ofNat 4096) (Int.ofNat l1))) H) := by kernel_rfl

theorem stepRun_W (con : CallT) (p : Nat) (v : Value) (H : CH) (K : KP) : funW Try.prog con 38 [ptr p 0, v] H K =
  (AsLen v fun l1 =>
  LoopC Try.prog con (lpAt Try.prog 38 0) (upd (upd (upd (upd (upd (fun _ => undV) 1 v) 0 (ptr p 0)) 6 v) 7 (.int .i64 (Int.ofNat l1))) 8 (.int .i64 (Int.ofNat 0))) H (fun e => ceP e
  (fun a2 H3 =>
    K (.tuple ⟨[]⟩) H3)
  (fun i4 => fun a2 H3 =>
    Cd (eqN i4 0) (
      K (.tuple ⟨[]⟩) H3) (
      False))
  (fun a2 H3 =>
    K (.tuple ⟨[]⟩) H3))) := by kernel_rfl

theorem stepPick_W (con : CallT) (p : Nat) (t : Int) (H : CH) (K : KP) : funW Try.prog con 100 [ptr p 0, i64 t] H K =
  (Ld H p 66 fun v1 =>
  Ld H p 66 fun v2 =>
  AsInt .i64 v2 fun z3 =>
  InR (Int.add z3 (Int.ofNat 1)) (
  St H p 66 [(.int .i64 (Int.add z3 (Int.ofNat 1)))] fun H4 =>
  Call1 Try.prog con 128 [(ptr p 0), (.int .i64 t)] H4 fun v5 H6 =>
  AsBool v5 fun b7 =>
  Cd b7 (
    K (.bool false) H6) (
    Ld H6 p 1 fun v8 =>
    AsSlc v8 fun p9 o10 l11 c12 =>
    AsCnt (.int .i64 t) fun n13 =>
    Must (ltN n13 l11) (
    Ld H6 p9 (Nat.add (Nat.add o10 (Nat.mul n13 3)) 2) fun v14 =>
    AsBool v14 fun b15 =>
    Cd (notB b15) (
      St H6 p9 (Nat.add (Nat.add o10 (Nat.mul n13 3)) 2) [(.bool true)] fun H16 =>
      Ld H16 p 67 fun v17 =>
      Ld H16 p9 (Nat.add (Nat.add o10 (Nat.mul n13 3)) 1) fun v18 =>
      Sc v1 (Sc v18 (Nw H16 (mkRow 242 0 [v1, (.int .i64 t), v18, (.bool false)]) fun p19 H20 =>
      App Try.prog 167 167 H20 v17 (.slice (some ⟨p19, 0, none⟩) 1 1) fun v21 H22 =>
      Sc v21 (St H22 p 67 [v21] fun H23 =>
      Ld H16 p 67 fun v24 =>
      Same v17 v24 (
      Ld H20 p 67 fun v25 =>
      Same v17 v25 (
      Ld H23 p 0 fun v26 =>
      Call1 Try.prog con 129 [v26] H23 fun v27 H28 =>
      Ld H28 p9 (Nat.add (Nat.add o10 (Nat.mul n13 3)) 0) fun v29 =>
      Ld H28 p9 (Nat.add (Nat.add o10 (Nat.mul n13 3)) 1) fun v30 =>
      AsSlc v29 fun p31 o32 l33 c34 =>
      AsCnt v30 fun n35 =>
      Must (ltN n35 l33) (
      Ld H28 p31 (Nat.add o32 (Nat.mul n35 1)) fun v36 =>
      IsNil .ifc v36 fun b37 =>
      Cd b37 (
        Ld H28 p 67 fun v38 =>
        Ld H28 p9 (Nat.add (Nat.add o10 (Nat.mul n13 3)) 1) fun v39 =>
        Sc v1 (Sc v39 (Nw H28 (mkRow 242 0 [v1, (.int .i64 t), v39, (.bool true)]) fun p40 H41 =>
        App Try.prog 167 167 H41 v38 (.slice (some ⟨p40, 0, none⟩) 1 1) fun v42 H43 =>
        Sc v42 (St H43 p 67 [v42] fun H44 =>
        Ld H28 p 67 fun v45 =>
        Same v38 v45 (
        Ld H41 p 67 fun v46 =>
        Same v38 v46 (
        St H44 p9 (Nat.add (Nat.add o10 (Nat.mul n13 3)) 2) [(.bool false)] fun H47 =>
        Ld H47 p9 (Nat.add (Nat.add o10 (Nat.mul n13 3)) 1) fun v48 =>
        AsInt .i64 v48 fun z49 =>
        InR (Int.add z49 (Int.ofNat 1)) (
        St H47 p9 (Nat.add (Nat.add o10 (Nat.mul n13 3)) 1) [(.int .i64 (Int.add z49 (Int.ofNat 1)))] fun H50 =>
        Ld H50 p 0 fun v51 =>
        Call1 Try.prog con 129 [v51] H50 fun v52 H53 =>
        Call1 Try.prog con 130 [(ptr p 0), v1, v27, v52] H53 fun v54 H55 =>
        K (.bool true) H55))))))) (
        AsCnt (.int .i64 t) fun n56 =>
        Must (ltN n56 64) (
        Ld H28 p (Nat.add 2 (Nat.mul n56 1)) fun v57 =>
        MethOk Try.prog "Step" [v36] (
        Mth Try.prog con v36 "Step" [v57] H28 fun v58 H59 =>
        AsBool v58 fun b60 =>
        Cd b60 (
          Ld H59 p 67 fun v61 =>
          Ld H59 p9 (Nat.add (Nat.add o10 (Nat.mul n13 3)) 1) fun v62 =>
          Sc v1 (Sc v62 (Nw H59 (mkRow 242 0 [v1, (.int .i64 t), v62, (.bool true)]) fun p63 H64 =>
          App Try.prog 167 167 H64 v61 (.slice (some ⟨p63, 0, none⟩) 1 1) fun v65 H66 =>
          Sc v65 (St H66 p 67 [v65] fun H67 =>
          Ld H59 p 67 fun v68 =>
          Same v61 v68 (
          Ld H64 p 67 fun v69 =>
          Same v61 v69 (
          St H67 p9 (Nat.add (Nat.add o10 (Nat.mul n13 3)) 2) [(.bool false)] fun H70 =>
          Ld H70 p9 (Nat.add (Nat.add o10 (Nat.mul n13 3)) 1) fun v71 =>
          AsInt .i64 v71 fun z72 =>
          InR (Int.add z72 (Int.ofNat 1)) (
          St H70 p9 (Nat.add (Nat.add o10 (Nat.mul n13 3)) 1) [(.int .i64 (Int.add z72 (Int.ofNat 1)))] fun H73 =>
          Ld H73 p 0 fun v74 =>
          Call1 Try.prog con 129 [v74] H73 fun v75 H76 =>
          Call1 Try.prog con 130 [(ptr p 0), v1, v27, v75] H76 fun v77 H78 =>
          K (.bool true) H78))))))) (
          Ld H59 p 0 fun v79 =>
          Call1 Try.prog con 129 [v79] H59 fun v80 H81 =>
          Call1 Try.prog con 130 [(ptr p 0), v1, v27, v80] H81 fun v82 H83 =>
          K (.bool true) H83))))))))))) (
      Ld H6 p 0 fun v84 =>
      Call1 Try.prog con 129 [v84] H6 fun v85 H86 =>
      Ld H86 p9 (Nat.add (Nat.add o10 (Nat.mul n13 3)) 0) fun v87 =>
      Ld H86 p9 (Nat.add (Nat.add o10 (Nat.mul n13 3)) 1) fun v88 =>
      AsSlc v87 fun p89 o90 l91 c92 =>
      AsCnt v88 fun n93 =>
      Must (ltN n93 l91) (
      Ld H86 p89 (Nat.add o90 (Nat.mul n93 1)) fun v94 =>
      IsNil .ifc v94 fun b95 =>
      Cd b95 (
        Ld H86 p 67 fun v96 =>
        Ld H86 p9 (Nat.add (Nat.add o10 (Nat.mul n13 3)) 1) fun v97 =>
        Sc v1 (Sc v97 (Nw H86 (mkRow 242 0 [v1, (.int .i64 t), v97, (.bool true)]) fun p98 H99 =>
        App Try.prog 167 167 H99 v96 (.slice (some ⟨p98, 0, none⟩) 1 1) fun v100 H101 =>
        Sc v100 (St H101 p 67 [v100] fun H102 =>
        Ld H86 p 67 fun v103 =>
        Same v96 v103 (
        Ld H99 p 67 fun v104 =>
        Same v96 v104 (
        St H102 p9 (Nat.add (Nat.add o10 (Nat.mul n13 3)) 2) [(.bool false)] fun H105 =>
        Ld H105 p9 (Nat.add (Nat.add o10 (Nat.mul n13 3)) 1) fun v106 =>
        AsInt .i64 v106 fun z107 =>
        InR (Int.add z107 (Int.ofNat 1)) (
        St H105 p9 (Nat.add (Nat.add o10 (Nat.mul n13 3)) 1) [(.int .i64 (Int.add z107 (Int.ofNat 1)))] fun H108 =>
        Ld H108 p 0 fun v109 =>
        Call1 Try.prog con 129 [v109] H108 fun v110 H111 =>
        Call1 Try.prog con 130 [(ptr p 0), v1, v85, v110] H111 fun v112 H113 =>
        K (.bool true) H113))))))) (
        AsCnt (.int .i64 t) fun n114 =>
        Must (ltN n114 64) (
        Ld H86 p (Nat.add 2 (Nat.mul n114 1)) fun v115 =>
        MethOk Try.prog "Step" [v94] (
        Mth Try.prog con v94 "Step" [v115] H86 fun v116 H117 =>
        AsBool v116 fun b118 =>
        Cd b118 (
          Ld H117 p 67 fun v119 =>
          Ld H117 p9 (Nat.add (Nat.add o10 (Nat.mul n13 3)) 1) fun v120 =>
          Sc v1 (Sc v120 (Nw H117 (mkRow 242 0 [v1, (.int .i64 t), v120, (.bool true)]) fun p121 H122 =>
          App Try.prog 167 167 H122 v119 (.slice (some ⟨p121, 0, none⟩) 1 1) fun v123 H124 =>
          Sc v123 (St H124 p 67 [v123] fun H125 =>
          Ld H117 p 67 fun v126 =>
          Same v119 v126 (
          Ld H122 p 67 fun v127 =>
          Same v119 v127 (
          St H125 p9 (Nat.add (Nat.add o10 (Nat.mul n13 3)) 2) [(.bool false)] fun H128 =>
          Ld H128 p9 (Nat.add (Nat.add o10 (Nat.mul n13 3)) 1) fun v129 =>
          AsInt .i64 v129 fun z130 =>
          InR (Int.add z130 (Int.ofNat 1)) (
          St H128 p9 (Nat.add (Nat.add o10 (Nat.mul n13 3)) 1) [(.int .i64 (Int.add z130 (Int.ofNat 1)))] fun H131 =>
          Ld H131 p 0 fun v132 =>
          Call1 Try.prog con 129 [v132] H131 fun v133 H134 =>
          Call1 Try.prog con 130 [(ptr p 0), v1, v85, v133] H134 fun v135 H136 =>
          K (.bool true) H136))))))) (
          Ld H117 p 0 fun v137 =>
          Call1 Try.prog con 129 [v137] H117 fun v138 H139 =>
          Call1 Try.prog con 130 [(ptr p 0), v1, v85, v138] H139 fun v140 H141 =>
          K (.bool true) H141)))))))))) := by kernel_rfl

theorem stepIdle_W (con : CallT) (p : Nat) (t : Int) (H : CH) (K : KP) : funW Try.prog con 128 [ptr p 0, i64 t] H K =
  (Cd (ltZ t (Int.ofNat 0)) (
    K (.bool true) H) (
    Ld H p 1 fun v1 =>
    AsLen v1 fun l2 =>
    Cd (leZ (Int.ofNat l2) t) (
      K (.bool true) H) (
      Ld H p 1 fun v3 =>
      AsSlc v3 fun p4 o5 l6 c7 =>
      AsCnt (.int .i64 t) fun n8 =>
      Must (ltN n8 l6) (
      Ld H p4 (Nat.add (Nat.add o5 (Nat.mul n8 3)) 1) fun v9 =>
      Ld H p 1 fun v10 =>
      AsSlc v10 fun p11 o12 l13 c14 =>
      AsCnt (.int .i64 t) fun n15 =>
      Must (ltN n15 l13) (
      Ld H p11 (Nat.add (Nat.add o12 (Nat.mul n15 3)) 0) fun v16 =>
      AsLen v16 fun l17 =>
      AsInt .i64 v9 fun z18 =>
      K (.bool (leZ (Int.ofNat l17) z18)) H))))) := by kernel_rfl

theorem stepNote_W (con : CallT) (p : Nat) (t y z : Int) (H : CH) (K : KP) : funW Try.prog con 130 [ptr p 0, i64 t, i64 y, i64 z] H K =
  (LoopC Try.prog con (lpAt Try.prog 130 0) (upd (upd (upd (upd (fun _ => undV) 3 (.int .i64 z)) 2 (.int .i64 y)) 1 (.int .i64 t)) 0 (ptr p 0)) H (fun e => ceP e
  (fun a1 H2 =>
    LoopC Try.prog con (lpAt Try.prog 130 1) a1 H2 (fun e => ceP e
    (fun a4 H5 =>
      K (.tuple ⟨[]⟩) H5)
    (fun i6 => fun a4 H5 =>
      Cd (eqN i6 2) (
        K (.tuple ⟨[]⟩) H5) (
        False))
    (fun a4 H5 =>
      K (.tuple ⟨[]⟩) H5)))
  (fun i3 => fun a1 H2 =>
    Cd (eqN i3 0) (
      LoopC Try.prog con (lpAt Try.prog 130 1) a1 H2 (fun e => ceP e
      (fun a7 H8 =>
        K (.tuple ⟨[]⟩) H8)
      (fun i9 => fun a7 H8 =>
        Cd (eqN i9 2) (
          K (.tuple ⟨[]⟩) H8) (
          False))
      (fun a7 H8 =>
        K (.tuple ⟨[]⟩) H8))) (
      False))
  (fun a1 H2 =>
    K (.tuple ⟨[]⟩) H2))) := by kernel_rfl

theorem containsP_W (con : CallT) (xa xf : Value) (H : CH) (K : KP) : funW Try.prog con 97 [xa, xf] H K =
  (Call1 Try.prog con 127 [xa, xf] H fun v1 H2 =>
  AsInt .i64 v1 fun z3 =>
  K (.bool (leZ (Int.ofNat 0) z3)) H2) := by kernel_rfl

theorem indexP_W (con : CallT) (xa xf : Value) (H : CH) (K : KP) : funW Try.prog con 127 [xa, xf] H K =
  (AsLen xa fun l1 =>
  LoopC Try.prog con (lpAt Try.prog 127 0) (upd (upd (upd (upd (upd (upd (fun _ => undV) 1 xf) 0 xa) 4 (.int .i64 (Int.ofNat 0))) 6 xa) 7 (.int .i64 (Int.ofNat l1))) 8 (.int .i64 (Int.ofNat 0))) H (fun e => ceP e
  (fun a2 H3 =>
    K (.int .i64 (Int.negSucc 0)) H3)
  (fun i4 => fun a2 H3 =>
    Cd (eqN i4 0) (
      K (.int .i64 (Int.negSucc 0)) H3) (
      False))
  (fun a2 H3 =>
    K (a2 4) H3))) := by kernel_rfl

theorem cloneP_W (con : CallT) (v : Value) (H : CH) (K : KP) : funW Try.prog con 99 [v] H K =
  (IsNil .slc v fun b1 =>
  Cd b1 (
    K (.slice none 0 0) H) (
    Nw H (mkRow 76 0 []) fun p2 H3 =>
    App Try.prog 73 73 H3 (.slice (some ⟨p2, 0, none⟩) 0 0) v fun v4 H5 =>
    K v4 H5)) := by kernel_rfl

theorem stepNewL_W (con : CallT) (a : TF) (H : CH) (K : KX) : codeW (lpAt Try.prog 36 0) Try.prog con a H K =
  (AsInt .i64 (a 23) fun z1 =>
  AsInt .i64 (a 22) fun z2 =>
  Cd (ltZ z1 z2) (
    AsSlc (a 21) fun p3 o4 l5 c6 =>
    AsCnt (a 23) fun n7 =>
    Must (ltN n7 l5) (
    Ld H p3 (Nat.add o4 (Nat.mul n7 1)) fun v8 =>
    NotNil Try.prog (a 6) (
    AsPtr (a 6) fun p9 o10 =>
    Ld H p9 (Nat.add o10 1) fun v11 =>
    Call1 Try.prog con 99 [v8] H fun v12 H13 =>
    Sc v12 (Nw H13 (mkRow 172 0 [v12, (.int .i64 (Int.ofNat 0)), (.bool false)]) fun p14 H15 =>
    App Try.prog 165 165 H15 v11 (.slice (some ⟨p14, 0, none⟩) 1 1) fun v16 H17 =>
    NotNil Try.prog (a 6) (
    AsPtr (a 6) fun p18 o19 =>
    Sc v16 (St H17 p18 (Nat.add o19 1) [v16] fun H20 =>
    Ld H p9 (Nat.add o10 1) fun v21 =>
    Same v11 v21 (
    Ld H13 p9 (Nat.add o10 1) fun v22 =>
    Same v11 v22 (
    Ld H15 p9 (Nat.add o10 1) fun v23 =>
    Same v11 v23 (
    Call1 Try.prog con 22 [(a 0), (a 23)] H20 fun v24 H25 =>
    NotNil Try.prog (a 6) (
    AsPtr (a 6) fun p26 o27 =>
    AsCnt (a 23) fun n28 =>
    Must (ltN n28 64) (
    Sc v24 (St H25 p26 (Nat.add (Nat.add o27 2) (Nat.mul n28 1)) [v24] fun H29 =>
    AsInt .i64 (a 23) fun z30 =>
    InR (Int.add z30 (Int.ofNat 1)) (
    K .normal (upd (upd (upd (upd (upd (upd (upd (upd (upd (upd (upd (upd (upd (upd (upd (upd (upd (upd (upd (upd (upd (upd (upd (upd (upd (upd (upd (upd a 24 (.bool (ltZ z1 z2))) 25 (a 23)) 26 (ptr p3 (Nat.add o4 (Nat.mul n7 1)))) 27 v8) 7 (a 23)) 8 v8) 28 (a 6)) 29 (a 6)) 30 (a 6)) 31 (ptr p9 (Nat.add o10 1))) 32 v11) 33 v8) 34 v12) 35 (.agg ⟨[v12, (.int .i64 (Int.ofNat 0)), (.bool false)]⟩)) 36 (.slice (some ⟨p14, 0, none⟩) 1 1)) 37 v16) 38 (a 6)) 39 (ptr p18 (Nat.add o19 1))) 40 (a 6)) 41 (a 23)) 42 (a 0)) 43 (a 23)) 44 v24) 45 (a 6)) 46 (ptr p26 (Nat.add o27 2))) 47 (ptr p26 (Nat.add (Nat.add o27 2) (Nat.mul n28 1)))) 48 (.int .i64 (Int.add z30 (Int.ofNat 1)))) 23 (.int .i64 (Int.add z30 (Int.ofNat 1)))) H29))))))))))))) (
    K (.exit 0) (upd a 24 (.bool (ltZ z1 z2))) H)) := by kernel_rfl

theorem stepRunL_W (con : CallT) (a : TF) (H : CH) (K : KX) : codeW (lpAt Try.prog 38 0) Try.prog con a H K =
  (AsInt .i64 (a 8) fun z1 =>
  AsInt .i64 (a 7) fun z2 =>
  Cd (ltZ z1 z2) (
    AsSlc (a 6) fun p3 o4 l5 c6 =>
    AsCnt (a 8) fun n7 =>
    Must (ltN n7 l5) (
    Ld H p3 (Nat.add o4 (Nat.mul n7 1)) fun v8 =>
    Call1 Try.prog con 100 [(a 0), v8] H fun v9 H10 =>
    AsInt .i64 (a 8) fun z11 =>
    InR (Int.add z11 (Int.ofNat 1)) (
    K .normal (upd (upd (upd (upd (upd (upd (upd (upd (upd a 9 (.bool (ltZ z1 z2))) 10 (ptr p3 (Nat.add o4 (Nat.mul n7 1)))) 11 v8) 5 v8) 12 (a 0)) 13 v8) 14 v9) 15 (.int .i64 (Int.add z11 (Int.ofNat 1)))) 8 (.int .i64 (Int.add z11 (Int.ofNat 1)))) H10))) (
    K (.exit 0) (upd a 9 (.bool (ltZ z1 z2))) H)) := by kernel_rfl

theorem stepNoteA_W (con : CallT) (a : TF) (H : CH) (K : KX) : codeW (lpAt Try.prog 130 0) Try.prog con a H K =
  (NotNil Try.prog (a 0) (
  AsPtr (a 0) fun p1 o2 =>
  Ld H p1 (Nat.add o2 68) fun v3 =>
  AsLen v3 fun l4 =>
  AsInt .i64 (a 2) fun z5 =>
  Cd (ltZ (Int.ofNat l4) z5) (
    NotNil Try.prog (a 0) (
    AsPtr (a 0) fun p6 o7 =>
    Ld H p6 (Nat.add o7 68) fun v8 =>
    Nw H (mkRow 3 0 [(.int .i64 (Int.negSucc 0))]) fun p9 H10 =>
    App Try.prog 70 70 H10 v8 (.slice (some ⟨p9, 0, none⟩) 1 1) fun v11 H12 =>
    NotNil Try.prog (a 0) (
    AsPtr (a 0) fun p13 o14 =>
    Sc v11 (St H12 p13 (Nat.add o14 68) [v11] fun H15 =>
    K .normal (upd (upd (upd (upd (upd (upd (upd (upd (upd (upd (upd (upd (upd (upd (upd (upd a 8 (a 0)) 9 (a 0)) 10 (ptr p1 (Nat.add o2 68))) 11 v3) 12 (.int .i64 (Int.ofNat l4))) 13 (a 2)) 14 (.bool (ltZ (Int.ofNat l4) z5))) 15 (a 0)) 16 (a 0)) 17 (a 0)) 18 (ptr p6 (Nat.add o7 68))) 19 v8) 20 (.slice (some ⟨p9, 0, none⟩) 1 1)) 21 v11) 22 (a 0)) 23 (ptr p13 (Nat.add o14 68))) H15)))) (
    K (.exit 0) (upd (upd (upd (upd (upd (upd (upd a 8 (a 0)) 9 (a 0)) 10 (ptr p1 (Nat.add o2 68))) 11 v3) 12 (.int .i64 (Int.ofNat l4))) 13 (a 2)) 14 (.bool (ltZ (Int.ofNat l4) z5))) H))) := by kernel_rfl

theorem stepNoteB_W (con : CallT) (a : TF) (H : CH) (K : KX) : codeW (lpAt Try.prog 130 1) Try.prog con a H K =
  (NotNil Try.prog (a 0) (
  AsPtr (a 0) fun p1 o2 =>
  Ld H p1 (Nat.add o2 68) fun v3 =>
  AsLen v3 fun l4 =>
  AsInt .i64 (a 3) fun z5 =>
  Cd (ltZ (Int.ofNat l4) z5) (
    NotNil Try.prog (a 0) (
    AsPtr (a 0) fun p6 o7 =>
    Ld H p6 (Nat.add o7 68) fun v8 =>
    Sc (a 1) (Nw H (mkRow 3 0 [(a 1)]) fun p9 H10 =>
    App Try.prog 70 70 H10 v8 (.slice (some ⟨p9, 0, none⟩) 1 1) fun v11 H12 =>
    NotNil Try.prog (a 0) (
    AsPtr (a 0) fun p13 o14 =>
    Sc v11 (St H12 p13 (Nat.add o14 68) [v11] fun H15 =>
    K .normal (upd (upd (upd (upd (upd (upd (upd (upd (upd (upd (upd (upd (upd (upd (upd (upd (upd a 24 (a 0)) 25 (a 0)) 26 (ptr p1 (Nat.add o2 68))) 27 v3) 28 (.int .i64 (Int.ofNat l4))) 29 (a 3)) 30 (.bool (ltZ (Int.ofNat l4) z5))) 31 (a 0)) 32 (a 0)) 33 (a 0)) 34 (ptr p6 (Nat.add o7 68))) 35 v8) 36 (a 1)) 37 (.slice (some ⟨p9, 0, none⟩) 1 1)) 38 v11) 39 (a 0)) 40 (ptr p13 (Nat.add o14 68))) H15))))) (
    K (.exit 2) (upd (upd (upd (upd (upd (upd (upd a 24 (a 0)) 25 (a 0)) 26 (ptr p1 (Nat.add o2 68))) 27 v3) 28 (.int .i64 (Int.ofNat l4))) 29 (a 3)) 30 (.bool (ltZ (Int.ofNat l4) z5))) H))) := by kernel_rfl

theorem indexPL_W (con : CallT) (a : TF) (H : CH) (K : KX) : codeW (lpAt Try.prog 127 0) Try.prog con a H K =
  (AsInt .i64 (a 8) fun z1 =>
  AsInt .i64 (a 7) fun z2 =>
  Cd (ltZ z1 z2) (
    AsSlc (a 0) fun p3 o4 l5 c6 =>
    AsCnt (a 8) fun n7 =>
    Must (ltN n7 l5) (
    Ld H p3 (Nat.add o4 (Nat.mul n7 1)) fun v8 =>
    AsFn (a 1) fun g9 l10 l11 =>
    Must (isFunT Try.prog g9) (
    Call1 Try.prog con g9 (appF l10 (v8 :: l11)) H fun v12 H13 =>
    AsBool v12 fun b14 =>
    Cd b14 (
      K .ret (upd (upd (upd (upd (upd (upd (upd (upd (upd (upd (upd a 9 (.bool (ltZ z1 z2))) 10 (a 8)) 5 (a 8)) 11 (a 1)) 12 (a 0)) 13 (a 8)) 14 (ptr p3 (Nat.add o4 (Nat.mul n7 1)))) 15 v8) 16 v12) 17 (a 8)) 4 (a 8)) H13) (
      AsInt .i64 (a 8) fun z15 =>
      InR (Int.add z15 (Int.ofNat 1)) (
      K .normal (upd (upd (upd (upd (upd (upd (upd (upd (upd (upd (upd a 9 (.bool (ltZ z1 z2))) 10 (a 8)) 5 (a 8)) 11 (a 1)) 12 (a 0)) 13 (a 8)) 14 (ptr p3 (Nat.add o4 (Nat.mul n7 1)))) 15 v8) 16 v12) 18 (.int .i64 (Int.add z15 (Int.ofNat 1)))) 8 (.int .i64 (Int.add z15 (Int.ofNat 1)))) H13))))) (
    K (.exit 0) (upd a 9 (.bool (ltZ z1 z2))) H)) := by kernel_rfl

end Go.Proofs.Ytipbbnoepphdkaa

/- What some functions' texts ask for, step by step, each checked by the kernel. No conditions. -/
set_option linter.unusedVariables false
namespace Go.Proofs.Ytipbbnoepphdkaa
open Go Go.CM

theorem law15Begin_W (con : CallT) (xk : Int) (xa xb xc xd : Nat) (xv : Value) (H : CH) (K : KP) : funW Try.prog con 35 [.agg ⟨[i64 xk, u64 xa, u64 xb, u64 xc, u64 xd, xv]⟩] H K =
  (Nw H (mkRow 79 0 [(.int .i64 xk), (.int .u64 (Int.ofNat xa)), (.int .u64 (Int.ofNat xb)), (.int .u64 (Int.ofNat xc)), (.int .u64 (Int.ofNat xd)), xv]) fun p1 H2 =>
  Ld H2 p1 1 fun v3 =>
  AsNat .u64 v3 fun n4 =>
  Ld H2 p1 0 fun v5 =>
  AsInt .i64 v5 fun z6 =>
  Cd (eqZ z6 (Int.ofNat 0)) (
    Ld H2 p1 2 fun v7 =>
    Ld H2 p1 3 fun v8 =>
    Call1 Try.prog con 94 [(.int .u64 (Int.ofNat 1)), (.int .u64 (Int.ofNat (Nat.mod (Nat.add 2 (Nat.mod n4 2)) 18446744073709551616))), v7, v8] H2 fun v9 H10 =>
    K (.iface 157 v9) H10) (
    AsInt .i64 v5 fun z11 =>
    Cd (eqZ z11 (Int.ofNat 1)) (
      Call1 Try.prog con 95 [(.int .u64 (Int.ofNat 1)), (.int .u64 (Int.ofNat 1073741824))] H2 fun v12 H13 =>
      K (.iface 159 v12) H13) (
      AsInt .i64 v5 fun z14 =>
      Cd (eqZ z14 (Int.ofNat 2)) (
        Ld H2 p1 4 fun v15 =>
        Ld H2 p1 5 fun v16 =>
        Call1 Try.prog con 25 [(.int .u64 (Int.ofNat 1)), (.int .u64 (Int.ofNat (Nat.mod (Nat.add 2 (Nat.mod n4 2)) 18446744073709551616))), (.agg ⟨[v15, v16]⟩)] H2 fun v17 H18 =>
        K (.iface 32 v17) H18) (
        Ld H2 p1 2 fun v19 =>
        Call1 Try.prog con 96 [(.int .u64 (Int.ofNat 1)), (.int .u64 (Int.ofNat (Nat.mod (Nat.add 2 (Nat.mod n4 2)) 18446744073709551616))), v19] H2 fun v20 H21 =>
        K (.iface 161 v20) H21)))) := by kernel_rfl

theorem law15Long_W (con : CallT) (v : Value) (H : CH) (K : KP) : funW Try.prog con 37 [v] H K =
  (LoopC Try.prog con (lpAt Try.prog 37 0) (upd (upd (upd (fun _ => undV) 0 v) 2 (.bool false)) 3 (.int .i64 (Int.ofNat 0))) H (fun e => ceP e
  (fun a1 H2 =>
    K (.bool false) H2)
  (fun i3 => fun a1 H2 =>
    Cd (eqN i3 0) (
      K (.bool false) H2) (
      False))
  (fun a1 H2 =>
    K (a1 2) H2))) := by kernel_rfl

theorem law15LongL_W (con : CallT) (a : TF) (H : CH) (K : KX) : codeW (lpAt Try.prog 37 0) Try.prog con a H K =
  (AsLen (a 0) fun l1 =>
  AsInt .i64 (a 3) fun z2 =>
  Cd (ltZ z2 (Int.ofNat l1)) (
    AsSlc (a 0) fun p3 o4 l5 c6 =>
    AsCnt (a 3) fun n7 =>
    Must (ltN n7 l5) (
    Ld H p3 (Nat.add o4 (Nat.mul n7 1)) fun v8 =>
    AsLen v8 fun l9 =>
    Cd (ltZ (Int.ofNat 4096) (Int.ofNat l9)) (
      K .ret (upd (upd (upd (upd (upd (upd (upd (upd (upd (upd (upd a 4 (a 3)) 5 (a 0)) 6 (.int .i64 (Int.ofNat l1))) 7 (.bool (ltZ z2 (Int.ofNat l1)))) 10 (a 0)) 11 (a 3)) 12 (ptr p3 (Nat.add o4 (Nat.mul n7 1)))) 13 v8) 14 (.int .i64 (Int.ofNat l9))) 15 (.bool (ltZ (Int.ofNat 4096) (Int.ofNat l9)))) 2 (.bool true)) H) (
      AsInt .i64 (a 3) fun z10 =>
      InR (Int.add z10 (Int.ofNat 1)) (
      K .normal (upd (upd (upd (upd (upd (upd (upd (upd (upd (upd (upd (upd (upd a 4 (a 3)) 5 (a 0)) 6 (.int .i64 (Int.ofNat l1))) 7 (.bool (ltZ z2 (Int.ofNat l1)))) 10 (a 0)) 11 (a 3)) 12 (ptr p3 (Nat.add o4 (Nat.mul n7 1)))) 13 v8) 14 (.int .i64 (Int.ofNat l9))) 15 (.bool (ltZ (Int.ofNat 4096) (Int.ofNat l9)))) 8 (a 3)) 9 (.int .i64 (Int.add z10 (Int.ofNat 1)))) 3 (.int .i64 (Int.add z10 (Int.ofNat 1)))) H)))) (
    K (.exit 0) (upd (upd (upd (upd a 4 (a 3)) 5 (a 0)) 6 (.int .i64 (Int.ofNat l1))) 7 (.bool (ltZ z2 (Int.ofNat l1)))) H)) := by kernel_rfl

end Go.Proofs.Ytipbbnoepphdkaa

/- What some functions' texts ask for, step by step, each checked by the kernel. No conditions. -/
set_option linter.unusedVariables false
namespace Go.Proofs.Ytipbbnoepphdkaa
open Go Go.CM

theorem cutLeaves_W (con : CallT) (xv xw : Value) (H : CH) (K : KP) : funW Try.prog con 7 [xv, xw] H K =
  (Call1 Try.prog con 20 [(.int .i64 (Int.ofNat 4096)), (.bool false)] H fun v1 H2 =>
  AsTup v1 fun l3 =>
  Nth l3 0 fun v4 =>
  AsTup v1 fun l5 =>
  Nth l5 1 fun v6 =>
  Call1 Try.prog con 11 [] H2 fun v7 H8 =>
  AsBool v7 fun b9 =>
  Cd (notB b9) (
    K (.bool false) H8) (
    AsInt .i64 v6 fun z10 =>
    Cd (notB (eqZ z10 (Int.ofNat 0))) (
      K (.bool false) H8) (
      Call1 Try.prog con 22 [v4, (.int .i64 (Int.negSucc 0))] H8 fun v11 H12 =>
      Nw H12 (mkRow 22 0 [(.int .u64 (Int.ofNat 1)), (.int .u64 (Int.ofNat 0)), (.int .u64 (Int.ofNat 0))]) fun p13 H14 =>
      Call1 Try.prog con 34 [v11, (.slice (some ⟨p13, 0, none⟩) 3 3)] H14 fun v15 H16 =>
      LoopC Try.prog con (lpAt Try.prog 7 0) (upd (upd (upd (upd (upd (upd (upd (upd (upd (upd (upd (upd (upd (upd (upd (upd (upd (upd (upd (upd (upd (upd (upd (fun _ => undV) 1 xw) 0 xv) 4 (.bool false)) 19 v1) 18 v1) 20 v4) 21 v6) 5 v4) 6 v6) 22 v7) 23 (.bool (notB b9))) 24 (.bool (notB b9))) 24 (.bool false)) 25 v6) 24 (.bool false)) 26 (.bool (notB (eqZ z10 (Int.ofNat 0))))) 27 (.bool (notB (eqZ z10 (Int.ofNat 0))))) 28 v4) 29 v11) 30 (.slice (some ⟨p13, 0, none⟩) 3 3)) 31 v15) 7 (.slice none 0 0)) 8 (.int .i64 (Int.ofNat 0))) H16 (fun e => ceP e
      (fun a17 H18 =>
        Call1 Try.prog con 36 [(a17 5), (a17 7)] H18 fun v20 H21 =>
        AsTup v20 fun l22 =>
        Nth l22 0 fun v23 =>
        AsTup v20 fun l24 =>
        Nth l24 1 fun v25 =>
        AsInt .i64 v25 fun z26 =>
        Cd (notB (eqZ z26 (Int.ofNat 0))) (
          AsLen (a17 0) fun l27 =>
          Cd (ltZ (Int.ofNat 64) (Int.ofNat l27)) (
            K (.bool true) H21) (
            Call1 Try.prog con 37 [(a17 0)] H21 fun v28 H29 =>
            K v28 H29)) (
          Call1 Try.prog con 38 [v23, (a17 1)] H21 fun v30 H31 =>
          Call1 Try.prog con 28 [(a17 5)] H31 fun v32 H33 =>
          LoopC Try.prog con (lpAt Try.prog 7 2) (upd (upd (upd (upd (upd (upd (upd (upd (upd (upd (upd (upd (upd (upd (upd (upd (upd (upd a17 63 (a17 5)) 64 (a17 7)) 65 v20) 62 v20) 66 v23) 67 v25) 11 v23) 6 v25) 68 v25) 69 (.bool (notB (eqZ z26 (Int.ofNat 0))))) 77 v23) 78 (a17 1)) 79 v30) 80 (a17 5)) 81 v32) 12 v32) 13 (.slice none 0 0)) 14 (.int .i64 (Int.ofNat 1))) H33 (fun e => ceP e
          (fun a34 H35 =>
            K (.bool true) H35)
          (fun i36 => fun a34 H35 =>
            Cd (eqN i36 4) (
              K (.bool true) H35) (
              False))
          (fun a34 H35 =>
            K (a34 4) H35))))
      (fun i19 => fun a17 H18 =>
        Cd (eqN i19 0) (
          Call1 Try.prog con 36 [(a17 5), (a17 7)] H18 fun v37 H38 =>
          AsTup v37 fun l39 =>
          Nth l39 0 fun v40 =>
          AsTup v37 fun l41 =>
          Nth l41 1 fun v42 =>
          AsInt .i64 v42 fun z43 =>
          Cd (notB (eqZ z43 (Int.ofNat 0))) (
            AsLen (a17 0) fun l44 =>
            Cd (ltZ (Int.ofNat 64) (Int.ofNat l44)) (
              K (.bool true) H38) (
              Call1 Try.prog con 37 [(a17 0)] H38 fun v45 H46 =>
              K v45 H46)) (
            Call1 Try.prog con 38 [v40, (a17 1)] H38 fun v47 H48 =>
            Call1 Try.prog con 28 [(a17 5)] H48 fun v49 H50 =>
            LoopC Try.prog con (lpAt Try.prog 7 2) (upd (upd (upd (upd (upd (upd (upd (upd (upd (upd (upd (upd (upd (upd (upd (upd (upd (upd a17 63 (a17 5)) 64 (a17 7)) 65 v37) 62 v37) 66 v40) 67 v42) 11 v40) 6 v42) 68 v42) 69 (.bool (notB (eqZ z43 (Int.ofNat 0))))) 77 v40) 78 (a17 1)) 79 v47) 80 (a17 5)) 81 v49) 12 v49) 13 (.slice none 0 0)) 14 (.int .i64 (Int.ofNat 1))) H50 (fun e => ceP e
            (fun a51 H52 =>
              K (.bool true) H52)
            (fun i53 => fun a51 H52 =>
              Cd (eqN i53 4) (
                K (.bool true) H52) (
                False))
            (fun a51 H52 =>
              K (a51 4) H52)))) (
          False))
      (fun a17 H18 =>
        K (a17 4) H18))))) := by kernel_rfl

theorem cutLeavesA_W (con : CallT) (a : TF) (H : CH) (K : KX) : codeW (lpAt Try.prog 7 0) Try.prog con a H K =
  (AsLen (a 0) fun l1 =>
  AsInt .i64 (a 8) fun z2 =>
  Cd (ltZ z2 (Int.ofNat l1)) (
    LoopC Try.prog con (lpAt Try.prog 7 1) (upd (upd (upd (upd (upd (upd a 32 (a 8)) 33 (a 0)) 34 (.int .i64 (Int.ofNat l1))) 35 (.bool (ltZ z2 (Int.ofNat l1)))) 9 (.slice none 0 0)) 10 (.int .i64 (Int.ofNat 0))) H (fun e => ceP e
    (fun a3 H4 =>
      Sc (a3 9) (Nw H4 (mkRow 73 0 [(a3 9)]) fun p6 H7 =>
      App Try.prog 72 72 H7 (a3 7) (.slice (some ⟨p6, 0, none⟩) 1 1) fun v8 H9 =>
      AsInt .i64 (a3 8) fun z10 =>
      InR (Int.add z10 (Int.ofNat 1)) (
      K .normal (upd (upd (upd (upd (upd (upd (upd (upd a3 58 (a3 7)) 59 (a3 9)) 60 (.slice (some ⟨p6, 0, none⟩) 1 1)) 61 v8) 7 v8) 36 (a3 8)) 37 (.int .i64 (Int.add z10 (Int.ofNat 1)))) 8 (.int .i64 (Int.add z10 (Int.ofNat 1)))) H9)))
    (fun i5 => fun a3 H4 =>
      Cd (eqN i5 2) (
        Sc (a3 9) (Nw H4 (mkRow 73 0 [(a3 9)]) fun p11 H12 =>
        App Try.prog 72 72 H12 (a3 7) (.slice (some ⟨p11, 0, none⟩) 1 1) fun v13 H14 =>
        AsInt .i64 (a3 8) fun z15 =>
        InR (Int.add z15 (Int.ofNat 1)) (
        K .normal (upd (upd (upd (upd (upd (upd (upd (upd a3 58 (a3 7)) 59 (a3 9)) 60 (.slice (some ⟨p11, 0, none⟩) 1 1)) 61 v13) 7 v13) 36 (a3 8)) 37 (.int .i64 (Int.add z15 (Int.ofNat 1)))) 8 (.int .i64 (Int.add z15 (Int.ofNat 1)))) H14))) (
        Cd (eqN i5 1) (
          AsInt .i64 (a3 8) fun z16 =>
          InR (Int.add z16 (Int.ofNat 1)) (
          K .normal (upd (upd (upd a3 36 (a3 8)) 37 (.int .i64 (Int.add z16 (Int.ofNat 1)))) 8 (.int .i64 (Int.add z16 (Int.ofNat 1)))) H4)) (
          K (.exit i5) a3 H4)))
    (fun a3 H4 =>
      K .ret a3 H4))) (
    K (.exit 0) (upd (upd (upd (upd a 32 (a 8)) 33 (a 0)) 34 (.int .i64 (Int.ofNat l1))) 35 (.bool (ltZ z2 (Int.ofNat l1)))) H)) := by kernel_rfl

theorem cutLeavesB_W (con : CallT) (a : TF) (H : CH) (K : KX) : codeW (lpAt Try.prog 7 1) Try.prog con a H K =
  (AsSlc (a 0) fun p1 o2 l3 c4 =>
  AsCnt (a 8) fun n5 =>
  Must (ltN n5 l3) (
  Ld H p1 (Nat.add o2 (Nat.mul n5 1)) fun v6 =>
  AsLen v6 fun l7 =>
  AsInt .i64 (a 10) fun z8 =>
  Cd (ltZ z8 (Int.ofNat l7)) (
    AsSlc (a 0) fun p9 o10 l11 c12 =>
    AsCnt (a 8) fun n13 =>
    Must (ltN n13 l11) (
    Ld H p9 (Nat.add o10 (Nat.mul n13 1)) fun v14 =>
    AsSlc v14 fun p15 o16 l17 c18 =>
    AsCnt (a 10) fun n19 =>
    Must (ltN n19 l17) (
    Ld H p15 (Nat.add (Nat.add o16 (Nat.mul n19 6)) 0) fun v20 =>
    Ld H p15 (Nat.add (Nat.add o16 (Nat.mul n19 6)) 1) fun v21 =>
    Ld H p15 (Nat.add (Nat.add o16 (Nat.mul n19 6)) 2) fun v22 =>
    Ld H p15 (Nat.add (Nat.add o16 (Nat.mul n19 6)) 3) fun v23 =>
    Ld H p15 (Nat.add (Nat.add o16 (Nat.mul n19 6)) 4) fun v24 =>
    Ld H p15 (Nat.add (Nat.add o16 (Nat.mul n19 6)) 5) fun v25 =>
    Call1 Try.prog con 35 [(.agg ⟨[v20, v21, v22, v23, v24, v25]⟩)] H fun v26 H27 =>
    Sc v26 (Nw H27 (mkRow 76 0 [v26]) fun p28 H29 =>
    App Try.prog 73 73 H29 (a 9) (.slice (some ⟨p28, 0, none⟩) 1 1) fun v30 H31 =>
    AsInt .i64 (a 10) fun z32 =>
    InR (Int.add z32 (Int.ofNat 1)) (
    K .normal (upd (upd (upd (upd (upd (upd (upd (upd (upd (upd (upd (upd (upd (upd (upd (upd (upd (upd (upd (upd (upd (upd a 38 (a 10)) 39 (a 0)) 40 (a 8)) 41 (ptr p1 (Nat.add o2 (Nat.mul n5 1)))) 42 v6) 43 (.int .i64 (Int.ofNat l7))) 44 (.bool (ltZ z8 (Int.ofNat l7)))) 47 (a 9)) 48 (a 0)) 49 (a 8)) 50 (ptr p9 (Nat.add o10 (Nat.mul n13 1)))) 51 v14) 52 (a 10)) 53 (ptr p15 (Nat.add o16 (Nat.mul n19 6)))) 54 (.agg ⟨[v20, v21, v22, v23, v24, v25]⟩)) 55 v26) 56 (.slice (some ⟨p28, 0, none⟩) 1 1)) 57 v30) 9 v30) 45 (a 10)) 46 (.int .i64 (Int.add z32 (Int.ofNat 1)))) 10 (.int .i64 (Int.add z32 (Int.ofNat 1)))) H31))))) (
    K (.exit 2) (upd (upd (upd (upd (upd (upd (upd a 38 (a 10)) 39 (a 0)) 40 (a 8)) 41 (ptr p1 (Nat.add o2 (Nat.mul n5 1)))) 42 v6) 43 (.int .i64 (Int.ofNat l7))) 44 (.bool (ltZ z8 (Int.ofNat l7)))) H))) := by kernel_rfl

theorem cutLeavesC_W (con : CallT) (a : TF) (H : CH) (K : KX) : codeW (lpAt Try.prog 7 2) Try.prog con a H K =
  (AsLen (a 12) fun l1 =>
  AsInt .i64 (a 14) fun z2 =>
  Cd (ltZ z2 (Int.ofNat l1)) (
    AsSlc (a 12) fun p3 o4 l5 c6 =>
    AsCnt (a 14) fun n7 =>
    Must (ltN n7 l5) (
    Ld H p3 (Nat.add (Nat.add o4 (Nat.mul n7 8)) 1) fun v8 =>
    AsNat .u8 v8 fun n9 =>
    Cd (eqN n9 5) (
      AsSlc (a 12) fun p10 o11 l12 c13 =>
      AsCnt (a 14) fun n14 =>
      Must (ltN n14 l12) (
      Ld H p10 (Nat.add (Nat.add o11 (Nat.mul n14 8)) 2) fun v15 =>
      AsNat .u64 v15 fun n16 =>
      Cd (notB (eqN n16 0)) (
        AsSlc (a 12) fun p17 o18 l19 c20 =>
        AsCnt (a 14) fun n21 =>
        Must (ltN n21 l19) (
        Ld H p17 (Nat.add (Nat.add o18 (Nat.mul n21 8)) 2) fun v22 =>
        Sc v22 (Nw H (mkRow 22 0 [v22]) fun p23 H24 =>
        App Try.prog 23 23 H24 (a 13) (.slice (some ⟨p23, 0, none⟩) 1 1) fun v25 H26 =>
        AsSlc (a 12) fun p27 o28 l29 c30 =>
        AsCnt (a 14) fun n31 =>
        Must (ltN n31 l29) (
        Ld H26 p27 (Nat.add (Nat.add o28 (Nat.mul n31 8)) 1) fun v32 =>
        AsNat .u8 v32 fun n33 =>
        Cd (notB (eqN n33 2)) (
          AsInt .i64 (a 14) fun z34 =>
          InR (Int.add z34 (Int.ofNat 1)) (
          K .normal (upd (upd (upd (upd (upd (upd (upd (upd (upd (upd (upd (upd (upd (upd (upd (upd (upd (upd (upd (upd (upd (upd (upd (upd (upd (upd (upd (upd (upd (upd (upd (upd (upd (upd (upd (upd (upd (upd (upd (upd (upd (upd a 82 (a 14)) 83 (a 12)) 84 (.int .i64 (Int.ofNat l1))) 85 (.bool (ltZ z2 (Int.ofNat l1)))) 88 (a 12)) 89 (a 14)) 90 (ptr p3 (Nat.add o4 (Nat.mul n7 8)))) 91 (ptr p3 (Nat.add (Nat.add o4 (Nat.mul n7 8)) 1))) 92 v8) 93 (.bool (eqN n9 5))) 94 (.bool (eqN n9 5))) 94 (.bool true)) 95 (a 12)) 94 (.bool true)) 96 (a 14)) 94 (.bool true)) 97 (ptr p10 (Nat.add o11 (Nat.mul n14 8)))) 94 (.bool true)) 98 (ptr p10 (Nat.add (Nat.add o11 (Nat.mul n14 8)) 2))) 94 (.bool true)) 99 v15) 94 (.bool true)) 100 (.bool (notB (eqN n16 0)))) 101 (.bool (notB (eqN n16 0)))) 102 (a 13)) 103 (a 12)) 104 (a 14)) 105 (ptr p17 (Nat.add o18 (Nat.mul n21 8)))) 106 (ptr p17 (Nat.add (Nat.add o18 (Nat.mul n21 8)) 2))) 107 v22) 108 (.slice (some ⟨p23, 0, none⟩) 1 1)) 109 v25) 13 v25) 110 (a 12)) 111 (a 14)) 112 (ptr p27 (Nat.add o28 (Nat.mul n31 8)))) 113 (ptr p27 (Nat.add (Nat.add o28 (Nat.mul n31 8)) 1))) 114 v32) 115 (.bool (notB (eqN n33 2)))) 86 (a 14)) 87 (.int .i64 (Int.add z34 (Int.ofNat 1)))) 14 (.int .i64 (Int.add z34 (Int.ofNat 1)))) H26)) (
          AsSlc (a 12) fun p35 o36 l37 c38 =>
          AsCnt (a 14) fun n39 =>
          Must (ltN n39 l37) (
          Ld H26 p35 (Nat.add (Nat.add o36 (Nat.mul n39 8)) 3) fun v40 =>
          AsNat .u64 v40 fun n41 =>
          LoopC Try.prog con (lpAt Try.prog 7 3) (upd (upd (upd (upd (upd (upd (upd (upd (upd (upd (upd (upd (upd (upd (upd (upd (upd (upd (upd (upd (upd (upd (upd (upd (upd (upd (upd (upd (upd (upd (upd (upd (upd (upd (upd (upd (upd (upd (upd (upd (upd (upd (upd (upd (upd (upd (upd (upd a 82 (a 14)) 83 (a 12)) 84 (.int .i64 (Int.ofNat l1))) 85 (.bool (ltZ z2 (Int.ofNat l1)))) 88 (a 12)) 89 (a 14)) 90 (ptr p3 (Nat.add o4 (Nat.mul n7 8)))) 91 (ptr p3 (Nat.add (Nat.add o4 (Nat.mul n7 8)) 1))) 92 v8) 93 (.bool (eqN n9 5))) 94 (.bool (eqN n9 5))) 94 (.bool true)) 95 (a 12)) 94 (.bool true)) 96 (a 14)) 94 (.bool true)) 97 (ptr p10 (Nat.add o11 (Nat.mul n14 8)))) 94 (.bool true)) 98 (ptr p10 (Nat.add (Nat.add o11 (Nat.mul n14 8)) 2))) 94 (.bool true)) 99 v15) 94 (.bool true)) 100 (.bool (notB (eqN n16 0)))) 101 (.bool (notB (eqN n16 0)))) 102 (a 13)) 103 (a 12)) 104 (a 14)) 105 (ptr p17 (Nat.add o18 (Nat.mul n21 8)))) 106 (ptr p17 (Nat.add (Nat.add o18 (Nat.mul n21 8)) 2))) 107 v22) 108 (.slice (some ⟨p23, 0, none⟩) 1 1)) 109 v25) 13 v25) 110 (a 12)) 111 (a 14)) 112 (ptr p27 (Nat.add o28 (Nat.mul n31 8)))) 113 (ptr p27 (Nat.add (Nat.add o28 (Nat.mul n31 8)) 1))) 114 v32) 115 (.bool (notB (eqN n33 2)))) 116 (a 12)) 117 (a 14)) 118 (ptr p35 (Nat.add o36 (Nat.mul n39 8)))) 119 (ptr p35 (Nat.add (Nat.add o36 (Nat.mul n39 8)) 3))) 120 v40) 121 (.bool (eqN n41 0))) 15 (.bool (eqN n41 0))) 16 (.bool false)) 17 (.int .i64 (Int.ofNat 0))) H26 (fun e => ceP e
          (fun a42 H43 =>
            AsBool (a42 15) fun b45 =>
            Cd (notB b45) (
              K .ret (upd (upd (upd (upd (upd (upd (upd (upd (upd (upd (upd (upd (upd (upd (upd (upd (upd (upd (upd (upd (upd (upd (upd (upd (upd (upd (upd (upd (upd (upd (upd (upd (upd a42 155 (a42 15)) 156 (.bool (notB b45))) 157 (.bool (notB b45))) 157 (.bool true)) 158 (.tuple ⟨[]⟩)) 157 (.bool true)) 159 (.tuple ⟨[]⟩)) 160 (.bool true)) 161 (.bool true)) 161 (.bool true)) 162 (.tuple ⟨[]⟩)) 161 (.bool true)) 163 (.tuple ⟨[]⟩)) 161 (.bool true)) 164 (.tuple ⟨[]⟩)) 161 (.bool true)) 165 (.tuple ⟨[]⟩)) 161 (.bool true)) 166 (.tuple ⟨[]⟩)) 161 (.bool true)) 167 (.tuple ⟨[]⟩)) 161 (.bool true)) 168 (.tuple ⟨[]⟩)) 161 (.bool true)) 169 (.tuple ⟨[]⟩)) 161 (.bool true)) 170 (.tuple ⟨[]⟩)) 161 (.bool true)) 171 (.tuple ⟨[]⟩)) 161 (.bool true)) 172 (.tuple ⟨[]⟩)) 173 (.bool true)) 4 (.bool false)) H43) (
              AsBool (a42 16) fun b46 =>
              Cd (notB b46) (
                K .ret (upd (upd (upd (upd (upd (upd (upd (upd (upd (upd (upd (upd (upd (upd (upd (upd (upd (upd (upd (upd (upd (upd (upd (upd (upd (upd (upd (upd (upd (upd (upd (upd (upd a42 155 (a42 15)) 156 (.bool (notB b45))) 157 (.bool (notB b45))) 157 (.bool false)) 158 (a42 16)) 157 (.bool false)) 159 (.bool (notB b46))) 160 (.bool (notB b46))) 161 (.bool (notB b46))) 161 (.bool true)) 162 (.tuple ⟨[]⟩)) 161 (.bool true)) 163 (.tuple ⟨[]⟩)) 161 (.bool true)) 164 (.tuple ⟨[]⟩)) 161 (.bool true)) 165 (.tuple ⟨[]⟩)) 161 (.bool true)) 166 (.tuple ⟨[]⟩)) 161 (.bool true)) 167 (.tuple ⟨[]⟩)) 161 (.bool true)) 168 (.tuple ⟨[]⟩)) 161 (.bool true)) 169 (.tuple ⟨[]⟩)) 161 (.bool true)) 170 (.tuple ⟨[]⟩)) 161 (.bool true)) 171 (.tuple ⟨[]⟩)) 161 (.bool true)) 172 (.tuple ⟨[]⟩)) 173 (.bool true)) 4 (.bool false)) H43) (
                AsSlc (a42 12) fun p47 o48 l49 c50 =>
                AsCnt (a42 14) fun n51 =>
                Must (ltN n51 l49) (
                Ld H43 p47 (Nat.add (Nat.add o48 (Nat.mul n51 8)) 3) fun v52 =>
                AsSlc (a42 12) fun p53 o54 l55 c56 =>
                AsCnt (a42 14) fun n57 =>
                Must (ltN n57 l55) (
                Ld H43 p53 (Nat.add (Nat.add o54 (Nat.mul n57 8)) 2) fun v58 =>
                AsNat .u64 v52 fun n59 =>
                AsNat .u64 v58 fun n60 =>
                Cd (leN n60 n59) (
                  K .ret (upd (upd (upd (upd (upd (upd (upd (upd (upd (upd (upd (upd (upd (upd (upd (upd (upd (upd (upd (upd (upd (upd (upd (upd (upd (upd (upd (upd (upd (upd (upd (upd (upd a42 155 (a42 15)) 156 (.bool (notB b45))) 157 (.bool (notB b45))) 157 (.bool false)) 158 (a42 16)) 157 (.bool false)) 159 (.bool (notB b46))) 160 (.bool (notB b46))) 161 (.bool (notB b46))) 161 (.bool false)) 162 (a42 12)) 161 (.bool false)) 163 (a42 14)) 161 (.bool false)) 164 (ptr p47 (Nat.add o48 (Nat.mul n51 8)))) 161 (.bool false)) 165 (ptr p47 (Nat.add (Nat.add o48 (Nat.mul n51 8)) 3))) 161 (.bool false)) 166 v52) 161 (.bool false)) 167 (a42 12)) 161 (.bool false)) 168 (a42 14)) 161 (.bool false)) 169 (ptr p53 (Nat.add o54 (Nat.mul n57 8)))) 161 (.bool false)) 170 (ptr p53 (Nat.add (Nat.add o54 (Nat.mul n57 8)) 2))) 161 (.bool false)) 171 v58) 161 (.bool false)) 172 (.bool (leN n60 n59))) 173 (.bool (leN n60 n59))) 4 (.bool false)) H43) (
                  AsInt .i64 (a42 14) fun z61 =>
                  InR (Int.add z61 (Int.ofNat 1)) (
                  K .normal (upd (upd (upd (upd (upd (upd (upd (upd (upd (upd (upd (upd (upd (upd (upd (upd (upd (upd (upd (upd (upd (upd (upd (upd (upd (upd (upd (upd (upd (upd (upd (upd (upd (upd (upd a42 155 (a42 15)) 156 (.bool (notB b45))) 157 (.bool (notB b45))) 157 (.bool false)) 158 (a42 16)) 157 (.bool false)) 159 (.bool (notB b46))) 160 (.bool (notB b46))) 161 (.bool (notB b46))) 161 (.bool false)) 162 (a42 12)) 161 (.bool false)) 163 (a42 14)) 161 (.bool false)) 164 (ptr p47 (Nat.add o48 (Nat.mul n51 8)))) 161 (.bool false)) 165 (ptr p47 (Nat.add (Nat.add o48 (Nat.mul n51 8)) 3))) 161 (.bool false)) 166 v52) 161 (.bool false)) 167 (a42 12)) 161 (.bool false)) 168 (a42 14)) 161 (.bool false)) 169 (ptr p53 (Nat.add o54 (Nat.mul n57 8)))) 161 (.bool false)) 170 (ptr p53 (Nat.add (Nat.add o54 (Nat.mul n57 8)) 2))) 161 (.bool false)) 171 v58) 161 (.bool false)) 172 (.bool (leN n60 n59))) 173 (.bool (leN n60 n59))) 86 (a42 14)) 87 (.int .i64 (Int.add z61 (Int.ofNat 1)))) 14 (.int .i64 (Int.add z61 (Int.ofNat 1)))) H43)))))))
          (fun i44 => fun a42 H43 =>
            Cd (eqN i44 6) (
              AsBool (a42 15) fun b62 =>
              Cd (notB b62) (
                K .ret (upd (upd (upd (upd (upd (upd (upd (upd (upd (upd (upd (upd (upd (upd (upd (upd (upd (upd (upd (upd (upd (upd (upd (upd (upd (upd (upd (upd (upd (upd (upd (upd (upd a42 155 (a42 15)) 156 (.bool (notB b62))) 157 (.bool (notB b62))) 157 (.bool true)) 158 (.tuple ⟨[]⟩)) 157 (.bool true)) 159 (.tuple ⟨[]⟩)) 160 (.bool true)) 161 (.bool true)) 161 (.bool true)) 162 (.tuple ⟨[]⟩)) 161 (.bool true)) 163 (.tuple ⟨[]⟩)) 161 (.bool true)) 164 (.tuple ⟨[]⟩)) 161 (.bool true)) 165 (.tuple ⟨[]⟩)) 161 (.bool true)) 166 (.tuple ⟨[]⟩)) 161 (.bool true)) 167 (.tuple ⟨[]⟩)) 161 (.bool true)) 168 (.tuple ⟨[]⟩)) 161 (.bool true)) 169 (.tuple ⟨[]⟩)) 161 (.bool true)) 170 (.tuple ⟨[]⟩)) 161 (.bool true)) 171 (.tuple ⟨[]⟩)) 161 (.bool true)) 172 (.tuple ⟨[]⟩)) 173 (.bool true)) 4 (.bool false)) H43) (
                AsBool (a42 16) fun b63 =>
                Cd (notB b63) (
                  K .ret (upd (upd (upd (upd (upd (upd (upd (upd (upd (upd (upd (upd (upd (upd (upd (upd (upd (upd (upd (upd (upd (upd (upd (upd (upd (upd (upd (upd (upd (upd (upd (upd (upd a42 155 (a42 15)) 156 (.bool (notB b62))) 157 (.bool (notB b62))) 157 (.bool false)) 158 (a42 16)) 157 (.bool false)) 159 (.bool (notB b63))) 160 (.bool (notB b63))) 161 (.bool (notB b63))) 161 (.bool true)) 162 (.tuple ⟨[]⟩)) 161 (.bool true)) 163 (.tuple ⟨[]⟩)) 161 (.bool true)) 164 (.tuple ⟨[]⟩)) 161 (.bool true)) 165 (.tuple ⟨[]⟩)) 161 (.bool true)) 166 (.tuple ⟨[]⟩)) 161 (.bool true)) 167 (.tuple ⟨[]⟩)) 161 (.bool true)) 168 (.tuple ⟨[]⟩)) 161 (.bool true)) 169 (.tuple ⟨[]⟩)) 161 (.bool true)) 170 (.tuple ⟨[]⟩)) 161 (.bool true)) 171 (.tuple ⟨[]⟩)) 161 (.bool true)) 172 (.tuple ⟨[]⟩)) 173 (.bool true)) 4 (.bool false)) H43) (
                  AsSlc (a42 12) fun p64 o65 l66 c67 =>
                  AsCnt (a42 14) fun n68 =>
                  Must (ltN n68 l66) (
                  Ld H43 p64 (Nat.add (Nat.add o65 (Nat.mul n68 8)) 3) fun v69 =>
                  AsSlc (a42 12) fun p70 o71 l72 c73 =>
                  AsCnt (a42 14) fun n74 =>
                  Must (ltN n74 l72) (
                  Ld H43 p70 (Nat.add (Nat.add o71 (Nat.mul n74 8)) 2) fun v75 =>
                  AsNat .u64 v69 fun n76 =>
                  AsNat .u64 v75 fun n77 =>
                  Cd (leN n77 n76) (
                    K .ret (upd (upd (upd (upd (upd (upd (upd (upd (upd (upd (upd (upd (upd (upd (upd (upd (upd (upd (upd (upd (upd (upd (upd (upd (upd (upd (upd (upd (upd (upd (upd (upd (upd a42 155 (a42 15)) 156 (.bool (notB b62))) 157 (.bool (notB b62))) 157 (.bool false)) 158 (a42 16)) 157 (.bool false)) 159 (.bool (notB b63))) 160 (.bool (notB b63))) 161 (.bool (notB b63))) 161 (.bool false)) 162 (a42 12)) 161 (.bool false)) 163 (a42 14)) 161 (.bool false)) 164 (ptr p64 (Nat.add o65 (Nat.mul n68 8)))) 161 (.bool false)) 165 (ptr p64 (Nat.add (Nat.add o65 (Nat.mul n68 8)) 3))) 161 (.bool false)) 166 v69) 161 (.bool false)) 167 (a42 12)) 161 (.bool false)) 168 (a42 14)) 161 (.bool false)) 169 (ptr p70 (Nat.add o71 (Nat.mul n74 8)))) 161 (.bool false)) 170 (ptr p70 (Nat.add (Nat.add o71 (Nat.mul n74 8)) 2))) 161 (.bool false)) 171 v75) 161 (.bool false)) 172 (.bool (leN n77 n76))) 173 (.bool (leN n77 n76))) 4 (.bool false)) H43) (
                    AsInt .i64 (a42 14) fun z78 =>
                    InR (Int.add z78 (Int.ofNat 1)) (
                    K .normal (upd (upd (upd (upd (upd (upd (upd (upd (upd (upd (upd (upd (upd (upd (upd (upd (upd (upd (upd (upd (upd (upd (upd (upd (upd (upd (upd (upd (upd (upd (upd (upd (upd (upd (upd a42 155 (a42 15)) 156 (.bool (notB b62))) 157 (.bool (notB b62))) 157 (.bool false)) 158 (a42 16)) 157 (.bool false)) 159 (.bool (notB b63))) 160 (.bool (notB b63))) 161 (.bool (notB b63))) 161 (.bool false)) 162 (a42 12)) 161 (.bool false)) 163 (a42 14)) 161 (.bool false)) 164 (ptr p64 (Nat.add o65 (Nat.mul n68 8)))) 161 (.bool false)) 165 (ptr p64 (Nat.add (Nat.add o65 (Nat.mul n68 8)) 3))) 161 (.bool false)) 166 v69) 161 (.bool false)) 167 (a42 12)) 161 (.bool false)) 168 (a42 14)) 161 (.bool false)) 169 (ptr p70 (Nat.add o71 (Nat.mul n74 8)))) 161 (.bool false)) 170 (ptr p70 (Nat.add (Nat.add o71 (Nat.mul n74 8)) 2))) 161 (.bool false)) 171 v75) 161 (.bool false)) 172 (.bool (leN n77 n76))) 173 (.bool (leN n77 n76))) 86 (a42 14)) 87 (.int .i64 (Int.add z78 (Int.ofNat 1)))) 14 (.int .i64 (Int.add z78 (Int.ofNat 1)))) H43))))))) (
              Cd (eqN i44 5) (
                AsInt .i64 (a42 14) fun z79 =>
                InR (Int.add z79 (Int.ofNat 1)) (
                K .normal (upd (upd (upd a42 86 (a42 14)) 87 (.int .i64 (Int.add z79 (Int.ofNat 1)))) 14 (.int .i64 (Int.add z79 (Int.ofNat 1)))) H43)) (
                K (.exit i44) a42 H43)))
          (fun a42 H43 =>
            K .ret a42 H43)))))))) (
        AsSlc (a 12) fun p80 o81 l82 c83 =>
        AsCnt (a 14) fun n84 =>
        Must (ltN n84 l82) (
        Ld H p80 (Nat.add (Nat.add o81 (Nat.mul n84 8)) 1) fun v85 =>
        AsNat .u8 v85 fun n86 =>
        Cd (notB (eqN n86 2)) (
          AsInt .i64 (a 14) fun z87 =>
          InR (Int.add z87 (Int.ofNat 1)) (
          K .normal (upd (upd (upd (upd (upd (upd (upd (upd (upd (upd (upd (upd (upd (upd (upd (upd (upd (upd (upd (upd (upd (upd (upd (upd (upd (upd (upd (upd (upd (upd (upd (upd (upd a 82 (a 14)) 83 (a 12)) 84 (.int .i64 (Int.ofNat l1))) 85 (.bool (ltZ z2 (Int.ofNat l1)))) 88 (a 12)) 89 (a 14)) 90 (ptr p3 (Nat.add o4 (Nat.mul n7 8)))) 91 (ptr p3 (Nat.add (Nat.add o4 (Nat.mul n7 8)) 1))) 92 v8) 93 (.bool (eqN n9 5))) 94 (.bool (eqN n9 5))) 94 (.bool true)) 95 (a 12)) 94 (.bool true)) 96 (a 14)) 94 (.bool true)) 97 (ptr p10 (Nat.add o11 (Nat.mul n14 8)))) 94 (.bool true)) 98 (ptr p10 (Nat.add (Nat.add o11 (Nat.mul n14 8)) 2))) 94 (.bool true)) 99 v15) 94 (.bool true)) 100 (.bool (notB (eqN n16 0)))) 101 (.bool (notB (eqN n16 0)))) 110 (a 12)) 111 (a 14)) 112 (ptr p80 (Nat.add o81 (Nat.mul n84 8)))) 113 (ptr p80 (Nat.add (Nat.add o81 (Nat.mul n84 8)) 1))) 114 v85) 115 (.bool (notB (eqN n86 2)))) 86 (a 14)) 87 (.int .i64 (Int.add z87 (Int.ofNat 1)))) 14 (.int .i64 (Int.add z87 (Int.ofNat 1)))) H)) (
          AsSlc (a 12) fun p88 o89 l90 c91 =>
          AsCnt (a 14) fun n92 =>
          Must (ltN n92 l90) (
          Ld H p88 (Nat.add (Nat.add o89 (Nat.mul n92 8)) 3) fun v93 =>
          AsNat .u64 v93 fun n94 =>
          LoopC Try.prog con (lpAt Try.prog 7 3) (upd (upd (upd (upd (upd (upd (upd (upd (upd (upd (upd (upd (upd (upd (upd (upd (upd (upd (upd (upd (upd (upd (upd (upd (upd (upd (upd (upd (upd (upd (upd (upd (upd (upd (upd (upd (upd (upd (upd a 82 (a 14)) 83 (a 12)) 84 (.int .i64 (Int.ofNat l1))) 85 (.bool (ltZ z2 (Int.ofNat l1)))) 88 (a 12)) 89 (a 14)) 90 (ptr p3 (Nat.add o4 (Nat.mul n7 8)))) 91 (ptr p3 (Nat.add (Nat.add o4 (Nat.mul n7 8)) 1))) 92 v8) 93 (.bool (eqN n9 5))) 94 (.bool (eqN n9 5))) 94 (.bool true)) 95 (a 12)) 94 (.bool true)) 96 (a 14)) 94 (.bool true)) 97 (ptr p10 (Nat.add o11 (Nat.mul n14 8)))) 94 (.bool true)) 98 (ptr p10 (Nat.add (Nat.add o11 (Nat.mul n14 8)) 2))) 94 (.bool true)) 99 v15) 94 (.bool true)) 100 (.bool (notB (eqN n16 0)))) 101 (.bool (notB (eqN n16 0)))) 110 (a 12)) 111 (a 14)) 112 (ptr p80 (Nat.add o81 (Nat.mul n84 8)))) 113 (ptr p80 (Nat.add (Nat.add o81 (Nat.mul n84 8)) 1))) 114 v85) 115 (.bool (notB (eqN n86 2)))) 116 (a 12)) 117 (a 14)) 118 (ptr p88 (Nat.add o89 (Nat.mul n92 8)))) 119 (ptr p88 (Nat.add (Nat.add o89 (Nat.mul n92 8)) 3))) 120 v93) 121 (.bool (eqN n94 0))) 15 (.bool (eqN n94 0))) 16 (.bool false)) 17 (.int .i64 (Int.ofNat 0))) H (fun e => ceP e
          (fun a95 H96 =>
            AsBool (a95 15) fun b98 =>
            Cd (notB b98) (
              K .ret (upd (upd (upd (upd (upd (upd (upd (upd (upd (upd (upd (upd (upd (upd (upd (upd (upd (upd (upd (upd (upd (upd (upd (upd (upd (upd (upd (upd (upd (upd (upd (upd (upd a95 155 (a95 15)) 156 (.bool (notB b98))) 157 (.bool (notB b98))) 157 (.bool true)) 158 (.tuple ⟨[]⟩)) 157 (.bool true)) 159 (.tuple ⟨[]⟩)) 160 (.bool true)) 161 (.bool true)) 161 (.bool true)) 162 (.tuple ⟨[]⟩)) 161 (.bool true)) 163 (.tuple ⟨[]⟩)) 161 (.bool true)) 164 (.tuple ⟨[]⟩)) 161 (.bool true)) 165 (.tuple ⟨[]⟩)) 161 (.bool true)) 166 (.tuple ⟨[]⟩)) 161 (.bool true)) 167 (.tuple ⟨[]⟩)) 161 (.bool true)) 168 (.tuple ⟨[]⟩)) 161 (.bool true)) 169 (.tuple ⟨[]⟩)) 161 (.bool true)) 170 (.tuple ⟨[]⟩)) 161 (.bool true)) 171 (.tuple ⟨[]⟩)) 161 (.bool true)) 172 (.tuple ⟨[]⟩)) 173 (.bool true)) 4 (.bool false)) H96) (
              AsBool (a95 16) fun b99 =>
              Cd (notB b99) (
                K .ret (upd (upd (upd (upd (upd (upd (upd (upd (upd (upd (upd (upd (upd (upd (upd (upd (upd (upd (upd (upd (upd (upd (upd (upd (upd (upd (upd (upd (upd (upd (upd (upd (upd a95 155 (a95 15)) 156 (.bool (notB b98))) 157 (.bool (notB b98))) 157 (.bool false)) 158 (a95 16)) 157 (.bool false)) 159 (.bool (notB b99))) 160 (.bool (notB b99))) 161 (.bool (notB b99))) 161 (.bool true)) 162 (.tuple ⟨[]⟩)) 161 (.bool true)) 163 (.tuple ⟨[]⟩)) 161 (.bool true)) 164 (.tuple ⟨[]⟩)) 161 (.bool true)) 165 (.tuple ⟨[]⟩)) 161 (.bool true)) 166 (.tuple ⟨[]⟩)) 161 (.bool true)) 167 (.tuple ⟨[]⟩)) 161 (.bool true)) 168 (.tuple ⟨[]⟩)) 161 (.bool true)) 169 (.tuple ⟨[]⟩)) 161 (.bool true)) 170 (.tuple ⟨[]⟩)) 161 (.bool true)) 171 (.tuple ⟨[]⟩)) 161 (.bool true)) 172 (.tuple ⟨[]⟩)) 173 (.bool true)) 4 (.bool false)) H96) (
                AsSlc (a95 12) fun p100 o101 l102 c103 =>
                AsCnt (a95 14) fun n104 =>
                Must (ltN n104 l102) (
                Ld H96 p100 (Nat.add (Nat.add o101 (Nat.mul n104 8)) 3) fun v105 =>
                AsSlc (a95 12) fun p106 o107 l108 c109 =>
                AsCnt (a95 14) fun n110 =>
                Must (ltN n110 l108) (
                Ld H96 p106 (Nat.add (Nat.add o107 (Nat.mul n110 8)) 2) fun v111 =>
                AsNat .u64 v105 fun n112 =>
                AsNat .u64 v111 fun n113 =>
                Cd (leN n113 n112) (
                  K .ret (upd (upd (upd (upd (upd (upd (upd (upd (upd (upd (upd (upd (upd (upd (upd (upd (upd (upd (upd (upd (upd (upd (upd (upd (upd (upd (upd (upd (upd (upd (upd (upd (upd a95 155 (a95 15)) 156 (.bool (notB b98))) 157 (.bool (notB b98))) 157 (.bool false)) 158 (a95 16)) 157 (.bool false)) 159 (.bool (notB b99))) 160 (.bool (notB b99))) 161 (.bool (notB b99))) 161 (.bool false)) 162 (a95 12)) 161 (.bool false)) 163 (a95 14)) 161 (.bool false)) 164 (ptr p100 (Nat.add o101 (Nat.mul n104 8)))) 161 (.bool false)) 165 (ptr p100 (Nat.add (Nat.add o101 (Nat.mul n104 8)) 3))) 161 (.bool false)) 166 v105) 161 (.bool false)) 167 (a95 12)) 161 (.bool false)) 168 (a95 14)) 161 (.bool false)) 169 (ptr p106 (Nat.add o107 (Nat.mul n110 8)))) 161 (.bool false)) 170 (ptr p106 (Nat.add (Nat.add o107 (Nat.mul n110 8)) 2))) 161 (.bool false)) 171 v111) 161 (.bool false)) 172 (.bool (leN n113 n112))) 173 (.bool (leN n113 n112))) 4 (.bool false)) H96) (
                  AsInt .i64 (a95 14) fun z114 =>
                  InR (Int.add z114 (Int.ofNat 1)) (
                  K .normal (upd (upd (upd (upd (upd (upd (upd (upd (upd (upd (upd (upd (upd (upd (upd (upd (upd (upd (upd (upd (upd (upd (upd (upd (upd (upd (upd (upd (upd (upd (upd (upd (upd (upd (upd a95 155 (a95 15)) 156 (.bool (notB b98))) 157 (.bool (notB b98))) 157 (.bool false)) 158 (a95 16)) 157 (.bool false)) 159 (.bool (notB b99))) 160 (.bool (notB b99))) 161 (.bool (notB b99))) 161 (.bool false)) 162 (a95 12)) 161 (.bool false)) 163 (a95 14)) 161 (.bool false)) 164 (ptr p100 (Nat.add o101 (Nat.mul n104 8)))) 161 (.bool false)) 165 (ptr p100 (Nat.add (Nat.add o101 (Nat.mul n104 8)) 3))) 161 (.bool false)) 166 v105) 161 (.bool false)) 167 (a95 12)) 161 (.bool false)) 168 (a95 14)) 161 (.bool false)) 169 (ptr p106 (Nat.add o107 (Nat.mul n110 8)))) 161 (.bool false)) 170 (ptr p106 (Nat.add (Nat.add o107 (Nat.mul n110 8)) 2))) 161 (.bool false)) 171 v111) 161 (.bool false)) 172 (.bool (leN n113 n112))) 173 (.bool (leN n113 n112))) 86 (a95 14)) 87 (.int .i64 (Int.add z114 (Int.ofNat 1)))) 14 (.int .i64 (Int.add z114 (Int.ofNat 1)))) H96)))))))
          (fun i97 => fun a95 H96 =>
            Cd (eqN i97 6) (
              AsBool (a95 15) fun b115 =>
              Cd (notB b115) (
                K .ret (upd (upd (upd (upd (upd (upd (upd (upd (upd (upd (upd (upd (upd (upd (upd (upd (upd (upd (upd (upd (upd (upd (upd (upd (upd (upd (upd (upd (upd (upd (upd (upd (upd a95 155 (a95 15)) 156 (.bool (notB b115))) 157 (.bool (notB b115))) 157 (.bool true)) 158 (.tuple ⟨[]⟩)) 157 (.bool true)) 159 (.tuple ⟨[]⟩)) 160 (.bool true)) 161 (.bool true)) 161 (.bool true)) 162 (.tuple ⟨[]⟩)) 161 (.bool true)) 163 (.tuple ⟨[]⟩)) 161 (.bool true)) 164 (.tuple ⟨[]⟩)) 161 (.bool true)) 165 (.tuple ⟨[]⟩)) 161 (.bool true)) 166 (.tuple ⟨[]⟩)) 161 (.bool true)) 167 (.tuple ⟨[]⟩)) 161 (.bool true)) 168 (.tuple ⟨[]⟩)) 161 (.bool true)) 169 (.tuple ⟨[]⟩)) 161 (.bool true)) 170 (.tuple ⟨[]⟩)) 161 (.bool true)) 171 (.tuple ⟨[]⟩)) 161 (.bool true)) 172 (.tuple ⟨[]⟩)) 173 (.bool true)) 4 (.bool false)) H96) (
                AsBool (a95 16) fun b116 =>
                Cd (notB b116) (
                  K .ret (upd (upd (upd (upd (upd (upd (upd (upd (upd (upd (upd (upd (upd (upd (upd (upd (upd (upd (upd (upd (upd (upd (upd (upd (upd (upd (upd (upd (upd (upd (upd (upd (upd a95 155 (a95 15)) 156 (.bool (notB b115))) 157 (.bool (notB b115))) 157 (.bool false)) 158 (a95 16)) 157 (.bool false)) 159 (.bool (notB b116))) 160 (.bool (notB b116))) 161 (.bool (notB b116))) 161 (.bool true)) 162 (.tuple ⟨[]⟩)) 161 (.bool true)) 163 (.tuple ⟨[]⟩)) 161 (.bool true)) 164 (.tuple ⟨[]⟩)) 161 (.bool true)) 165 (.tuple ⟨[]⟩)) 161 (.bool true)) 166 (.tuple ⟨[]⟩)) 161 (.bool true)) 167 (.tuple ⟨[]⟩)) 161 (.bool true)) 168 (.tuple ⟨[]⟩)) 161 (.bool true)) 169 (.tuple ⟨[]⟩)) 161 (.bool true)) 170 (.tuple ⟨[]⟩)) 161 (.bool true)) 171 (.tuple ⟨[]⟩)) 161 (.bool true)) 172 (.tuple ⟨[]⟩)) 173 (.bool true)) 4 (.bool false)) H96) (
                  AsSlc (a95 12) fun p117 o118 l119 c120 =>
                  AsCnt (a95 14) fun n121 =>
                  Must (ltN n121 l119) (
                  Ld H96 p117 (Nat.add (Nat.add o118 (Nat.mul n121 8)) 3) fun v122 =>
                  AsSlc (a95 12) fun p123 o124 l125 c126 =>
                  AsCnt (a95 14) fun n127 =>
                  Must (ltN n127 l125) (
                  Ld H96 p123 (Nat.add (Nat.add o124 (Nat.mul n127 8)) 2) fun v128 =>
                  AsNat .u64 v122 fun n129 =>
                  AsNat .u64 v128 fun n130 =>
                  Cd (leN n130 n129) (
                    K .ret (upd (upd (upd (upd (upd (upd (upd (upd (upd (upd (upd (upd (upd (upd (upd (upd (upd (upd (upd (upd (upd (upd (upd (upd (upd (upd (upd (upd (upd (upd (upd (upd (upd a95 155 (a95 15)) 156 (.bool (notB b115))) 157 (.bool (notB b115))) 157 (.bool false)) 158 (a95 16)) 157 (.bool false)) 159 (.bool (notB b116))) 160 (.bool (notB b116))) 161 (.bool (notB b116))) 161 (.bool false)) 162 (a95 12)) 161 (.bool false)) 163 (a95 14)) 161 (.bool false)) 164 (ptr p117 (Nat.add o118 (Nat.mul n121 8)))) 161 (.bool false)) 165 (ptr p117 (Nat.add (Nat.add o118 (Nat.mul n121 8)) 3))) 161 (.bool false)) 166 v122) 161 (.bool false)) 167 (a95 12)) 161 (.bool false)) 168 (a95 14)) 161 (.bool false)) 169 (ptr p123 (Nat.add o124 (Nat.mul n127 8)))) 161 (.bool false)) 170 (ptr p123 (Nat.add (Nat.add o124 (Nat.mul n127 8)) 2))) 161 (.bool false)) 171 v128) 161 (.bool false)) 172 (.bool (leN n130 n129))) 173 (.bool (leN n130 n129))) 4 (.bool false)) H96) (
                    AsInt .i64 (a95 14) fun z131 =>
                    InR (Int.add z131 (Int.ofNat 1)) (
                    K .normal (upd (upd (upd (upd (upd (upd (upd (upd (upd (upd (upd (upd (upd (upd (upd (upd (upd (upd (upd (upd (upd (upd (upd (upd (upd (upd (upd (upd (upd (upd (upd (upd (upd (upd (upd a95 155 (a95 15)) 156 (.bool (notB b115))) 157 (.bool (notB b115))) 157 (.bool false)) 158 (a95 16)) 157 (.bool false)) 159 (.bool (notB b116))) 160 (.bool (notB b116))) 161 (.bool (notB b116))) 161 (.bool false)) 162 (a95 12)) 161 (.bool false)) 163 (a95 14)) 161 (.bool false)) 164 (ptr p117 (Nat.add o118 (Nat.mul n121 8)))) 161 (.bool false)) 165 (ptr p117 (Nat.add (Nat.add o118 (Nat.mul n121 8)) 3))) 161 (.bool false)) 166 v122) 161 (.bool false)) 167 (a95 12)) 161 (.bool false)) 168 (a95 14)) 161 (.bool false)) 169 (ptr p123 (Nat.add o124 (Nat.mul n127 8)))) 161 (.bool false)) 170 (ptr p123 (Nat.add (Nat.add o124 (Nat.mul n127 8)) 2))) 161 (.bool false)) 171 v128) 161 (.bool false)) 172 (.bool (leN n130 n129))) 173 (.bool (leN n130 n129))) 86 (a95 14)) 87 (.int .i64 (Int.add z131 (Int.ofNat 1)))) 14 (.int .i64 (Int.add z131 (Int.ofNat 1)))) H96))))))) (
              Cd (eqN i97 5) (
                AsInt .i64 (a95 14) fun z132 =>
                InR (Int.add z132 (Int.ofNat 1)) (
                K .normal (upd (upd (upd a95 86 (a95 14)) 87 (.int .i64 (Int.add z132 (Int.ofNat 1)))) 14 (.int .i64 (Int.add z132 (Int.ofNat 1)))) H96)) (
                K (.exit i97) a95 H96)))
          (fun a95 H96 =>
            K .ret a95 H96)))))))) (
      AsSlc (a 12) fun p133 o134 l135 c136 =>
      AsCnt (a 14) fun n137 =>
      Must (ltN n137 l135) (
      Ld H p133 (Nat.add (Nat.add o134 (Nat.mul n137 8)) 1) fun v138 =>
      AsNat .u8 v138 fun n139 =>
      Cd (notB (eqN n139 2)) (
        AsInt .i64 (a 14) fun z140 =>
        InR (Int.add z140 (Int.ofNat 1)) (
        K .normal (upd (upd (upd (upd (upd (upd (upd (upd (upd (upd (upd (upd (upd (upd (upd (upd (upd (upd (upd (upd (upd (upd (upd (upd (upd (upd (upd (upd (upd (upd (upd (upd (upd a 82 (a 14)) 83 (a 12)) 84 (.int .i64 (Int.ofNat l1))) 85 (.bool (ltZ z2 (Int.ofNat l1)))) 88 (a 12)) 89 (a 14)) 90 (ptr p3 (Nat.add o4 (Nat.mul n7 8)))) 91 (ptr p3 (Nat.add (Nat.add o4 (Nat.mul n7 8)) 1))) 92 v8) 93 (.bool (eqN n9 5))) 94 (.bool (eqN n9 5))) 94 (.bool false)) 95 (.tuple ⟨[]⟩)) 94 (.bool false)) 96 (.tuple ⟨[]⟩)) 94 (.bool false)) 97 (.tuple ⟨[]⟩)) 94 (.bool false)) 98 (.tuple ⟨[]⟩)) 94 (.bool false)) 99 (.tuple ⟨[]⟩)) 94 (.bool false)) 100 (.tuple ⟨[]⟩)) 101 (.bool false)) 110 (a 12)) 111 (a 14)) 112 (ptr p133 (Nat.add o134 (Nat.mul n137 8)))) 113 (ptr p133 (Nat.add (Nat.add o134 (Nat.mul n137 8)) 1))) 114 v138) 115 (.bool (notB (eqN n139 2)))) 86 (a 14)) 87 (.int .i64 (Int.add z140 (Int.ofNat 1)))) 14 (.int .i64 (Int.add z140 (Int.ofNat 1)))) H)) (
        AsSlc (a 12) fun p141 o142 l143 c144 =>
        AsCnt (a 14) fun n145 =>
        Must (ltN n145 l143) (
        Ld H p141 (Nat.add (Nat.add o142 (Nat.mul n145 8)) 3) fun v146 =>
        AsNat .u64 v146 fun n147 =>
        LoopC Try.prog con (lpAt Try.prog 7 3) (upd (upd (upd (upd (upd (upd (upd (upd (upd (upd (upd (upd (upd (upd (upd (upd (upd (upd (upd (upd (upd (upd (upd (upd (upd (upd (upd (upd (upd (upd (upd (upd (upd (upd (upd (upd (upd (upd (upd a 82 (a 14)) 83 (a 12)) 84 (.int .i64 (Int.ofNat l1))) 85 (.bool (ltZ z2 (Int.ofNat l1)))) 88 (a 12)) 89 (a 14)) 90 (ptr p3 (Nat.add o4 (Nat.mul n7 8)))) 91 (ptr p3 (Nat.add (Nat.add o4 (Nat.mul n7 8)) 1))) 92 v8) 93 (.bool (eqN n9 5))) 94 (.bool (eqN n9 5))) 94 (.bool false)) 95 (.tuple ⟨[]⟩)) 94 (.bool false)) 96 (.tuple ⟨[]⟩)) 94 (.bool false)) 97 (.tuple ⟨[]⟩)) 94 (.bool false)) 98 (.tuple ⟨[]⟩)) 94 (.bool false)) 99 (.tuple ⟨[]⟩)) 94 (.bool false)) 100 (.tuple ⟨[]⟩)) 101 (.bool false)) 110 (a 12)) 111 (a 14)) 112 (ptr p133 (Nat.add o134 (Nat.mul n137 8)))) 113 (ptr p133 (Nat.add (Nat.add o134 (Nat.mul n137 8)) 1))) 114 v138) 115 (.bool (notB (eqN n139 2)))) 116 (a 12)) 117 (a 14)) 118 (ptr p141 (Nat.add o142 (Nat.mul n145 8)))) 119 (ptr p141 (Nat.add (Nat.add o142 (Nat.mul n145 8)) 3))) 120 v146) 121 (.bool (eqN n147 0))) 15 (.bool (eqN n147 0))) 16 (.bool false)) 17 (.int .i64 (Int.ofNat 0))) H (fun e => ceP e
        (fun a148 H149 =>
          AsBool (a148 15) fun b151 =>
          Cd (notB b151) (
            K .ret (upd (upd (upd (upd (upd (upd (upd (upd (upd (upd (upd (upd (upd (upd (upd (upd (upd (upd (upd (upd (upd (upd (upd (upd (upd (upd (upd (upd (upd (upd (upd (upd (upd a148 155 (a148 15)) 156 (.bool (notB b151))) 157 (.bool (notB b151))) 157 (.bool true)) 158 (.tuple ⟨[]⟩)) 157 (.bool true)) 159 (.tuple ⟨[]⟩)) 160 (.bool true)) 161 (.bool true)) 161 (.bool true)) 162 (.tuple ⟨[]⟩)) 161 (.bool true)) 163 (.tuple ⟨[]⟩)) 161 (.bool true)) 164 (.tuple ⟨[]⟩)) 161 (.bool true)) 165 (.tuple ⟨[]⟩)) 161 (.bool true)) 166 (.tuple ⟨[]⟩)) 161 (.bool true)) 167 (.tuple ⟨[]⟩)) 161 (.bool true)) 168 (.tuple ⟨[]⟩)) 161 (.bool true)) 169 (.tuple ⟨[]⟩)) 161 (.bool true)) 170 (.tuple ⟨[]⟩)) 161 (.bool true)) 171 (.tuple ⟨[]⟩)) 161 (.bool true)) 172 (.tuple ⟨[]⟩)) 173 (.bool true)) 4 (.bool false)) H149) (
            AsBool (a148 16) fun b152 =>
            Cd (notB b152) (
              K .ret (upd (upd (upd (upd (upd (upd (upd (upd (upd (upd (upd (upd (upd (upd (upd (upd (upd (upd (upd (upd (upd (upd (upd (upd (upd (upd (upd (upd (upd (upd (upd (upd (upd a148 155 (a148 15)) 156 (.bool (notB b151))) 157 (.bool (notB b151))) 157 (.bool false)) 158 (a148 16)) 157 (.bool false)) 159 (.bool (notB b152))) 160 (.bool (notB b152))) 161 (.bool (notB b152))) 161 (.bool true)) 162 (.tuple ⟨[]⟩)) 161 (.bool true)) 163 (.tuple ⟨[]⟩)) 161 (.bool true)) 164 (.tuple ⟨[]⟩)) 161 (.bool true)) 165 (.tuple ⟨[]⟩)) 161 (.bool true)) 166 (.tuple ⟨[]⟩)) 161 (.bool true)) 167 (.tuple ⟨[]⟩)) 161 (.bool true)) 168 (.tuple ⟨[]⟩)) 161 (.bool true)) 169 (.tuple ⟨[]⟩)) 161 (.bool true)) 170 (.tuple ⟨[]⟩)) 161 (.bool true)) 171 (.tuple ⟨[]⟩)) 161 (.bool true)) 172 (.tuple ⟨[]⟩)) 173 (.bool true)) 4 (.bool false)) H149) (
              AsSlc (a148 12) fun p153 o154 l155 c156 =>
              AsCnt (a148 14) fun n157 =>
              Must (ltN n157 l155) (
              Ld H149 p153 (Nat.add (Nat.add o154 (Nat.mul n157 8)) 3) fun v158 =>
              AsSlc (a148 12) fun p159 o160 l161 c162 =>
              AsCnt (a148 14) fun n163 =>
              Must (ltN n163 l161) (
              Ld H149 p159 (Nat.add (Nat.add o160 (Nat.mul n163 8)) 2) fun v164 =>
              AsNat .u64 v158 fun n165 =>
              AsNat .u64 v164 fun n166 =>
              Cd (leN n166 n165) (
                K .ret (upd (upd (upd (upd (upd (upd (upd (upd (upd (upd (upd (upd (upd (upd (upd (upd (upd (upd (upd (upd (upd (upd (upd (upd (upd (upd (upd (upd (upd (upd (upd (upd (upd a148 155 (a148 15)) 156 (.bool (notB b151))) 157 (.bool (notB b151))) 157 (.bool false)) 158 (a148 16)) 157 (.bool false)) 159 (.bool (notB b152))) 160 (.bool (notB b152))) 161 (.bool (notB b152))) 161 (.bool false)) 162 (a148 12)) 161 (.bool false)) 163 (a148 14)) 161 (.bool false)) 164 (ptr p153 (Nat.add o154 (Nat.mul n157 8)))) 161 (.bool false)) 165 (ptr p153 (Nat.add (Nat.add o154 (Nat.mul n157 8)) 3))) 161 (.bool false)) 166 v158) 161 (.bool false)) 167 (a148 12)) 161 (.bool false)) 168 (a148 14)) 161 (.bool false)) 169 (ptr p159 (Nat.add o160 (Nat.mul n163 8)))) 161 (.bool false)) 170 (ptr p159 (Nat.add (Nat.add o160 (Nat.mul n163 8)) 2))) 161 (.bool false)) 171 v164) 161 (.bool false)) 172 (.bool (leN n166 n165))) 173 (.bool (leN n166 n165))) 4 (.bool false)) H149) (
                AsInt .i64 (a148 14) fun z167 =>
                InR (Int.add z167 (Int.ofNat 1)) (
                K .normal (upd (upd (upd (upd (upd (upd (upd (upd (upd (upd (upd (upd (upd (upd (upd (upd (upd (upd (upd (upd (upd (upd (upd (upd (upd (upd (upd (upd (upd (upd (upd (upd (upd (upd (upd a148 155 (a148 15)) 156 (.bool (notB b151))) 157 (.bool (notB b151))) 157 (.bool false)) 158 (a148 16)) 157 (.bool false)) 159 (.bool (notB b152))) 160 (.bool (notB b152))) 161 (.bool (notB b152))) 161 (.bool false)) 162 (a148 12)) 161 (.bool false)) 163 (a148 14)) 161 (.bool false)) 164 (ptr p153 (Nat.add o154 (Nat.mul n157 8)))) 161 (.bool false)) 165 (ptr p153 (Nat.add (Nat.add o154 (Nat.mul n157 8)) 3))) 161 (.bool false)) 166 v158) 161 (.bool false)) 167 (a148 12)) 161 (.bool false)) 168 (a148 14)) 161 (.bool false)) 169 (ptr p159 (Nat.add o160 (Nat.mul n163 8)))) 161 (.bool false)) 170 (ptr p159 (Nat.add (Nat.add o160 (Nat.mul n163 8)) 2))) 161 (.bool false)) 171 v164) 161 (.bool false)) 172 (.bool (leN n166 n165))) 173 (.bool (leN n166 n165))) 86 (a148 14)) 87 (.int .i64 (Int.add z167 (Int.ofNat 1)))) 14 (.int .i64 (Int.add z167 (Int.ofNat 1)))) H149)))))))
        (fun i150 => fun a148 H149 =>
          Cd (eqN i150 6) (
            AsBool (a148 15) fun b168 =>
            Cd (notB b168) (
              K .ret (upd (upd (upd (upd (upd (upd (upd (upd (upd (upd (upd (upd (upd (upd (upd (upd (upd (upd (upd (upd (upd (upd (upd (upd (upd (upd (upd (upd (upd (upd (upd (upd (upd a148 155 (a148 15)) 156 (.bool (notB b168))) 157 (.bool (notB b168))) 157 (.bool true)) 158 (.tuple ⟨[]⟩)) 157 (.bool true)) 159 (.tuple ⟨[]⟩)) 160 (.bool true)) 161 (.bool true)) 161 (.bool true)) 162 (.tuple ⟨[]⟩)) 161 (.bool true)) 163 (.tuple ⟨[]⟩)) 161 (.bool true)) 164 (.tuple ⟨[]⟩)) 161 (.bool true)) 165 (.tuple ⟨[]⟩)) 161 (.bool true)) 166 (.tuple ⟨[]⟩)) 161 (.bool true)) 167 (.tuple ⟨[]⟩)) 161 (.bool true)) 168 (.tuple ⟨[]⟩)) 161 (.bool true)) 169 (.tuple ⟨[]⟩)) 161 (.bool true)) 170 (.tuple ⟨[]⟩)) 161 (.bool true)) 171 (.tuple ⟨[]⟩)) 161 (.bool true)) 172 (.tuple ⟨[]⟩)) 173 (.bool true)) 4 (.bool false)) H149) (
              AsBool (a148 16) fun b169 =>
              Cd (notB b169) (
                K .ret (upd (upd (upd (upd (upd (upd (upd (upd (upd (upd (upd (upd (upd (upd (upd (upd (upd (upd (upd (upd (upd (upd (upd (upd (upd (upd (upd (upd (upd (upd (upd (upd (upd a148 155 (a148 15)) 156 (.bool (notB b168))) 157 (.bool (notB b168))) 157 (.bool false)) 158 (a148 16)) 157 (.bool false)) 159 (.bool (notB b169))) 160 (.bool (notB b169))) 161 (.bool (notB b169))) 161 (.bool true)) 162 (.tuple ⟨[]⟩)) 161 (.bool true)) 163 (.tuple ⟨[]⟩)) 161 (.bool true)) 164 (.tuple ⟨[]⟩)) 161 (.bool true)) 165 (.tuple ⟨[]⟩)) 161 (.bool true)) 166 (.tuple ⟨[]⟩)) 161 (.bool true)) 167 (.tuple ⟨[]⟩)) 161 (.bool true)) 168 (.tuple ⟨[]⟩)) 161 (.bool true)) 169 (.tuple ⟨[]⟩)) 161 (.bool true)) 170 (.tuple ⟨[]⟩)) 161 (.bool true)) 171 (.tuple ⟨[]⟩)) 161 (.bool true)) 172 (.tuple ⟨[]⟩)) 173 (.bool true)) 4 (.bool false)) H149) (
                AsSlc (a148 12) fun p170 o171 l172 c173 =>
                AsCnt (a148 14) fun n174 =>
                Must (ltN n174 l172) (
                Ld H149 p170 (Nat.add (Nat.add o171 (Nat.mul n174 8)) 3) fun v175 =>
                AsSlc (a148 12) fun p176 o177 l178 c179 =>
                AsCnt (a148 14) fun n180 =>
                Must (ltN n180 l178) (
                Ld H149 p176 (Nat.add (Nat.add o177 (Nat.mul n180 8)) 2) fun v181 =>
                AsNat .u64 v175 fun n182 =>
                AsNat .u64 v181 fun n183 =>
                Cd (leN n183 n182) (
                  K .ret (upd (upd (upd (upd (upd (upd (upd (upd (upd (upd (upd (upd (upd (upd (upd (upd (upd (upd (upd (upd (upd (upd (upd (upd (upd (upd (upd (upd (upd (upd (upd (upd (upd a148 155 (a148 15)) 156 (.bool (notB b168))) 157 (.bool (notB b168))) 157 (.bool false)) 158 (a148 16)) 157 (.bool false)) 159 (.bool (notB b169))) 160 (.bool (notB b169))) 161 (.bool (notB b169))) 161 (.bool false)) 162 (a148 12)) 161 (.bool false)) 163 (a148 14)) 161 (.bool false)) 164 (ptr p170 (Nat.add o171 (Nat.mul n174 8)))) 161 (.bool false)) 165 (ptr p170 (Nat.add (Nat.add o171 (Nat.mul n174 8)) 3))) 161 (.bool false)) 166 v175) 161 (.bool false)) 167 (a148 12)) 161 (.bool false)) 168 (a148 14)) 161 (.bool false)) 169 (ptr p176 (Nat.add o177 (Nat.mul n180 8)))) 161 (.bool false)) 170 (ptr p176 (Nat.add (Nat.add o177 (Nat.mul n180 8)) 2))) 161 (.bool false)) 171 v181) 161 (.bool false)) 172 (.bool (leN n183 n182))) 173 (.bool (leN n183 n182))) 4 (.bool false)) H149) (
                  AsInt .i64 (a148 14) fun z184 =>
                  InR (Int.add z184 (Int.ofNat 1)) (
                  K .normal (upd (upd (upd (upd (upd (upd (upd (upd (upd (upd (upd (upd (upd (upd (upd (upd (upd (upd (upd (upd (upd (upd (upd (upd (upd (upd (upd (upd (upd (upd (upd (upd (upd (upd (upd a148 155 (a148 15)) 156 (.bool (notB b168))) 157 (.bool (notB b168))) 157 (.bool false)) 158 (a148 16)) 157 (.bool false)) 159 (.bool (notB b169))) 160 (.bool (notB b169))) 161 (.bool (notB b169))) 161 (.bool false)) 162 (a148 12)) 161 (.bool false)) 163 (a148 14)) 161 (.bool false)) 164 (ptr p170 (Nat.add o171 (Nat.mul n174 8)))) 161 (.bool false)) 165 (ptr p170 (Nat.add (Nat.add o171 (Nat.mul n174 8)) 3))) 161 (.bool false)) 166 v175) 161 (.bool false)) 167 (a148 12)) 161 (.bool false)) 168 (a148 14)) 161 (.bool false)) 169 (ptr p176 (Nat.add o177 (Nat.mul n180 8)))) 161 (.bool false)) 170 (ptr p176 (Nat.add (Nat.add o177 (Nat.mul n180 8)) 2))) 161 (.bool false)) 171 v181) 161 (.bool false)) 172 (.bool (leN n183 n182))) 173 (.bool (leN n183 n182))) 86 (a148 14)) 87 (.int .i64 (Int.add z184 (Int.ofNat 1)))) 14 (.int .i64 (Int.add z184 (Int.ofNat 1)))) H149))))))) (
            Cd (eqN i150 5) (
              AsInt .i64 (a148 14) fun z185 =>
              InR (Int.add z185 (Int.ofNat 1)) (
              K .normal (upd (upd (upd a148 86 (a148 14)) 87 (.int .i64 (Int.add z185 (Int.ofNat 1)))) 14 (.int .i64 (Int.add z185 (Int.ofNat 1)))) H149)) (
              K (.exit i150) a148 H149)))
        (fun a148 H149 =>
          K .ret a148 H149)))))))) (
    K (.exit 4) (upd (upd (upd (upd a 82 (a 14)) 83 (a 12)) 84 (.int .i64 (Int.ofNat l1))) 85 (.bool (ltZ z2 (Int.ofNat l1)))) H)) := by kernel_rfl

theorem cutLeavesD_W (con : CallT) (a : TF) (H : CH) (K : KX) : codeW (lpAt Try.prog 7 3) Try.prog con a H K =
  (AsLen (a 13) fun l1 =>
  AsInt .i64 (a 17) fun z2 =>
  Cd (ltZ z2 (Int.ofNat l1)) (
    AsWant (a 15) (False) fun b3 =>
    Cd b3 (
      AsWant (a 16) (False) fun b4 =>
      Cd b4 (
        AsInt .i64 (a 17) fun z5 =>
        InR (Int.add z5 (Int.ofNat 1)) (
        K .normal (upd (upd (upd (upd (upd (upd (upd (upd (upd (upd (upd (upd (upd (upd (upd (upd (upd (upd (upd (upd (upd (upd (upd (upd (upd (upd (upd (upd (upd (upd (upd (upd (upd (upd (upd (upd (upd (upd (upd (upd (upd (upd (upd (upd (upd (upd (upd (upd (upd (upd (upd (upd (upd (upd (upd (upd (upd a 122 (a 17)) 123 (a 13)) 124 (.int .i64 (Int.ofNat l1))) 125 (.bool (ltZ z2 (Int.ofNat l1)))) 128 (a 15)) 129 (a 15)) 129 (.bool true)) 130 (.tuple ⟨[]⟩)) 129 (.bool true)) 131 (.tuple ⟨[]⟩)) 129 (.bool true)) 132 (.tuple ⟨[]⟩)) 129 (.bool true)) 133 (.tuple ⟨[]⟩)) 129 (.bool true)) 134 (.tuple ⟨[]⟩)) 129 (.bool true)) 135 (.tuple ⟨[]⟩)) 129 (.bool true)) 136 (.tuple ⟨[]⟩)) 129 (.bool true)) 137 (.tuple ⟨[]⟩)) 129 (.bool true)) 138 (.tuple ⟨[]⟩)) 129 (.bool true)) 139 (.tuple ⟨[]⟩)) 140 (.bool true)) 15 (.bool true)) 141 (a 16)) 142 (a 16)) 142 (.bool true)) 143 (.tuple ⟨[]⟩)) 142 (.bool true)) 144 (.tuple ⟨[]⟩)) 142 (.bool true)) 145 (.tuple ⟨[]⟩)) 142 (.bool true)) 146 (.tuple ⟨[]⟩)) 142 (.bool true)) 147 (.tuple ⟨[]⟩)) 142 (.bool true)) 148 (.tuple ⟨[]⟩)) 142 (.bool true)) 149 (.tuple ⟨[]⟩)) 142 (.bool true)) 150 (.tuple ⟨[]⟩)) 142 (.bool true)) 151 (.tuple ⟨[]⟩)) 142 (.bool true)) 152 (.tuple ⟨[]⟩)) 142 (.bool true)) 153 (.tuple ⟨[]⟩)) 154 (.bool true)) 16 (.bool true)) 126 (a 17)) 127 (.int .i64 (Int.add z5 (Int.ofNat 1)))) 17 (.int .i64 (Int.add z5 (Int.ofNat 1)))) H)) (
        AsSlc (a 13) fun p6 o7 l8 c9 =>
        AsCnt (a 17) fun n10 =>
        Must (ltN n10 l8) (
        Ld H p6 (Nat.add o7 (Nat.mul n10 1)) fun v11 =>
        AsNat .u64 v11 fun n12 =>
        AsSlc (a 12) fun p13 o14 l15 c16 =>
        AsCnt (a 14) fun n17 =>
        Must (ltN n17 l15) (
        Ld H p13 (Nat.add (Nat.add o14 (Nat.mul n17 8)) 2) fun v18 =>
        AsNat .u64 v18 fun n19 =>
        AsInt .i64 (a 17) fun z20 =>
        InR (Int.add z20 (Int.ofNat 1)) (
        K .normal (upd (upd (upd (upd (upd (upd (upd (upd (upd (upd (upd (upd (upd (upd (upd (upd (upd (upd (upd (upd (upd (upd (upd (upd (upd (upd (upd (upd (upd (upd (upd (upd (upd (upd (upd (upd (upd (upd (upd (upd (upd (upd (upd (upd (upd (upd (upd (upd (upd (upd (upd (upd (upd (upd (upd (upd (upd a 122 (a 17)) 123 (a 13)) 124 (.int .i64 (Int.ofNat l1))) 125 (.bool (ltZ z2 (Int.ofNat l1)))) 128 (a 15)) 129 (a 15)) 129 (.bool true)) 130 (.tuple ⟨[]⟩)) 129 (.bool true)) 131 (.tuple ⟨[]⟩)) 129 (.bool true)) 132 (.tuple ⟨[]⟩)) 129 (.bool true)) 133 (.tuple ⟨[]⟩)) 129 (.bool true)) 134 (.tuple ⟨[]⟩)) 129 (.bool true)) 135 (.tuple ⟨[]⟩)) 129 (.bool true)) 136 (.tuple ⟨[]⟩)) 129 (.bool true)) 137 (.tuple ⟨[]⟩)) 129 (.bool true)) 138 (.tuple ⟨[]⟩)) 129 (.bool true)) 139 (.tuple ⟨[]⟩)) 140 (.bool true)) 15 (.bool true)) 141 (a 16)) 142 (a 16)) 142 (.bool false)) 143 (a 13)) 142 (.bool false)) 144 (a 17)) 142 (.bool false)) 145 (ptr p6 (Nat.add o7 (Nat.mul n10 1)))) 142 (.bool false)) 146 v11) 142 (.bool false)) 147 (.int .u64 (Int.ofNat (Nat.mod (Nat.add n12 2) 18446744073709551616)))) 142 (.bool false)) 148 (a 12)) 142 (.bool false)) 149 (a 14)) 142 (.bool false)) 150 (ptr p13 (Nat.add o14 (Nat.mul n17 8)))) 142 (.bool false)) 151 (ptr p13 (Nat.add (Nat.add o14 (Nat.mul n17 8)) 2))) 142 (.bool false)) 152 v18) 142 (.bool false)) 153 (.bool (eqN (Nat.mod (Nat.add n12 2) 18446744073709551616) n19))) 154 (.bool (eqN (Nat.mod (Nat.add n12 2) 18446744073709551616) n19))) 16 (.bool (eqN (Nat.mod (Nat.add n12 2) 18446744073709551616) n19))) 126 (a 17)) 127 (.int .i64 (Int.add z20 (Int.ofNat 1)))) 17 (.int .i64 (Int.add z20 (Int.ofNat 1)))) H))))) (
      AsSlc (a 13) fun p21 o22 l23 c24 =>
      AsCnt (a 17) fun n25 =>
      Must (ltN n25 l23) (
      Ld H p21 (Nat.add o22 (Nat.mul n25 1)) fun v26 =>
      AsSlc (a 12) fun p27 o28 l29 c30 =>
      AsCnt (a 14) fun n31 =>
      Must (ltN n31 l29) (
      Ld H p27 (Nat.add (Nat.add o28 (Nat.mul n31 8)) 3) fun v32 =>
      AsNat .u64 v26 fun n33 =>
      AsNat .u64 v32 fun n34 =>
      AsWant (a 16) (False) fun b35 =>
      Cd b35 (
        AsInt .i64 (a 17) fun z36 =>
        InR (Int.add z36 (Int.ofNat 1)) (
        K .normal (upd (upd (upd (upd (upd (upd (upd (upd (upd (upd (upd (upd (upd (upd (upd (upd (upd (upd (upd (upd (upd (upd (upd (upd (upd (upd (upd (upd (upd (upd (upd (upd (upd (upd (upd (upd (upd (upd (upd (upd (upd (upd (upd (upd (upd (upd (upd (upd (upd (upd (upd (upd (upd (upd (upd (upd (upd a 122 (a 17)) 123 (a 13)) 124 (.int .i64 (Int.ofNat l1))) 125 (.bool (ltZ z2 (Int.ofNat l1)))) 128 (a 15)) 129 (a 15)) 129 (.bool false)) 130 (a 13)) 129 (.bool false)) 131 (a 17)) 129 (.bool false)) 132 (ptr p21 (Nat.add o22 (Nat.mul n25 1)))) 129 (.bool false)) 133 v26) 129 (.bool false)) 134 (a 12)) 129 (.bool false)) 135 (a 14)) 129 (.bool false)) 136 (ptr p27 (Nat.add o28 (Nat.mul n31 8)))) 129 (.bool false)) 137 (ptr p27 (Nat.add (Nat.add o28 (Nat.mul n31 8)) 3))) 129 (.bool false)) 138 v32) 129 (.bool false)) 139 (.bool (eqN n33 n34))) 140 (.bool (eqN n33 n34))) 15 (.bool (eqN n33 n34))) 141 (a 16)) 142 (a 16)) 142 (.bool true)) 143 (.tuple ⟨[]⟩)) 142 (.bool true)) 144 (.tuple ⟨[]⟩)) 142 (.bool true)) 145 (.tuple ⟨[]⟩)) 142 (.bool true)) 146 (.tuple ⟨[]⟩)) 142 (.bool true)) 147 (.tuple ⟨[]⟩)) 142 (.bool true)) 148 (.tuple ⟨[]⟩)) 142 (.bool true)) 149 (.tuple ⟨[]⟩)) 142 (.bool true)) 150 (.tuple ⟨[]⟩)) 142 (.bool true)) 151 (.tuple ⟨[]⟩)) 142 (.bool true)) 152 (.tuple ⟨[]⟩)) 142 (.bool true)) 153 (.tuple ⟨[]⟩)) 154 (.bool true)) 16 (.bool true)) 126 (a 17)) 127 (.int .i64 (Int.add z36 (Int.ofNat 1)))) 17 (.int .i64 (Int.add z36 (Int.ofNat 1)))) H)) (
        AsSlc (a 13) fun p37 o38 l39 c40 =>
        AsCnt (a 17) fun n41 =>
        Must (ltN n41 l39) (
        Ld H p37 (Nat.add o38 (Nat.mul n41 1)) fun v42 =>
        AsNat .u64 v42 fun n43 =>
        AsSlc (a 12) fun p44 o45 l46 c47 =>
        AsCnt (a 14) fun n48 =>
        Must (ltN n48 l46) (
        Ld H p44 (Nat.add (Nat.add o45 (Nat.mul n48 8)) 2) fun v49 =>
        AsNat .u64 v49 fun n50 =>
        AsInt .i64 (a 17) fun z51 =>
        InR (Int.add z51 (Int.ofNat 1)) (
        K .normal (upd (upd (upd (upd (upd (upd (upd (upd (upd (upd (upd (upd (upd (upd (upd (upd (upd (upd (upd (upd (upd (upd (upd (upd (upd (upd (upd (upd (upd (upd (upd (upd (upd (upd (upd (upd (upd (upd (upd (upd (upd (upd (upd (upd (upd (upd (upd (upd (upd (upd (upd (upd (upd (upd (upd (upd (upd a 122 (a 17)) 123 (a 13)) 124 (.int .i64 (Int.ofNat l1))) 125 (.bool (ltZ z2 (Int.ofNat l1)))) 128 (a 15)) 129 (a 15)) 129 (.bool false)) 130 (a 13)) 129 (.bool false)) 131 (a 17)) 129 (.bool false)) 132 (ptr p21 (Nat.add o22 (Nat.mul n25 1)))) 129 (.bool false)) 133 v26) 129 (.bool false)) 134 (a 12)) 129 (.bool false)) 135 (a 14)) 129 (.bool false)) 136 (ptr p27 (Nat.add o28 (Nat.mul n31 8)))) 129 (.bool false)) 137 (ptr p27 (Nat.add (Nat.add o28 (Nat.mul n31 8)) 3))) 129 (.bool false)) 138 v32) 129 (.bool false)) 139 (.bool (eqN n33 n34))) 140 (.bool (eqN n33 n34))) 15 (.bool (eqN n33 n34))) 141 (a 16)) 142 (a 16)) 142 (.bool false)) 143 (a 13)) 142 (.bool false)) 144 (a 17)) 142 (.bool false)) 145 (ptr p37 (Nat.add o38 (Nat.mul n41 1)))) 142 (.bool false)) 146 v42) 142 (.bool false)) 147 (.int .u64 (Int.ofNat (Nat.mod (Nat.add n43 2) 18446744073709551616)))) 142 (.bool false)) 148 (a 12)) 142 (.bool false)) 149 (a 14)) 142 (.bool false)) 150 (ptr p44 (Nat.add o45 (Nat.mul n48 8)))) 142 (.bool false)) 151 (ptr p44 (Nat.add (Nat.add o45 (Nat.mul n48 8)) 2))) 142 (.bool false)) 152 v49) 142 (.bool false)) 153 (.bool (eqN (Nat.mod (Nat.add n43 2) 18446744073709551616) n50))) 154 (.bool (eqN (Nat.mod (Nat.add n43 2) 18446744073709551616) n50))) 16 (.bool (eqN (Nat.mod (Nat.add n43 2) 18446744073709551616) n50))) 126 (a 17)) 127 (.int .i64 (Int.add z51 (Int.ofNat 1)))) 17 (.int .i64 (Int.add z51 (Int.ofNat 1)))) H)))))))) (
    K (.exit 6) (upd (upd (upd (upd a 122 (a 17)) 123 (a 13)) 124 (.int .i64 (Int.ofNat l1))) 125 (.bool (ltZ z2 (Int.ofNat l1)))) H)) := by kernel_rfl

end Go.Proofs.Ytipbbnoepphdkaa
