/- What some functions' texts ask for, step by step, each checked by the kernel. No conditions. -/
import Derived.Test.YtipbbnoepphdkaaGreatProg
import Derived.Test.YtipbbnoepphdkaaGreatCmE
set_option linter.unusedVariables false
set_option linter.unusedSimpArgs false

/- What some functions' texts ask for, step by step, each checked by the kernel. No conditions. -/
set_option linter.unusedVariables false
namespace Go.Proofs.YtipbbnoepphdkaaGreat
open Go Go.CM
theorem arenaNew_W (con : CallT) (z : Int) (b : Bool) (H : CH) (K : KP) : funW Tryz.prog con 7 [i64 z, .bool b] H K =
 (Cd (ltZ z (Int.ofNat 128)) (
 K (.tuple ⟨[(.pointer none), (iN (2))]⟩) H) (
 Cd (ltZ (Int.ofNat 4194304) z) (
 K (.tuple ⟨[(.pointer none), (iN (2))]⟩) H) (
 Cd b (
 MkS Tryz.prog H 134 (i64 z) (i64 z) fun v1 H2 =>
 Sc v1 (Nw H2 (mkRow 141 0 [v1, (iN (0))]) fun p3 H4 =>
 Call1 Tryz.prog con 43 [(ptr p3 1), (iN (1))] H4 fun v5 H6 =>
 Nw H6 (mkRow 146 0 [(.iface 133 (ptr p3 0)), (.bool true), (snil)]) fun p7 H8 =>
 K (.tuple ⟨[(ptr p7 0), (iN (0))]⟩) H8)) (
 MkS Tryz.prog H 36 (i64 z) (i64 z) fun v9 H10 =>
 Sc v9 (Nw H10 (mkRow 149 0 [v9, (iN (1))]) fun p11 H12 =>
 Nw H12 (mkRow 146 0 [(.iface 147 (ptr p11 0)), (.bool false), (snil)]) fun p13 H14 =>
 K (.tuple ⟨[(ptr p13 0), (iN (0))]⟩) H14))))) := by kernel_rfl
theorem memView_W (con : CallT) (m : Nat) (z : Int) (H : CH) (K : KP) : funW Tryz.prog con 10 [ptr m 0, i64 z] H K =
 (Nw H (mkRow 156 0 [(ptr m 0), (i64 z), (iN (0))]) fun p1 H2 =>
 K (ptr p1 0) H2) := by kernel_rfl
theorem viewStore_W (con : CallT) (p a x : Nat) (H : CH) (K : KP) : funW Tryz.prog con 20 [ptr p 0, u64 (a), u64 (x)] H K =
 (Ld H p 0 fun v1 =>
 Call1 Tryz.prog con 65 [v1, (u64 (a))] H fun v2 H3 =>
 AsBool v2 fun b4 =>
 Cd b4 (
 Ld H3 p 0 fun v5 =>
 NotNil Tryz.prog v5 (
 AsPtr v5 fun p6 o7 =>
 Ld H3 p6 (Nat.add o7 0) fun v8 =>
 Mth Tryz.prog con v8 "shutter/arena.store" [(u64 (a)), (u64 (x))] H3 fun v9 H10 =>
 Call1 Tryz.prog con 49 [(ptr p 0), (.agg ⟨[(iN (0)), (u8 (2)), (u64 (a)), (u64 (x)), (u64 (0)), (snil), (u64 (0)), (.bool false)]⟩)] H10 fun v11 H12 =>
 K (.tuple ⟨[]⟩) H12)) (
 Call1 Tryz.prog con 49 [(ptr p 0), (.agg ⟨[(iN (0)), (u8 (2)), (u64 (a)), (u64 (x)), (u64 (0)), (snil), (u64 (0)), (.bool false)]⟩)] H3 fun v13 H14 =>
 K (.tuple ⟨[]⟩) H14)) := by kernel_rfl
theorem viewLoad_W (con : CallT) (p a : Nat) (H : CH) (K : KP) : funW Tryz.prog con 125 [ptr p 0, u64 (a)] H K =
 (Ld H p 0 fun v1 =>
 Call1 Tryz.prog con 48 [v1, (u64 (a))] H fun v2 H3 =>
 Sc v2 (Call1 Tryz.prog con 49 [(ptr p 0), (.agg ⟨[(iN (0)), (u8 (1)), (u64 (a)), (u64 (0)), (u64 (0)), (snil), v2, (.bool false)]⟩)] H3 fun v4 H5 =>
 K v2 H5)) := by kernel_rfl
theorem memPeek_W (con : CallT) (m a : Nat) (H : CH) (K : KP) : funW Tryz.prog con 48 [ptr m 0, u64 (a)] H K =
 (Call1 Tryz.prog con 65 [(ptr m 0), (u64 (a))] H fun v1 H2 =>
 AsBool v1 fun b3 =>
 Cd (notB b3) (
 K (u64 (0)) H2) (
 Ld H2 m 0 fun v4 =>
 Mth Tryz.prog con v4 "shutter/arena.load" [(u64 (a))] H2 fun v5 H6 =>
 K v5 H6)) := by kernel_rfl
theorem memHas_W (con : CallT) (m a : Nat) (H : CH) (K : KP) : funW Tryz.prog con 65 [ptr m 0, u64 (a)] H K =
 (Ld H m 0 fun v1 =>
 Mth Tryz.prog con v1 "shutter/arena.size" [] H fun v2 H3 =>
 AsInt .i64 v2 fun z4 =>
 Must (cvOk .i64 z4) (
 K (.bool (ltN a (wrapN .u64 z4))) H3)) := by kernel_rfl
theorem viewNote_W (con : CallT) (p : Nat) (c0 c1 c2 c3 c4 c5 c6 c7 : Value) (H : CH) (K : KP) : funW Tryz.prog con 49 [ptr p 0, .agg ⟨[c0, c1, c2, c3, c4, c5, c6, c7]⟩] H K =
 (Nw H (mkRow 161 0 [c0, c1, c2, c3, c4, c5, c6, c7]) fun p1 H2 =>
 Ld H2 p 2 fun v3 =>
 AsInt .i64 v3 fun z4 =>
 InR (Int.add z4 (Int.ofNat 1)) (
 St H2 p 2 [(i64 (Int.add z4 (Int.ofNat 1)))] fun H5 =>
 Ld H5 p 0 fun v6 =>
 NotNil Tryz.prog v6 (
 AsPtr v6 fun p7 o8 =>
 Ld H5 p7 (Nat.add o8 1) fun v9 =>
 AsBool v9 fun b10 =>
 Cd (notB b10) (
 Ld H5 p 1 fun v11 =>
 Sc v11 (St H5 p1 0 [v11] fun H12 =>
 Ld H12 p 0 fun v13 =>
 Ld H12 p 0 fun v14 =>
 NotNil Tryz.prog v14 (
 AsPtr v14 fun p15 o16 =>
 Ld H12 p15 (Nat.add o16 2) fun v17 =>
 Ld H12 p1 0 fun v18 =>
 Ld H12 p1 1 fun v19 =>
 Ld H12 p1 2 fun v20 =>
 Ld H12 p1 3 fun v21 =>
 Ld H12 p1 4 fun v22 =>
 Ld H12 p1 5 fun v23 =>
 Ld H12 p1 6 fun v24 =>
 Ld H12 p1 7 fun v25 =>
 Nw H12 (mkRow 161 0 [v18, v19, v20, v21, v22, v23, v24, v25]) fun p26 H27 =>
 App Tryz.prog 55 55 H27 v17 (.slice (some ⟨p26, 0, none⟩) 1 1) fun v28 H29 =>
 NotNil Tryz.prog v13 (
 AsPtr v13 fun p30 o31 =>
 Sc v28 (St H29 p30 (Nat.add o31 2) [v28] fun H32 =>
 Ld H12 p15 (Nat.add o16 2) fun v33 =>
 Same v17 v33 (
 Ld H27 p15 (Nat.add o16 2) fun v34 =>
 Same v17 v34 (
 Ld H12 p 0 fun v35 =>
 Same v14 v35 (
 Ld H27 p 0 fun v36 =>
 Same v14 v36 (
 Ld H12 p 0 fun v37 =>
 Same v13 v37 (
 Ld H27 p 0 fun v38 =>
 Same v13 v38 (
 Ld H29 p 0 fun v39 =>
 Same v13 v39 (
 K (.tuple ⟨[]⟩) H32)))))))))))) (
 K (.tuple ⟨[]⟩) H5)))) := by kernel_rfl
theorem memTrace_W (con : CallT) (m : Nat) (H : CH) (K : KP) : funW Tryz.prog con 19 [ptr m 0] H K =
 (Ld H m 2 fun v1 =>
 Call1 Tryz.prog con 64 [v1] H fun v2 H3 =>
 AsLen v2 fun l4 =>
 LoopC Tryz.prog con (lpAt Tryz.prog 19 0) (upd (upd (upd (upd (upd (upd (upd (upd (upd (upd (upd (upd (upd (fun _ => undV) 0 (ptr m 0)) 2 (snil)) 5 (ptr m 0)) 6 (.bool false)) 7 (ptr m 0)) 8 (ptr m 0)) 9 (ptr m 2)) 10 v1) 11 v2) 3 v2) 12 v2) 13 (iN (l4))) 14 (iN (0))) H3 (fun e => ceP e
 (fun a5 H6 =>
 K (a5 3) H6)
 (fun i7 => fun a5 H6 =>
 Cd (eqN i7 0) (
 K (a5 3) H6) (
 False))
 (fun a5 H6 =>
 K (a5 2) H6))) := by kernel_rfl
theorem viewCas_W (con : CallT) (p a x y : Nat) (H : CH) (K : KP) : funW Tryz.prog con 129 [ptr p 0, u64 (a), u64 (x), u64 (y)] H K =
 (Ld H p 0 fun v1 =>
 Call1 Tryz.prog con 65 [v1, (u64 (a))] H fun v2 H3 =>
 AsWant v2 (False) fun b4 =>
 Cd b4 (
 Ld H3 p 0 fun v5 =>
 NotNil Tryz.prog v5 (
 AsPtr v5 fun p6 o7 =>
 Ld H3 p6 (Nat.add o7 0) fun v8 =>
 Mth Tryz.prog con v8 "shutter/arena.cas" [(u64 (a)), (u64 (x)), (u64 (y))] H3 fun v9 H10 =>
 Sc v9 (Call1 Tryz.prog con 49 [(ptr p 0), (.agg ⟨[(iN (0)), (u8 (3)), (u64 (a)), (u64 (x)), (u64 (y)), (snil), (u64 (0)), v9]⟩)] H10 fun v11 H12 =>
 K v9 H12))) (
 Call1 Tryz.prog con 49 [(ptr p 0), (.agg ⟨[(iN (0)), (u8 (3)), (u64 (a)), (u64 (x)), (u64 (y)), (snil), (u64 (0)), (.bool false)]⟩)] H3 fun v13 H14 =>
 K (.bool false) H14)) := by kernel_rfl
theorem viewAlloc_W (con : CallT) (p : Nat) (v : Value) (H : CH) (K : KP) : funW Tryz.prog con 11 [ptr p 0, v] H K =
 (AsLen v fun l1 =>
 Cd (ltZ (Int.ofNat 0) (Int.ofNat l1)) (
 Ld H p 0 fun v2 =>
 NotNil Tryz.prog v2 (
 AsPtr v2 fun p3 o4 =>
 Ld H p3 (Nat.add o4 0) fun v5 =>
 Mth Tryz.prog con v5 "shutter/arena.alloc" [v] H fun v6 H7 =>
 Call1 Tryz.prog con 50 [v] H7 fun v8 H9 =>
 Sc v6 (Sc v8 (Call1 Tryz.prog con 49 [(ptr p 0), (.agg ⟨[(iN (0)), (u8 (5)), v6, (u64 (0)), (u64 (0)), v8, (u64 (0)), (.bool false)]⟩)] H9 fun v10 H11 =>
 K v6 H11)))) (
 Call1 Tryz.prog con 50 [v] H fun v12 H13 =>
 Sc v12 (Call1 Tryz.prog con 49 [(ptr p 0), (.agg ⟨[(iN (0)), (u8 (5)), (u64 (0)), (u64 (0)), (u64 (0)), v12, (u64 (0)), (.bool false)]⟩)] H13 fun v14 H15 =>
 K (u64 (0)) H15))) := by kernel_rfl
theorem plainAlloc_W (con : CallT) (p : Nat) (v : Value) (H : CH) (K : KP) : funW Tryz.prog con 206 [ptr p 0, v] H K =
 (AsLen v fun l1 =>
 Ld H p 0 fun v2 =>
 AsLen v2 fun l3 =>
 Ld H p 1 fun v4 =>
 AsInt .i64 v4 fun z5 =>
 InR (Int.sub (Int.ofNat l3) z5) (
 Cd (ltZ (Int.sub (Int.ofNat l3) z5) (Int.ofNat l1)) (
 K (u64 (0)) H) (
 Ld H p 1 fun v6 =>
 Ld H p 1 fun v7 =>
 Ld H p 0 fun v8 =>
 Slc Tryz.prog H 36 v8 (some v6) none none fun v9 =>
 Cpy Tryz.prog 36 H v9 v fun v10 H11 =>
 AsInt .i64 v7 fun z12 =>
 AsInt .i64 v10 fun z13 =>
 InR (Int.add z12 z13) (
 St H11 p 1 [(i64 (Int.add z12 z13))] fun H14 =>
 Ld H p 1 fun v15 =>
 Same v7 v15 (
 Ld H11 p 1 fun v16 =>
 Same v7 v16 (
 AsInt .i64 v6 fun z17 =>
 Must (cvOk .i64 z17) (
 K (u64 ((wrapN .u64 z17))) H14))))))) := by kernel_rfl
theorem plainCas_W (con : CallT) (p a x y : Nat) (H : CH) (K : KP) : funW Tryz.prog con 207 [ptr p 0, u64 (a), u64 (x), u64 (y)] H K =
 (Ld H p 0 fun v1 =>
 AsSlc v1 fun p2 o3 l4 c5 =>
 Must (ltN a l4) (
 Ld H p2 (Nat.add o3 (Nat.mul a 1)) fun v6 =>
 AsNat .u64 v6 fun n7 =>
 Cd (notB (eqN n7 x)) (
 K (.bool false) H) (
 Ld H p 0 fun v8 =>
 AsSlc v8 fun p9 o10 l11 c12 =>
 Must (ltN a l11) (
 St H p9 (Nat.add o10 (Nat.mul a 1)) [(u64 (y))] fun H13 =>
 K (.bool true) H13)))) := by kernel_rfl
theorem plainLoad_W (con : CallT) (p a : Nat) (H : CH) (K : KP) : funW Tryz.prog con 209 [ptr p 0, u64 (a)] H K =
 (Ld H p 0 fun v1 =>
 AsSlc v1 fun p2 o3 l4 c5 =>
 Must (ltN a l4) (
 Ld H p2 (Nat.add o3 (Nat.mul a 1)) fun v6 =>
 K v6 H)) := by kernel_rfl
theorem plainSize_W (con : CallT) (p : Nat) (H : CH) (K : KP) : funW Tryz.prog con 211 [ptr p 0] H K =
 (Ld H p 0 fun v1 =>
 AsLen v1 fun l2 =>
 K (iN (l2)) H) := by kernel_rfl
theorem plainStore_W (con : CallT) (p a x : Nat) (H : CH) (K : KP) : funW Tryz.prog con 212 [ptr p 0, u64 (a), u64 (x)] H K =
 (Ld H p 0 fun v1 =>
 AsSlc v1 fun p2 o3 l4 c5 =>
 Must (ltN a l4) (
 St H p2 (Nat.add o3 (Nat.mul a 1)) [(u64 (x))] fun H6 =>
 K (.tuple ⟨[]⟩) H6)) := by kernel_rfl
theorem cloneN_W (con : CallT) (v : Value) (H : CH) (K : KP) : funW Tryz.prog con 50 [v] H K =
 (IsNil .slc v fun b1 =>
 Cd b1 (
 K (snil) H) (
 Nw H (mkRow 32 0 []) fun p2 H3 =>
 App Tryz.prog 36 36 H3 (.slice (some ⟨p2, 0, none⟩) 0 0) v fun v4 H5 =>
 K v4 H5)) := by kernel_rfl
theorem cloneA_W (con : CallT) (v : Value) (H : CH) (K : KP) : funW Tryz.prog con 64 [v] H K =
 (IsNil .slc v fun b1 =>
 Cd b1 (
 K (snil) H) (
 Nw H (mkRow 161 0 []) fun p2 H3 =>
 App Tryz.prog 55 55 H3 (.slice (some ⟨p2, 0, none⟩) 0 0) v fun v4 H5 =>
 K v4 H5)) := by kernel_rfl
theorem refNew_W (con : CallT) (z : Int) (b : Bool) (H : CH) (K : KP) : funW Tryz.prog con 9 [i64 z, .bool b] H K =
 (Cd (ltZ z (Int.ofNat 128)) (
 K (.tuple ⟨[(.pointer none), (iN (2))]⟩) H) (
 Cd (ltZ (Int.ofNat 4194304) z) (
 K (.tuple ⟨[(.pointer none), (iN (2))]⟩) H) (
 MkS Tryz.prog H 36 (i64 z) (i64 z) fun v1 H2 =>
 Sc v1 (Nw H2 (mkRow 58 0 [v1, (iN (1)), (snil), (.bool b)]) fun p3 H4 =>
 K (.tuple ⟨[(ptr p3 0), (iN (0))]⟩) H4)))) := by kernel_rfl
theorem refStore_W (con : CallT) (p a x : Nat) (t : Int) (H : CH) (K : KP) : funW Tryz.prog con 21 [ptr p 0, i64 t, u64 (a), u64 (x)] H K =
 (Call1 Tryz.prog con 66 [(ptr p 0), (u64 (a)), (u64 (x))] H fun v1 H2 =>
 Call1 Tryz.prog con 52 [(ptr p 0), (.agg ⟨[(i64 t), (u8 (2)), (u64 (a)), (u64 (x)), (u64 (0)), (snil), (u64 (0)), (.bool false)]⟩)] H2 fun v3 H4 =>
 K (.tuple ⟨[]⟩) H4) := by kernel_rfl
theorem refLoad_W (con : CallT) (p a : Nat) (t : Int) (H : CH) (K : KP) : funW Tryz.prog con 115 [ptr p 0, i64 t, u64 (a)] H K =
 (Call1 Tryz.prog con 86 [(ptr p 0), (u64 (a))] H fun v1 H2 =>
 Sc v1 (Call1 Tryz.prog con 52 [(ptr p 0), (.agg ⟨[(i64 t), (u8 (1)), (u64 (a)), (u64 (0)), (u64 (0)), (snil), v1, (.bool false)]⟩)] H2 fun v3 H4 =>
 K v1 H4)) := by kernel_rfl
theorem refPeek_W (con : CallT) (p a : Nat) (H : CH) (K : KP) : funW Tryz.prog con 86 [ptr p 0, u64 (a)] H K =
 (Ld H p 0 fun v1 =>
 AsLen v1 fun l2 =>
 Must (cvOk .i64 (Int.ofNat l2)) (
 Cd (leN (wrapN .u64 (Int.ofNat l2)) a) (
 K (u64 (0)) H) (
 Ld H p 0 fun v3 =>
 AsSlc v3 fun p4 o5 l6 c7 =>
 Must (ltN a l6) (
 Ld H p4 (Nat.add o5 (Nat.mul a 1)) fun v8 =>
 K v8 H)))) := by kernel_rfl
theorem refSet_W (con : CallT) (p a x : Nat) (H : CH) (K : KP) : funW Tryz.prog con 66 [ptr p 0, u64 (a), u64 (x)] H K =
 (Ld H p 0 fun v1 =>
 AsLen v1 fun l2 =>
 Must (cvOk .i64 (Int.ofNat l2)) (
 Cd (ltN a (wrapN .u64 (Int.ofNat l2))) (
 Ld H p 0 fun v3 =>
 AsSlc v3 fun p4 o5 l6 c7 =>
 Must (ltN a l6) (
 St H p4 (Nat.add o5 (Nat.mul a 1)) [(u64 (x))] fun H8 =>
 K (.tuple ⟨[]⟩) H8)) (
 K (.tuple ⟨[]⟩) H))) := by kernel_rfl
theorem refNote_W (con : CallT) (p : Nat) (c0 c1 c2 c3 c4 c5 c6 c7 : Value) (H : CH) (K : KP) : funW Tryz.prog con 52 [ptr p 0, .agg ⟨[c0, c1, c2, c3, c4, c5, c6, c7]⟩] H K =
 (Nw H (mkRow 161 0 [c0, c1, c2, c3, c4, c5, c6, c7]) fun p1 H2 =>
 Ld H2 p 3 fun v3 =>
 AsBool v3 fun b4 =>
 Cd (notB b4) (
 Ld H2 p 2 fun v5 =>
 Ld H2 p1 0 fun v6 =>
 Ld H2 p1 1 fun v7 =>
 Ld H2 p1 2 fun v8 =>
 Ld H2 p1 3 fun v9 =>
 Ld H2 p1 4 fun v10 =>
 Ld H2 p1 5 fun v11 =>
 Ld H2 p1 6 fun v12 =>
 Ld H2 p1 7 fun v13 =>
 Nw H2 (mkRow 161 0 [v6, v7, v8, v9, v10, v11, v12, v13]) fun p14 H15 =>
 App Tryz.prog 55 55 H15 v5 (.slice (some ⟨p14, 0, none⟩) 1 1) fun v16 H17 =>
 Sc v16 (St H17 p 2 [v16] fun H18 =>
 Ld H2 p 2 fun v19 =>
 Same v5 v19 (
 Ld H15 p 2 fun v20 =>
 Same v5 v20 (
 K (.tuple ⟨[]⟩) H18)))) (
 K (.tuple ⟨[]⟩) H2)) := by kernel_rfl
theorem refAlloc_W (con : CallT) (p : Nat) (t : Int) (v : Value) (H : CH) (K : KP) : funW Tryz.prog con 12 [ptr p 0, i64 t, v] H K =
 (AsLen v fun l1 =>
 Cd (ltZ (Int.ofNat 0) (Int.ofNat l1)) (
 AsLen v fun l2 =>
 Call1 Tryz.prog con 51 [(ptr p 0)] H fun v3 H4 =>
 AsInt .i64 v3 fun z5 =>
 Cd (leZ (Int.ofNat l2) z5) (
 Ld H4 p 1 fun v6 =>
 Ld H4 p 1 fun v7 =>
 AsLen v fun l8 =>
 AsInt .i64 v7 fun z9 =>
 InR (Int.add z9 (Int.ofNat l8)) (
 St H4 p 1 [(i64 (Int.add z9 (Int.ofNat l8)))] fun H10 =>
 LoopC Tryz.prog con (lpAt Tryz.prog 12 0) (upd (upd (upd (upd (upd (upd (upd (upd (upd (upd (upd (upd (upd (upd (upd (upd (upd (upd (upd (upd (upd (upd (upd (upd (upd (upd (upd (upd (upd (upd (upd (upd (upd (upd (upd (upd (upd (fun _ => undV) 2 v) 1 (i64 t)) 0 (ptr p 0)) 6 (u64 (0))) 10 (ptr p 0)) 11 (.bool false)) 7 (iN (0))) 12 v) 13 (iN (l1))) 14 (.bool (ltZ (Int.ofNat 0) (Int.ofNat l1)))) 15 (.bool (ltZ (Int.ofNat 0) (Int.ofNat l1)))) 15 (.bool true)) 16 v) 15 (.bool true)) 17 (iN (l2))) 15 (.bool true)) 18 (ptr p 0)) 15 (.bool true)) 19 v3) 15 (.bool true)) 20 (.bool (leZ (Int.ofNat l2) z5))) 21 (.bool (leZ (Int.ofNat l2) z5))) 22 (ptr p 0)) 23 (ptr p 0)) 24 (ptr p 1)) 25 v6) 7 v6) 26 (ptr p 0)) 27 (ptr p 0)) 28 (ptr p 1)) 29 v7) 30 v) 31 (iN (l8))) 32 (i64 (Int.add z9 (Int.ofNat l8)))) 33 (ptr p 0)) 34 (ptr p 1)) 8 (iN (0))) H10 (fun e => ceP e
 (fun a11 H12 =>
 App Tryz.prog 36 36 H12 (snil) (a11 2) fun v14 H15 =>
 AsInt .i64 (a11 7) fun z16 =>
 Must (cvOk .i64 z16) (
 Sc (a11 1) (Sc v14 (Call1 Tryz.prog con 52 [(a11 0), (.agg ⟨[(a11 1), (u8 (5)), (u64 ((wrapN .u64 z16))), (u64 (0)), (u64 (0)), v14, (u64 (0)), (.bool false)]⟩)] H15 fun v17 H18 =>
 AsInt .i64 (a11 7) fun z19 =>
 Must (cvOk .i64 z19) (
 K (u64 ((wrapN .u64 z19))) H18)))))
 (fun i13 => fun a11 H12 =>
 Cd (eqN i13 0) (
 App Tryz.prog 36 36 H12 (snil) (a11 2) fun v20 H21 =>
 AsInt .i64 (a11 7) fun z22 =>
 Must (cvOk .i64 z22) (
 Sc (a11 1) (Sc v20 (Call1 Tryz.prog con 52 [(a11 0), (.agg ⟨[(a11 1), (u8 (5)), (u64 ((wrapN .u64 z22))), (u64 (0)), (u64 (0)), v20, (u64 (0)), (.bool false)]⟩)] H21 fun v23 H24 =>
 AsInt .i64 (a11 7) fun z25 =>
 Must (cvOk .i64 z25) (
 K (u64 ((wrapN .u64 z25))) H24))))) (
 False))
 (fun a11 H12 =>
 K (a11 6) H12)))) (
 App Tryz.prog 36 36 H4 (snil) v fun v26 H27 =>
 Must (cvOk .i64 (Int.ofNat 0)) (
 Sc v26 (Call1 Tryz.prog con 52 [(ptr p 0), (.agg ⟨[(i64 t), (u8 (5)), (u64 ((wrapN .u64 (Int.ofNat 0)))), (u64 (0)), (u64 (0)), v26, (u64 (0)), (.bool false)]⟩)] H27 fun v28 H29 =>
 Must (cvOk .i64 (Int.ofNat 0)) (
 K (u64 ((wrapN .u64 (Int.ofNat 0)))) H29))))) (
 App Tryz.prog 36 36 H (snil) v fun v30 H31 =>
 Must (cvOk .i64 (Int.ofNat 0)) (
 Sc v30 (Call1 Tryz.prog con 52 [(ptr p 0), (.agg ⟨[(i64 t), (u8 (5)), (u64 ((wrapN .u64 (Int.ofNat 0)))), (u64 (0)), (u64 (0)), v30, (u64 (0)), (.bool false)]⟩)] H31 fun v32 H33 =>
 Must (cvOk .i64 (Int.ofNat 0)) (
 K (u64 ((wrapN .u64 (Int.ofNat 0)))) H33))))) := by kernel_rfl
theorem refLeft_W (con : CallT) (p : Nat) (H : CH) (K : KP) : funW Tryz.prog con 51 [ptr p 0] H K =
 (Ld H p 0 fun v1 =>
 AsLen v1 fun l2 =>
 Ld H p 1 fun v3 =>
 AsInt .i64 v3 fun z4 =>
 InR (Int.sub (Int.ofNat l2) z4) (
 K (i64 (Int.sub (Int.ofNat l2) z4)) H)) := by kernel_rfl
theorem sameTrace_W (con : CallT) (v w : Value) (H : CH) (K : KP) : funW Tryz.prog con 18 [v, w] H K =
 (AsLen v fun l1 =>
 AsLen w fun l2 =>
 Cd (notB (eqZ (Int.ofNat l1) (Int.ofNat l2))) (
 K (.bool false) H) (
 LoopC Tryz.prog con (lpAt Tryz.prog 18 0) (upd (upd (upd (upd (upd (upd (upd (upd (upd (fun _ => undV) 1 w) 0 v) 4 (.bool false)) 6 v) 7 (iN (l1))) 8 w) 9 (iN (l2))) 10 (.bool (notB (eqZ (Int.ofNat l1) (Int.ofNat l2))))) 5 (iN (0))) H (fun e => ceP e
 (fun a3 H4 =>
 K (.bool true) H4)
 (fun i5 => fun a3 H4 =>
 Cd (eqN i5 0) (
 K (.bool true) H4) (
 False))
 (fun a3 H4 =>
 K (a3 4) H4)))) := by kernel_rfl
theorem sameAccess_W (con : CallT) (c0 c1 c2 c3 c4 c5 c6 c7 d0 d1 d2 d3 d4 d5 d6 d7 : Value) (H : CH) (K : KP) : funW Tryz.prog con 63 [.agg ⟨[c0, c1, c2, c3, c4, c5, c6, c7]⟩, .agg ⟨[d0, d1, d2, d3, d4, d5, d6, d7]⟩] H K =
 (Nw H (mkRow 161 0 [c0, c1, c2, c3, c4, c5, c6, c7]) fun p1 H2 =>
 Nw H2 (mkRow 161 0 [d0, d1, d2, d3, d4, d5, d6, d7]) fun p3 H4 =>
 Ld H4 p1 0 fun v5 =>
 Ld H4 p3 0 fun v6 =>
 AsInt .i64 v5 fun z7 =>
 AsInt .i64 v6 fun z8 =>
 Cd (notB (eqZ z7 z8)) (
 K (.bool false) H4) (
 Ld H4 p1 1 fun v9 =>
 Ld H4 p3 1 fun v10 =>
 AsNat .u8 v9 fun n11 =>
 AsNat .u8 v10 fun n12 =>
 Cd (notB (eqN n11 n12)) (
 K (.bool false) H4) (
 Ld H4 p1 2 fun v13 =>
 Ld H4 p3 2 fun v14 =>
 AsNat .u64 v13 fun n15 =>
 AsNat .u64 v14 fun n16 =>
 Cd (notB (eqN n15 n16)) (
 K (.bool false) H4) (
 Ld H4 p1 3 fun v17 =>
 Ld H4 p3 3 fun v18 =>
 AsNat .u64 v17 fun n19 =>
 AsNat .u64 v18 fun n20 =>
 Cd (notB (eqN n19 n20)) (
 K (.bool false) H4) (
 Ld H4 p1 4 fun v21 =>
 Ld H4 p3 4 fun v22 =>
 AsNat .u64 v21 fun n23 =>
 AsNat .u64 v22 fun n24 =>
 Cd (notB (eqN n23 n24)) (
 K (.bool false) H4) (
 Ld H4 p1 6 fun v25 =>
 Ld H4 p3 6 fun v26 =>
 AsNat .u64 v25 fun n27 =>
 AsNat .u64 v26 fun n28 =>
 Cd (notB (eqN n27 n28)) (
 K (.bool false) H4) (
 Ld H4 p1 7 fun v29 =>
 Ld H4 p3 7 fun v30 =>
 AsBool v29 fun b31 =>
 AsBool v30 fun b32 =>
 Cd (notB (eqB b31 b32)) (
 K (.bool false) H4) (
 Ld H4 p1 5 fun v33 =>
 AsLen v33 fun l34 =>
 Ld H4 p3 5 fun v35 =>
 AsLen v35 fun l36 =>
 Cd (notB (eqZ (Int.ofNat l34) (Int.ofNat l36))) (
 K (.bool false) H4) (
 LoopC Tryz.prog con (lpAt Tryz.prog 63 0) (upd (upd (upd (upd (upd (upd (upd (upd (upd (upd (upd (upd (upd (upd (upd (upd (upd (upd (upd (upd (upd (upd (upd (upd (upd (upd (upd (upd (upd (upd (upd (upd (upd (upd (upd (upd (upd (upd (upd (upd (upd (upd (upd (upd (upd (upd (upd (upd (upd (upd (upd (upd (upd (upd (upd (upd (upd (upd (upd (upd (upd (upd (upd (upd (upd (upd (upd (upd (upd (upd (upd (upd (upd (upd (upd (upd (upd (upd (upd (upd (upd (upd (upd (upd (upd (upd (upd (upd (upd (upd (upd (upd (upd (upd (upd (upd (upd (upd (upd (fun _ => undV) 1 (.agg ⟨[d0, d1, d2, d3, d4, d5, d6, d7]⟩)) 0 (.agg ⟨[c0, c1, c2, c3, c4, c5, c6, c7]⟩)) 2 (ptr p1 0)) 3 (ptr p3 0)) 4 (.bool false)) 6 (ptr p1 0)) 7 v5) 8 (ptr p3 0)) 9 v6) 10 (.bool (notB (eqZ z7 z8)))) 11 (.bool (notB (eqZ z7 z8)))) 11 (.bool false)) 12 (ptr p1 1)) 11 (.bool false)) 13 v9) 11 (.bool false)) 14 (ptr p3 1)) 11 (.bool false)) 15 v10) 11 (.bool false)) 16 (.bool (notB (eqN n11 n12)))) 17 (.bool (notB (eqN n11 n12)))) 18 (.bool (notB (eqN n11 n12)))) 18 (.bool false)) 19 (ptr p1 2)) 18 (.bool false)) 20 v13) 18 (.bool false)) 21 (ptr p3 2)) 18 (.bool false)) 22 v14) 18 (.bool false)) 23 (.bool (notB (eqN n15 n16)))) 24 (.bool (notB (eqN n15 n16)))) 25 (.bool (notB (eqN n15 n16)))) 25 (.bool false)) 26 (ptr p1 3)) 25 (.bool false)) 27 v17) 25 (.bool false)) 28 (ptr p3 3)) 25 (.bool false)) 29 v18) 25 (.bool false)) 30 (.bool (notB (eqN n19 n20)))) 31 (.bool (notB (eqN n19 n20)))) 32 (.bool (notB (eqN n19 n20)))) 32 (.bool false)) 33 (ptr p1 4)) 32 (.bool false)) 34 v21) 32 (.bool false)) 35 (ptr p3 4)) 32 (.bool false)) 36 v22) 32 (.bool false)) 37 (.bool (notB (eqN n23 n24)))) 38 (.bool (notB (eqN n23 n24)))) 39 (.bool (notB (eqN n23 n24)))) 39 (.bool false)) 40 (ptr p1 6)) 39 (.bool false)) 41 v25) 39 (.bool false)) 42 (ptr p3 6)) 39 (.bool false)) 43 v26) 39 (.bool false)) 44 (.bool (notB (eqN n27 n28)))) 45 (.bool (notB (eqN n27 n28)))) 46 (.bool (notB (eqN n27 n28)))) 46 (.bool false)) 47 (ptr p1 7)) 46 (.bool false)) 48 v29) 46 (.bool false)) 49 (ptr p3 7)) 46 (.bool false)) 50 v30) 46 (.bool false)) 51 (.bool (notB (eqB b31 b32)))) 52 (.bool (notB (eqB b31 b32)))) 53 (.bool (notB (eqB b31 b32)))) 53 (.bool false)) 54 (ptr p1 5)) 53 (.bool false)) 55 v33) 53 (.bool false)) 56 (iN (l34))) 53 (.bool false)) 57 (ptr p3 5)) 53 (.bool false)) 58 v35) 53 (.bool false)) 59 (iN (l36))) 53 (.bool false)) 60 (.bool (notB (eqZ (Int.ofNat l34) (Int.ofNat l36))))) 61 (.bool (notB (eqZ (Int.ofNat l34) (Int.ofNat l36))))) 5 (iN (0))) H4 (fun e => ceP e
 (fun a37 H38 =>
 K (.bool true) H38)
 (fun i39 => fun a37 H38 =>
 Cd (eqN i39 0) (
 K (.bool true) H38) (
 False))
 (fun a37 H38 =>
 K (a37 4) H38))))))))))) := by kernel_rfl
end Go.Proofs.YtipbbnoepphdkaaGreat

/- What some functions' texts ask for, step by step, each checked by the kernel. No conditions. -/
set_option linter.unusedVariables false
namespace Go.Proofs.YtipbbnoepphdkaaGreat
open Go Go.CM
theorem sameAccessL_W (con : CallT) (a : TF) (H : CH) (K : KX) : codeW (lpAt Tryz.prog 63 0) Tryz.prog con a H K =
 (AsPtr (a 2) fun p1 o2 =>
 Ld H p1 (Nat.add o2 5) fun v3 =>
 AsLen v3 fun l4 =>
 AsInt .i64 (a 5) fun z5 =>
 Cd (ltZ z5 (Int.ofNat l4)) (
 AsPtr (a 2) fun p6 o7 =>
 Ld H p6 (Nat.add o7 5) fun v8 =>
 AsSlc v8 fun p9 o10 l11 c12 =>
 AsCnt (a 5) fun n13 =>
 Must (ltN n13 l11) (
 Ld H p9 (Nat.add o10 (Nat.mul n13 1)) fun v14 =>
 AsPtr (a 3) fun p15 o16 =>
 Ld H p15 (Nat.add o16 5) fun v17 =>
 AsSlc v17 fun p18 o19 l20 c21 =>
 AsCnt (a 5) fun n22 =>
 Must (ltN n22 l20) (
 Ld H p18 (Nat.add o19 (Nat.mul n22 1)) fun v23 =>
 AsNat .u64 v14 fun n24 =>
 AsNat .u64 v23 fun n25 =>
 Cd (notB (eqN n24 n25)) (
 K .ret (upd (upd (upd (upd (upd (upd (upd (upd (upd (upd (upd (upd (upd (upd (upd (upd (upd a 62 (a 5)) 63 (ptr p1 (Nat.add o2 5))) 64 v3) 65 (iN (l4))) 66 (.bool (ltZ z5 (Int.ofNat l4)))) 69 (ptr p6 (Nat.add o7 5))) 70 v8) 71 (a 5)) 72 (ptr p9 (Nat.add o10 (Nat.mul n13 1)))) 73 v14) 74 (ptr p15 (Nat.add o16 5))) 75 v17) 76 (a 5)) 77 (ptr p18 (Nat.add o19 (Nat.mul n22 1)))) 78 v23) 79 (.bool (notB (eqN n24 n25)))) 4 (.bool false)) H) (
 AsInt .i64 (a 5) fun z26 =>
 InR (Int.add z26 (Int.ofNat 1)) (
 K .normal (upd (upd (upd (upd (upd (upd (upd (upd (upd (upd (upd (upd (upd (upd (upd (upd (upd (upd (upd a 62 (a 5)) 63 (ptr p1 (Nat.add o2 5))) 64 v3) 65 (iN (l4))) 66 (.bool (ltZ z5 (Int.ofNat l4)))) 69 (ptr p6 (Nat.add o7 5))) 70 v8) 71 (a 5)) 72 (ptr p9 (Nat.add o10 (Nat.mul n13 1)))) 73 v14) 74 (ptr p15 (Nat.add o16 5))) 75 v17) 76 (a 5)) 77 (ptr p18 (Nat.add o19 (Nat.mul n22 1)))) 78 v23) 79 (.bool (notB (eqN n24 n25)))) 67 (a 5)) 68 (i64 (Int.add z26 (Int.ofNat 1)))) 5 (i64 (Int.add z26 (Int.ofNat 1)))) H))))) (
 K (.exit 0) (upd (upd (upd (upd (upd a 62 (a 5)) 63 (ptr p1 (Nat.add o2 5))) 64 v3) 65 (iN (l4))) 66 (.bool (ltZ z5 (Int.ofNat l4)))) H)) := by kernel_rfl
theorem sameTraceL_W (con : CallT) (a : TF) (H : CH) (K : KX) : codeW (lpAt Tryz.prog 18 0) Tryz.prog con a H K =
 (AsLen (a 0) fun l1 =>
 AsInt .i64 (a 5) fun z2 =>
 Cd (ltZ z2 (Int.ofNat l1)) (
 AsSlc (a 0) fun p3 o4 l5 c6 =>
 AsCnt (a 5) fun n7 =>
 Must (ltN n7 l5) (
 Ld H p3 (Nat.add (Nat.add o4 (Nat.mul n7 8)) 0) fun v8 =>
 Ld H p3 (Nat.add (Nat.add o4 (Nat.mul n7 8)) 1) fun v9 =>
 Ld H p3 (Nat.add (Nat.add o4 (Nat.mul n7 8)) 2) fun v10 =>
 Ld H p3 (Nat.add (Nat.add o4 (Nat.mul n7 8)) 3) fun v11 =>
 Ld H p3 (Nat.add (Nat.add o4 (Nat.mul n7 8)) 4) fun v12 =>
 Ld H p3 (Nat.add (Nat.add o4 (Nat.mul n7 8)) 5) fun v13 =>
 Ld H p3 (Nat.add (Nat.add o4 (Nat.mul n7 8)) 6) fun v14 =>
 Ld H p3 (Nat.add (Nat.add o4 (Nat.mul n7 8)) 7) fun v15 =>
 AsSlc (a 1) fun p16 o17 l18 c19 =>
 AsCnt (a 5) fun n20 =>
 Must (ltN n20 l18) (
 Ld H p16 (Nat.add (Nat.add o17 (Nat.mul n20 8)) 0) fun v21 =>
 Ld H p16 (Nat.add (Nat.add o17 (Nat.mul n20 8)) 1) fun v22 =>
 Ld H p16 (Nat.add (Nat.add o17 (Nat.mul n20 8)) 2) fun v23 =>
 Ld H p16 (Nat.add (Nat.add o17 (Nat.mul n20 8)) 3) fun v24 =>
 Ld H p16 (Nat.add (Nat.add o17 (Nat.mul n20 8)) 4) fun v25 =>
 Ld H p16 (Nat.add (Nat.add o17 (Nat.mul n20 8)) 5) fun v26 =>
 Ld H p16 (Nat.add (Nat.add o17 (Nat.mul n20 8)) 6) fun v27 =>
 Ld H p16 (Nat.add (Nat.add o17 (Nat.mul n20 8)) 7) fun v28 =>
 Call1 Tryz.prog con 63 [(.agg ⟨[v8, v9, v10, v11, v12, v13, v14, v15]⟩), (.agg ⟨[v21, v22, v23, v24, v25, v26, v27, v28]⟩)] H fun v29 H30 =>
 AsBool v29 fun b31 =>
 Cd (notB b31) (
 K .ret (upd (upd (upd (upd (upd (upd (upd (upd (upd (upd (upd (upd (upd (upd (upd a 11 (a 5)) 12 (a 0)) 13 (iN (l1))) 14 (.bool (ltZ z2 (Int.ofNat l1)))) 17 (a 0)) 18 (a 5)) 19 (ptr p3 (Nat.add o4 (Nat.mul n7 8)))) 20 (.agg ⟨[v8, v9, v10, v11, v12, v13, v14, v15]⟩)) 21 (a 1)) 22 (a 5)) 23 (ptr p16 (Nat.add o17 (Nat.mul n20 8)))) 24 (.agg ⟨[v21, v22, v23, v24, v25, v26, v27, v28]⟩)) 25 v29) 26 (.bool (notB b31))) 4 (.bool false)) H30) (
 AsInt .i64 (a 5) fun z32 =>
 InR (Int.add z32 (Int.ofNat 1)) (
 K .normal (upd (upd (upd (upd (upd (upd (upd (upd (upd (upd (upd (upd (upd (upd (upd (upd (upd a 11 (a 5)) 12 (a 0)) 13 (iN (l1))) 14 (.bool (ltZ z2 (Int.ofNat l1)))) 17 (a 0)) 18 (a 5)) 19 (ptr p3 (Nat.add o4 (Nat.mul n7 8)))) 20 (.agg ⟨[v8, v9, v10, v11, v12, v13, v14, v15]⟩)) 21 (a 1)) 22 (a 5)) 23 (ptr p16 (Nat.add o17 (Nat.mul n20 8)))) 24 (.agg ⟨[v21, v22, v23, v24, v25, v26, v27, v28]⟩)) 25 v29) 26 (.bool (notB b31))) 15 (a 5)) 16 (i64 (Int.add z32 (Int.ofNat 1)))) 5 (i64 (Int.add z32 (Int.ofNat 1)))) H30))))) (
 K (.exit 0) (upd (upd (upd (upd a 11 (a 5)) 12 (a 0)) 13 (iN (l1))) 14 (.bool (ltZ z2 (Int.ofNat l1)))) H)) := by kernel_rfl
theorem memTraceL_W (con : CallT) (a : TF) (H : CH) (K : KX) : codeW (lpAt Tryz.prog 19 0) Tryz.prog con a H K =
 (AsInt .i64 (a 14) fun z1 =>
 AsInt .i64 (a 13) fun z2 =>
 Cd (ltZ z1 z2) (
 AsSlc (a 3) fun p3 o4 l5 c6 =>
 AsCnt (a 14) fun n7 =>
 Must (ltN n7 l5) (
 Ld H p3 (Nat.add (Nat.add o4 (Nat.mul n7 8)) 5) fun v8 =>
 Call1 Tryz.prog con 50 [v8] H fun v9 H10 =>
 AsSlc (a 3) fun p11 o12 l13 c14 =>
 AsCnt (a 14) fun n15 =>
 Must (ltN n15 l13) (
 Sc v9 (St H10 p11 (Nat.add (Nat.add o12 (Nat.mul n15 8)) 5) [v9] fun H16 =>
 AsInt .i64 (a 14) fun z17 =>
 InR (Int.add z17 (Int.ofNat 1)) (
 K .normal (upd (upd (upd (upd (upd (upd (upd (upd (upd (upd (upd (upd (upd (upd (upd a 15 (.bool (ltZ z1 z2))) 16 (a 14)) 4 (a 14)) 17 (a 3)) 18 (a 14)) 19 (a 3)) 20 (a 14)) 21 (ptr p3 (Nat.add o4 (Nat.mul n7 8)))) 22 (ptr p3 (Nat.add (Nat.add o4 (Nat.mul n7 8)) 5))) 23 v8) 24 v9) 25 (ptr p11 (Nat.add o12 (Nat.mul n15 8)))) 26 (ptr p11 (Nat.add (Nat.add o12 (Nat.mul n15 8)) 5))) 27 (i64 (Int.add z17 (Int.ofNat 1)))) 14 (i64 (Int.add z17 (Int.ofNat 1)))) H16))))) (
 K (.exit 0) (upd a 15 (.bool (ltZ z1 z2))) H)) := by kernel_rfl
theorem refAllocL_W (con : CallT) (a : TF) (H : CH) (K : KX) : codeW (lpAt Tryz.prog 12 0) Tryz.prog con a H K =
 (AsLen (a 2) fun l1 =>
 AsInt .i64 (a 8) fun z2 =>
 Cd (ltZ z2 (Int.ofNat l1)) (
 NotNil Tryz.prog (a 0) (
 AsPtr (a 0) fun p3 o4 =>
 Ld H p3 (Nat.add o4 0) fun v5 =>
 AsInt .i64 (a 7) fun z6 =>
 AsInt .i64 (a 8) fun z7 =>
 InR (Int.add z6 z7) (
 AsSlc (a 2) fun p8 o9 l10 c11 =>
 AsCnt (a 8) fun n12 =>
 Must (ltN n12 l10) (
 Ld H p8 (Nat.add o9 (Nat.mul n12 1)) fun v13 =>
 AsSlc v5 fun p14 o15 l16 c17 =>
 AsCnt (i64 (Int.add z6 z7)) fun n18 =>
 Must (ltN n18 l16) (
 Sc v13 (St H p14 (Nat.add o15 (Nat.mul n18 1)) [v13] fun H19 =>
 AsInt .i64 (a 8) fun z20 =>
 InR (Int.add z20 (Int.ofNat 1)) (
 K .normal (upd (upd (upd (upd (upd (upd (upd (upd (upd (upd (upd (upd (upd (upd (upd (upd (upd (upd (upd a 35 (a 8)) 36 (a 2)) 37 (iN (l1))) 38 (.bool (ltZ z2 (Int.ofNat l1)))) 41 (a 0)) 42 (a 0)) 43 (ptr p3 (Nat.add o4 0))) 44 v5) 45 (a 7)) 46 (a 8)) 47 (i64 (Int.add z6 z7))) 48 (a 2)) 49 (a 8)) 50 (ptr p8 (Nat.add o9 (Nat.mul n12 1)))) 51 v13) 52 (ptr p14 (Nat.add o15 (Nat.mul n18 1)))) 39 (a 8)) 40 (i64 (Int.add z20 (Int.ofNat 1)))) 8 (i64 (Int.add z20 (Int.ofNat 1)))) H19))))))) (
 K (.exit 0) (upd (upd (upd (upd a 35 (a 8)) 36 (a 2)) 37 (iN (l1))) 38 (.bool (ltZ z2 (Int.ofNat l1)))) H)) := by kernel_rfl
end Go.Proofs.YtipbbnoepphdkaaGreat

/- What some functions' texts ask for, step by step, each checked by the kernel. No conditions. -/
set_option linter.unusedVariables false
namespace Go.Proofs.YtipbbnoepphdkaaGreat
open Go Go.CM
end Go.Proofs.YtipbbnoepphdkaaGreat

/- What some functions' texts ask for, step by step, each checked by the kernel. No conditions. -/
set_option linter.unusedVariables false
namespace Go.Proofs.YtipbbnoepphdkaaGreat
open Go Go.CM
theorem refCas_W (con : CallT) (p a x y : Nat) (t : Int) (H : CH) (K : KP) : funW Tryz.prog con 133 [ptr p 0, i64 t, u64 (a), u64 (x), u64 (y)] H K =
 (Ld H p 0 fun v1 =>
 AsLen v1 fun l2 =>
 Must (cvOk .i64 (Int.ofNat l2)) (
 Cd (ltN a (wrapN .u64 (Int.ofNat l2))) (
 Ld H p 0 fun v3 =>
 AsSlc v3 fun p4 o5 l6 c7 =>
 Must (ltN a l6) (
 Ld H p4 (Nat.add o5 (Nat.mul a 1)) fun v8 =>
 AsNat .u64 v8 fun n9 =>
 Cd (eqN n9 x) (
 Call1 Tryz.prog con 66 [(ptr p 0), (u64 (a)), (u64 (y))] H fun v10 H11 =>
 Call1 Tryz.prog con 52 [(ptr p 0), (.agg ⟨[(i64 t), (u8 (3)), (u64 (a)), (u64 (x)), (u64 (y)), (snil), (u64 (0)), (.bool (eqN n9 x))]⟩)] H11 fun v12 H13 =>
 K (.bool (eqN n9 x)) H13) (
 Call1 Tryz.prog con 52 [(ptr p 0), (.agg ⟨[(i64 t), (u8 (3)), (u64 (a)), (u64 (x)), (u64 (y)), (snil), (u64 (0)), (.bool (eqN n9 x))]⟩)] H fun v14 H15 =>
 K (.bool (eqN n9 x)) H15))) (
 Call1 Tryz.prog con 52 [(ptr p 0), (.agg ⟨[(i64 t), (u8 (3)), (u64 (a)), (u64 (x)), (u64 (y)), (snil), (u64 (0)), (.bool false)]⟩)] H fun v16 H17 =>
 K (.bool false) H17))) := by kernel_rfl
end Go.Proofs.YtipbbnoepphdkaaGreat

/- What some functions' texts ask for, step by step, each checked by the kernel. No conditions. -/
set_option linter.unusedVariables false
namespace Go.Proofs.YtipbbnoepphdkaaGreat
open Go Go.CM
theorem wordPack_W (con : CallT) (c0 c1 c2 : Nat) (H : CH) (K : KP) : funW Tryz.prog con 150 [.agg ⟨[u8 c0, u64 c1, u64 c2]⟩] H K =
 (Nw H (mkRow 202 0 [(u8 (c0)), (u64 (c1)), (u64 (c2))]) fun p1 H2 =>
 Ld H2 p1 0 fun v3 =>
 AsNat .u8 v3 fun n4 =>
 Cd (ltN 3 n4) (
 K (.tuple ⟨[(u64 (0)), (iN (2))]⟩) H2) (
 Ld H2 p1 1 fun v5 =>
 AsNat .u64 v5 fun n6 =>
 Cd (leN 1048576 n6) (
 K (.tuple ⟨[(u64 (0)), (iN (2))]⟩) H2) (
 Ld H2 p1 2 fun v7 =>
 AsNat .u64 v7 fun n8 =>
 Cd (ltN 1099511627776 n8) (
 K (.tuple ⟨[(u64 (0)), (iN (2))]⟩) H2) (
 Ld H2 p1 0 fun v9 =>
 AsNat .u8 v9 fun n10 =>
 Must (ltN n10 256) (
 Ld H2 p1 1 fun v11 =>
 AsNat .u64 v11 fun n12 =>
 CInt .or .u64 (Int.ofNat n10) (Int.ofNat (Nat.mod (Nat.mul n12 4) 18446744073709551616)) fun v13 =>
 Ld H2 p1 2 fun v14 =>
 AsNat .u64 v14 fun n15 =>
 AsNat .u64 v13 fun n16 =>
 CInt .or .u64 (Int.ofNat n16) (Int.ofNat (Nat.mod (Nat.mul n15 4194304) 18446744073709551616)) fun v17 =>
 K (.tuple ⟨[v17, (iN (0))]⟩) H2))))) := by kernel_rfl
theorem wordUnpack_W (con : CallT) (w : Nat) (H : CH) (K : KP) : funW Tryz.prog con 82 [u64 w] H K =
 (Nw H (mkRow 202 0 [(u8 (0)), (u64 (0)), (u64 (0))]) fun p1 H2 =>
 CInt .and .u64 (Int.ofNat w) (Int.ofNat 3) fun v3 =>
 AsNat .u64 v3 fun n4 =>
 CInt .and .u64 (Int.ofNat (Nat.div w 4)) (Int.ofNat 1048575) fun v5 =>
 Sc v5 (St H2 p1 0 [(u8 ((Nat.mod n4 256))), v5, (u64 ((Nat.div w 4194304)))] fun H6 =>
 Ld H6 p1 0 fun v7 =>
 Ld H6 p1 1 fun v8 =>
 Ld H6 p1 2 fun v9 =>
 K (.agg ⟨[v7, v8, v9]⟩) H6)) := by kernel_rfl
theorem wordHandle_W (con : CallT) (z : Int) (g : Nat) (H : CH) (K : KP) : funW Tryz.prog con 136 [i64 z, u64 g] H K =
 (Cd (ltZ z (Int.ofNat 0)) (
 K (.tuple ⟨[(u64 (0)), (iN (2))]⟩) H) (
 Cd (leZ (Int.ofNat 256) z) (
 K (.tuple ⟨[(u64 (0)), (iN (2))]⟩) H) (
 Cd (leN 1048576 g) (
 K (.tuple ⟨[(u64 (0)), (iN (2))]⟩) H) (
 Must (cvOk .i64 z) (
 K (.tuple ⟨[(u64 ((Nat.mod (Nat.add (Nat.mod (Nat.add (wrapN .u64 z) 1) 18446744073709551616) (Nat.mod (Nat.mul 65536 g) 18446744073709551616)) 18446744073709551616))), (iN (0))]⟩) H))))) := by kernel_rfl
theorem wordUnhandle_W (con : CallT) (h : Nat) (H : CH) (K : KP) : funW Tryz.prog con 131 [u64 h] H K =
 (InR (Int.sub (IntKind.wrap .i64 (Int.ofNat (Nat.mod h 65536))) (Int.ofNat 1)) (
 Call1 Tryz.prog con 136 [(i64 (Int.sub (IntKind.wrap .i64 (Int.ofNat (Nat.mod h 65536))) (Int.ofNat 1))), (u64 ((Nat.mod (Nat.div h 65536) 18446744073709551616)))] H fun v1 H2 =>
 AsTup v1 fun l3 =>
 Nth l3 0 fun v4 =>
 AsTup v1 fun l5 =>
 Nth l5 1 fun v6 =>
 AsInt .i64 v6 fun z7 =>
 Cd (notB (eqZ z7 (Int.ofNat 0))) (
 K (.tuple ⟨[(iN (0)), (u64 (0)), (iN (33))]⟩) H2) (
 AsNat .u64 v4 fun n8 =>
 Cd (notB (eqN n8 h)) (
 K (.tuple ⟨[(iN (0)), (u64 (0)), (iN (33))]⟩) H2) (
 K (.tuple ⟨[(i64 (Int.sub (IntKind.wrap .i64 (Int.ofNat (Nat.mod h 65536))) (Int.ofNat 1))), (u64 ((Nat.mod (Nat.div h 65536) 18446744073709551616))), (iN (0))]⟩) H2)))) := by kernel_rfl
theorem annCount_W (con : CallT) (xa xb : Nat) (z : Int) (xd : Nat) (H : CH) (K : KP) : funW Tryz.prog con 81 [.agg ⟨[u64 xa, u64 xb, i64 z, u64 xd]⟩] H K =
 (Nw H (mkRow 61 0 [(u64 (xa)), (u64 (xb)), (i64 z), (u64 (xd))]) fun p1 H2 =>
 Ld H2 p1 2 fun v3 =>
 AsInt .i64 v3 fun z4 =>
 Cd (ltZ (Int.ofNat 256) z4) (
 K (iN (256)) H2) (
 Cd (ltZ (Int.ofNat 0) z4) (
 K (i64 z4) H2) (
 K (iN (0)) H2))) := by kernel_rfl
theorem annCell_W (con : CallT) (xa xb : Nat) (z : Int) (xd : Nat) (i : Int) (H : CH) (K : KP) : funW Tryz.prog con 83 [.agg ⟨[u64 xa, u64 xb, i64 z, u64 xd]⟩, i64 i] H K =
 (Nw H (mkRow 61 0 [(u64 (xa)), (u64 (xb)), (i64 z), (u64 (xd))]) fun p1 H2 =>
 Ld H2 p1 1 fun v3 =>
 Must (cvOk .i64 i) (
 AsNat .u64 v3 fun n4 =>
 K (u64 ((Nat.mod (Nat.add n4 (wrapN .u64 i)) 18446744073709551616))) H2)) := by kernel_rfl
theorem annPack_W (con : CallT) (c0 c1 c2 : Nat) (H : CH) (K : KP) : funW Tryz.prog con 130 [.agg ⟨[u8 c0, u64 c1, u64 c2]⟩] H K =
 (Nw H (mkRow 202 0 [(u8 (c0)), (u64 (c1)), (u64 (c2))]) fun p1 H2 =>
 Ld H2 p1 0 fun v3 =>
 Ld H2 p1 1 fun v4 =>
 AsNat .u64 v4 fun n5 =>
 Sc v3 (Call1 Tryz.prog con 150 [(.agg ⟨[v3, (u64 ((Nat.mod n5 1048576))), (u64 (0))]⟩)] H2 fun v6 H7 =>
 AsTup v6 fun l8 =>
 Nth l8 0 fun v9 =>
 AsTup v6 fun l10 =>
 Nth l10 1 fun v11 =>
 Call1 Tryz.prog con 150 [(.agg ⟨[(u8 (0)), (u64 (0)), (u64 (1))]⟩)] H7 fun v12 H13 =>
 AsTup v12 fun l14 =>
 Nth l14 0 fun v15 =>
 AsTup v12 fun l16 =>
 Nth l16 1 fun v17 =>
 Ld H13 p1 2 fun v18 =>
 AsNat .u64 v15 fun n19 =>
 AsNat .u64 v18 fun n20 =>
 AsNat .u64 v9 fun n21 =>
 K (u64 ((Nat.mod (Nat.add n21 (Nat.mod (Nat.mul n19 n20) 18446744073709551616)) 18446744073709551616))) H13)) := by kernel_rfl
theorem annSteps_W (con : CallT)  (H : CH) (K : KP) : funW Tryz.prog con 124 [] H K =
 (Nw H (mkRow 256 0 [.nilFunc, .nilFunc, .nilFunc, .nilFunc, .nilFunc, .nilFunc, .nilFunc, .nilFunc]) fun p1 H2 =>
 St H2 p1 0 [(.func (.func 140) ⟨[]⟩ ⟨[]⟩), (.func (.func 141) ⟨[]⟩ ⟨[]⟩), (.func (.func 142) ⟨[]⟩ ⟨[]⟩), (.func (.func 143) ⟨[]⟩ ⟨[]⟩), (.func (.func 144) ⟨[]⟩ ⟨[]⟩), (.func (.func 145) ⟨[]⟩ ⟨[]⟩), (.func (.func 146) ⟨[]⟩ ⟨[]⟩), (.func (.func 147) ⟨[]⟩ ⟨[]⟩)] fun H3 =>
 Ld H3 p1 0 fun v4 =>
 Ld H3 p1 1 fun v5 =>
 Ld H3 p1 2 fun v6 =>
 Ld H3 p1 3 fun v7 =>
 Ld H3 p1 4 fun v8 =>
 Ld H3 p1 5 fun v9 =>
 Ld H3 p1 6 fun v10 =>
 Ld H3 p1 7 fun v11 =>
 K (.agg ⟨[v4, v5, v6, v7, v8, v9, v10, v11]⟩) H3) := by kernel_rfl
theorem newSnap_W (con : CallT) (xa xb : Nat) (z : Int) (xd : Nat) (H : CH) (K : KP) : funW Tryz.prog con 67 [.agg ⟨[u64 xa, u64 xb, i64 z, u64 xd]⟩] H K =
 (Nw H (mkRow 61 0 [(u64 (xa)), (u64 (xb)), (i64 z), (u64 (xd))]) fun p1 H2 =>
 Ld H2 p1 0 fun v3 =>
 Ld H2 p1 1 fun v4 =>
 Ld H2 p1 2 fun v5 =>
 Ld H2 p1 3 fun v6 =>
 Nw H2 (mkRow 252 0 [v3, v4, v5, v6, (iN (0)), (iN (0)), (u64 (0)), (u64 (0)), (u64 (0)), (u8 (0)), (u64 (0)), (u64 (0)), (iN (0))]) fun p7 H8 =>
 K (ptr p7 0) H8) := by kernel_rfl
theorem snapStep_W (con : CallT) (p q : Nat) (H : CH) (K : KP) : funW Tryz.prog con 69 [ptr p 0, ptr q 0] H K =
 (Ld H p 4 fun v1 =>
 AsInt .i64 v1 fun z2 =>
 Cd (notB (eqZ z2 (Int.ofNat 8))) (
 Call1 Tryz.prog con 124 [] H fun v3 H4 =>
 Ld H4 p 4 fun v5 =>
 OpN Tryz.prog H4 (upd (upd (upd (upd (upd (upd (upd (upd (upd (upd (upd (upd (upd (upd (upd (upd (fun _ => undV) 1 (ptr q 0)) 0 (ptr p 0)) 4 (.bool false)) 5 (ptr p 0)) 6 (.bool false)) 7 (ptr p 0)) 8 (ptr p 0)) 9 (ptr p 4)) 10 v1) 11 (.bool (notB (eqZ z2 (Int.ofNat 8))))) 12 (ptr p 0)) 13 v3) 14 (ptr p 0)) 15 (ptr p 0)) 16 (ptr p 4)) 17 v5) (.index 256 (.tmp 13) (.tmp 17)) fun v6 H7 =>
 AsFn v6 fun g8 l9 l10 =>
 Must (isFunT Tryz.prog g8) (
 Call1 Tryz.prog con g8 (appF l9 ((ptr p 0) :: (ptr q 0) :: l10)) H7 fun v11 H12 =>
 Sc v11 (St H12 p 4 [v11] fun H13 =>
 Ld H p 4 fun v14 =>
 Same v5 v14 (
 Ld H7 p 4 fun v15 =>
 Same v5 v15 (
 Ld H13 p 4 fun v16 =>
 AsInt .i64 v16 fun z17 =>
 K (.bool (eqZ z17 (Int.ofNat 8))) H13))))) (
 Ld H p 4 fun v18 =>
 AsInt .i64 v18 fun z19 =>
 K (.bool (eqZ z19 (Int.ofNat 8))) H)) := by kernel_rfl
theorem snapSlot_W (con : CallT) (p : Nat) (H : CH) (K : KP) : funW Tryz.prog con 152 [ptr p 0] H K =
 (Ld H p 0 fun v1 =>
 Ld H p 1 fun v2 =>
 Ld H p 2 fun v3 =>
 Ld H p 3 fun v4 =>
 Ld H p 5 fun v5 =>
 Call1 Tryz.prog con 83 [(.agg ⟨[v1, v2, v3, v4]⟩), v5] H fun v6 H7 =>
 K v6 H7) := by kernel_rfl
theorem snapOn_W (con : CallT) (p : Nat) (H : CH) (K : KP) : funW Tryz.prog con 153 [ptr p 0] H K =
 (Ld H p 5 fun v1 =>
 AsInt .i64 v1 fun z2 =>
 InR (Int.add z2 (Int.ofNat 1)) (
 St H p 5 [(i64 (Int.add z2 (Int.ofNat 1)))] fun H3 =>
 Ld H3 p 5 fun v4 =>
 Ld H3 p 0 fun v5 =>
 Ld H3 p 1 fun v6 =>
 Ld H3 p 2 fun v7 =>
 Ld H3 p 3 fun v8 =>
 Call1 Tryz.prog con 81 [(.agg ⟨[v5, v6, v7, v8]⟩)] H3 fun v9 H10 =>
 AsInt .i64 v4 fun z11 =>
 AsInt .i64 v9 fun z12 =>
 Ld H3 p 5 fun v13 =>
 Same v4 v13 (
 Ld H10 p 5 fun v14 =>
 Same v4 v14 (
 Cd (ltZ z11 z12) (
 K (iN (0)) H10) (
 St H10 p 12 [(iN (32))] fun H15 =>
 K (iN (8)) H15))))) := by kernel_rfl
theorem snapSeek_W (con : CallT) (p q : Nat) (H : CH) (K : KP) : funW Tryz.prog con 140 [ptr p 0, ptr q 0] H K =
 (Ld H p 0 fun v1 =>
 Ld H p 1 fun v2 =>
 Ld H p 2 fun v3 =>
 Ld H p 3 fun v4 =>
 Call1 Tryz.prog con 81 [(.agg ⟨[v1, v2, v3, v4]⟩)] H fun v5 H6 =>
 AsInt .i64 v5 fun z7 =>
 Cd (eqZ z7 (Int.ofNat 0)) (
 St H6 p 12 [(iN (32))] fun H8 =>
 K (iN (8)) H8) (
 Call1 Tryz.prog con 152 [(ptr p 0)] H6 fun v9 H10 =>
 Call1 Tryz.prog con 125 [(ptr q 0), v9] H10 fun v11 H12 =>
 Sc v11 (St H12 p 6 [v11] fun H13 =>
 Ld H13 p 6 fun v14 =>
 Call1 Tryz.prog con 82 [v14] H13 fun v15 H16 =>
 Nw H16 (mkRow 202 0 [(u8 (0)), (u64 (0)), (u64 (0))]) fun p17 H18 =>
 AsAgg v15 fun l19 =>
 Must (eqN (lenF l19) 3) (
 Nth l19 0 fun v20 =>
 Nth l19 1 fun v21 =>
 Nth l19 2 fun v22 =>
 St H18 p17 0 [v20, v21, v22] fun H23 =>
 Ld H23 p17 0 fun v24 =>
 AsNat .u8 v24 fun n25 =>
 Cd (notB (eqN n25 0)) (
 Call1 Tryz.prog con 153 [(ptr p 0)] H23 fun v26 H27 =>
 K v26 H27) (
 Ld H23 p17 1 fun v28 =>
 AsNat .u64 v28 fun n29 =>
 Cd (leN 1048575 n29) (
 Call1 Tryz.prog con 153 [(ptr p 0)] H23 fun v30 H31 =>
 K v30 H31) (
 Ld H23 p17 1 fun v32 =>
 Sc v32 (St H23 p 7 [v32] fun H33 =>
 K (iN (1)) H33))))))) := by kernel_rfl
theorem snapClaim_W (con : CallT) (p q : Nat) (H : CH) (K : KP) : funW Tryz.prog con 141 [ptr p 0, ptr q 0] H K =
 (Call1 Tryz.prog con 152 [(ptr p 0)] H fun v1 H2 =>
 Ld H2 p 6 fun v3 =>
 Ld H2 p 7 fun v4 =>
 Sc v4 (Call1 Tryz.prog con 130 [(.agg ⟨[(u8 (1)), v4, (u64 (0))]⟩)] H2 fun v5 H6 =>
 Call1 Tryz.prog con 129 [(ptr q 0), v1, v3, v5] H6 fun v7 H8 =>
 AsBool v7 fun b9 =>
 Ld H p 7 fun v10 =>
 Same v4 v10 (
 Ld H2 p 7 fun v11 =>
 Same v4 v11 (
 Ld H p 6 fun v12 =>
 Same v3 v12 (
 Ld H2 p 6 fun v13 =>
 Same v3 v13 (
 Ld H6 p 6 fun v14 =>
 Same v3 v14 (
 Cd (notB b9) (
 Call1 Tryz.prog con 153 [(ptr p 0)] H8 fun v15 H16 =>
 K v15 H16) (
 K (iN (2)) H8)))))))) := by kernel_rfl
theorem snapLook_W (con : CallT) (p q : Nat) (H : CH) (K : KP) : funW Tryz.prog con 142 [ptr p 0, ptr q 0] H K =
 (Ld H p 0 fun v1 =>
 Call1 Tryz.prog con 125 [(ptr q 0), v1] H fun v2 H3 =>
 Sc v2 (St H3 p 8 [v2] fun H4 =>
 K (iN (3)) H4)) := by kernel_rfl
theorem snapTell_W (con : CallT) (p q : Nat) (H : CH) (K : KP) : funW Tryz.prog con 143 [ptr p 0, ptr q 0] H K =
 (Call1 Tryz.prog con 152 [(ptr p 0)] H fun v1 H2 =>
 Ld H2 p 7 fun v3 =>
 Ld H2 p 8 fun v4 =>
 Sc v3 (Sc v4 (Call1 Tryz.prog con 130 [(.agg ⟨[(u8 (2)), v3, v4]⟩)] H2 fun v5 H6 =>
 Call1 Tryz.prog con 20 [(ptr q 0), v1, v5] H6 fun v7 H8 =>
 Ld H p 8 fun v9 =>
 Same v4 v9 (
 Ld H2 p 8 fun v10 =>
 Same v4 v10 (
 Ld H p 7 fun v11 =>
 Same v3 v11 (
 Ld H2 p 7 fun v12 =>
 Same v3 v12 (
 K (iN (4)) H8))))))) := by kernel_rfl
theorem snapClock_W (con : CallT) (p q : Nat) (H : CH) (K : KP) : funW Tryz.prog con 144 [ptr p 0, ptr q 0] H K =
 (Ld H p 0 fun v1 =>
 Call1 Tryz.prog con 125 [(ptr q 0), v1] H fun v2 H3 =>
 Sc v2 (St H3 p 8 [v2] fun H4 =>
 Ld H4 p 8 fun v5 =>
 Ld H4 p 3 fun v6 =>
 AsNat .u64 v5 fun n7 =>
 AsNat .u64 v6 fun n8 =>
 Cd (leN n8 n7) (
 K (iN (7)) H4) (
 K (iN (5)) H4))) := by kernel_rfl
theorem snapTurn_W (con : CallT) (p q : Nat) (H : CH) (K : KP) : funW Tryz.prog con 145 [ptr p 0, ptr q 0] H K =
 (Ld H p 0 fun v1 =>
 Ld H p 8 fun v2 =>
 Ld H p 8 fun v3 =>
 AsNat .u64 v3 fun n4 =>
 Call1 Tryz.prog con 129 [(ptr q 0), v1, v2, (u64 ((Nat.mod (Nat.add n4 1) 18446744073709551616)))] H fun v5 H6 =>
 K (iN (6)) H6) := by kernel_rfl
theorem snapHold_W (con : CallT) (p q : Nat) (H : CH) (K : KP) : funW Tryz.prog con 146 [ptr p 0, ptr q 0] H K =
 (Ld H p 7 fun v1 =>
 Ld H p 8 fun v2 =>
 Sc v1 (Sc v2 (St H p 9 [(u8 (3)), v1, v2] fun H3 =>
 Call1 Tryz.prog con 152 [(ptr p 0)] H3 fun v4 H5 =>
 Ld H5 p 9 fun v6 =>
 Ld H5 p 10 fun v7 =>
 Ld H5 p 11 fun v8 =>
 Call1 Tryz.prog con 130 [(.agg ⟨[v6, v7, v8]⟩)] H5 fun v9 H10 =>
 Call1 Tryz.prog con 20 [(ptr q 0), v4, v9] H10 fun v11 H12 =>
 Ld H3 p 9 fun v13 =>
 Ld H3 p 10 fun v14 =>
 Ld H3 p 11 fun v15 =>
 Same (.agg ⟨[v6, v7, v8]⟩) (.agg ⟨[v13, v14, v15]⟩) (
 Ld H5 p 9 fun v16 =>
 Ld H5 p 10 fun v17 =>
 Ld H5 p 11 fun v18 =>
 Same (.agg ⟨[v6, v7, v8]⟩) (.agg ⟨[v16, v17, v18]⟩) (
 K (iN (8)) H12))))) := by kernel_rfl
theorem snapGive_W (con : CallT) (p q : Nat) (H : CH) (K : KP) : funW Tryz.prog con 147 [ptr p 0, ptr q 0] H K =
 (Call1 Tryz.prog con 152 [(ptr p 0)] H fun v1 H2 =>
 Ld H2 p 7 fun v3 =>
 Sc v3 (Call1 Tryz.prog con 130 [(.agg ⟨[(u8 (0)), v3, (u64 (0))]⟩)] H2 fun v4 H5 =>
 Call1 Tryz.prog con 20 [(ptr q 0), v1, v4] H5 fun v6 H7 =>
 Ld H p 7 fun v8 =>
 Same v3 v8 (
 Ld H2 p 7 fun v9 =>
 Same v3 v9 (
 St H7 p 12 [(iN (31))] fun H10 =>
 K (iN (8)) H10)))) := by kernel_rfl
theorem snapHandle_W (con : CallT) (p : Nat) (H : CH) (K : KP) : funW Tryz.prog con 76 [ptr p 0] H K =
 (Ld H p 9 fun v1 =>
 Ld H p 10 fun v2 =>
 Ld H p 11 fun v3 =>
 OpN Tryz.prog H (upd (upd (upd (upd (upd (upd (upd (upd (upd (upd (upd (upd (upd (upd (upd (upd (fun _ => undV) 0 (ptr p 0)) 2 (u64 (0))) 5 (ptr p 0)) 6 (.bool false)) 7 (.bool false)) 7 (.bool false)) 8 (ptr p 0)) 7 (.bool false)) 9 (ptr p 0)) 7 (.bool false)) 10 (ptr p 9)) 7 (.bool false)) 11 (.agg ⟨[v1, v2, v3]⟩)) 7 (.bool false)) 12 (.agg ⟨[(u8 (0)), (u64 (0)), (u64 (0))]⟩)) 7 (.bool false)) (.binOp .eql 202 (.tmp 11) (.tmp 12) 202) fun v4 H5 =>
 AsBool v4 fun b6 =>
 Cd b6 (
 K (u64 (0)) H5) (
 Ld H5 p 5 fun v7 =>
 Ld H5 p 7 fun v8 =>
 Call1 Tryz.prog con 136 [v7, v8] H5 fun v9 H10 =>
 AsTup v9 fun l11 =>
 Nth l11 0 fun v12 =>
 AsTup v9 fun l13 =>
 Nth l13 1 fun v14 =>
 K v12 H10)) := by kernel_rfl
theorem snapStamp_W (con : CallT) (p : Nat) (H : CH) (K : KP) : funW Tryz.prog con 77 [ptr p 0] H K =
 (Ld H p 11 fun v1 =>
 K v1 H) := by kernel_rfl
theorem snapErrno_W (con : CallT) (p : Nat) (H : CH) (K : KP) : funW Tryz.prog con 78 [ptr p 0] H K =
 (Ld H p 12 fun v1 =>
 K v1 H) := by kernel_rfl
theorem newLet_W (con : CallT) (xa xb : Nat) (z : Int) (xd h : Nat) (H : CH) (K : KP) : funW Tryz.prog con 68 [.agg ⟨[u64 xa, u64 xb, i64 z, u64 xd]⟩, u64 h] H K =
 (Nw H (mkRow 61 0 [(u64 (xa)), (u64 (xb)), (i64 z), (u64 (xd))]) fun p1 H2 =>
 Ld H2 p1 0 fun v3 =>
 Ld H2 p1 1 fun v4 =>
 Ld H2 p1 2 fun v5 =>
 Ld H2 p1 3 fun v6 =>
 Nw H2 (mkRow 254 0 [v3, v4, v5, v6, (u64 (h)), (u64 (0)), (u64 (0)), (u64 (0)), (.bool false), (.bool false), (iN (0))]) fun p7 H8 =>
 K (ptr p7 0) H8) := by kernel_rfl
theorem letEnd_W (con : CallT) (p : Nat) (b : Bool) (H : CH) (K : KP) : funW Tryz.prog con 128 [ptr p 0, .bool b] H K =
 (St H p 9 [(.bool true)] fun H1 =>
 Cd (notB b) (
 St H1 p 10 [(iN (33))] fun H2 =>
 K (.bool true) H2) (
 K (.bool true) H1)) := by kernel_rfl
theorem letStep_W (con : CallT) (p q : Nat) (H : CH) (K : KP) : funW Tryz.prog con 71 [ptr p 0, ptr q 0] H K =
 (Ld H p 9 fun v1 =>
 AsBool v1 fun b2 =>
 Cd b2 (
 K (.bool true) H) (
 Ld H p 8 fun v3 =>
 AsBool v3 fun b4 =>
 Cd b4 (
 Ld H p 5 fun v5 =>
 Ld H p 6 fun v6 =>
 Ld H p 7 fun v7 =>
 AsNat .u64 v7 fun n8 =>
 Call1 Tryz.prog con 130 [(.agg ⟨[(u8 (0)), (u64 ((Nat.mod (Nat.add n8 1) 18446744073709551616))), (u64 (0))]⟩)] H fun v9 H10 =>
 Call1 Tryz.prog con 129 [(ptr q 0), v5, v6, v9] H10 fun v11 H12 =>
 Call1 Tryz.prog con 128 [(ptr p 0), v11] H12 fun v13 H14 =>
 Ld H p 6 fun v15 =>
 Same v6 v15 (
 Ld H10 p 6 fun v16 =>
 Same v6 v16 (
 Ld H p 5 fun v17 =>
 Same v5 v17 (
 Ld H10 p 5 fun v18 =>
 Same v5 v18 (
 K v13 H14))))) (
 Ld H p 4 fun v19 =>
 Call1 Tryz.prog con 131 [v19] H fun v20 H21 =>
 AsTup v20 fun l22 =>
 Nth l22 0 fun v23 =>
 AsTup v20 fun l24 =>
 Nth l24 1 fun v25 =>
 AsTup v20 fun l26 =>
 Nth l26 2 fun v27 =>
 AsInt .i64 v27 fun z28 =>
 Cd (notB (eqZ z28 (Int.ofNat 0))) (
 Call1 Tryz.prog con 128 [(ptr p 0), (.bool false)] H21 fun v29 H30 =>
 K v29 H30) (
 Ld H21 p 0 fun v31 =>
 Ld H21 p 1 fun v32 =>
 Ld H21 p 2 fun v33 =>
 Ld H21 p 3 fun v34 =>
 Call1 Tryz.prog con 81 [(.agg ⟨[v31, v32, v33, v34]⟩)] H21 fun v35 H36 =>
 AsInt .i64 v23 fun z37 =>
 AsInt .i64 v35 fun z38 =>
 Cd (leZ z38 z37) (
 Call1 Tryz.prog con 128 [(ptr p 0), (.bool false)] H36 fun v39 H40 =>
 K v39 H40) (
 Ld H36 p 0 fun v41 =>
 Ld H36 p 1 fun v42 =>
 Ld H36 p 2 fun v43 =>
 Ld H36 p 3 fun v44 =>
 Call1 Tryz.prog con 83 [(.agg ⟨[v41, v42, v43, v44]⟩), v23] H36 fun v45 H46 =>
 St H46 p 8 [(.bool true)] fun H47 =>
 Sc v25 (St H47 p 7 [v25] fun H48 =>
 Sc v45 (St H48 p 5 [v45] fun H49 =>
 Ld H49 p 5 fun v50 =>
 Call1 Tryz.prog con 125 [(ptr q 0), v50] H49 fun v51 H52 =>
 Sc v51 (St H52 p 6 [v51] fun H53 =>
 Ld H53 p 6 fun v54 =>
 Call1 Tryz.prog con 82 [v54] H53 fun v55 H56 =>
 Nw H56 (mkRow 202 0 [(u8 (0)), (u64 (0)), (u64 (0))]) fun p57 H58 =>
 AsAgg v55 fun l59 =>
 Must (eqN (lenF l59) 3) (
 Nth l59 0 fun v60 =>
 Nth l59 1 fun v61 =>
 Nth l59 2 fun v62 =>
 St H58 p57 0 [v60, v61, v62] fun H63 =>
 Ld H63 p57 0 fun v64 =>
 Ld H63 p57 1 fun v65 =>
 Ld H63 p57 2 fun v66 =>
 Ld H63 p57 2 fun v67 =>
 Sc v25 (Sc v67 (OpN Tryz.prog H63 (upd (upd (upd (upd (upd (upd (upd (upd (upd (upd (upd (upd (upd (upd (upd (upd (upd (upd (upd (upd (upd (upd (upd (upd (upd (upd (upd (upd (upd (upd (upd (upd (upd (upd (upd (upd (upd (upd (upd (upd (upd (upd (upd (upd (upd (upd (upd (upd (upd (upd (upd (upd (upd (upd (upd (upd (upd (upd (upd (upd (upd (upd (upd (upd (upd (upd (upd (upd (upd (upd (upd (upd (upd (upd (upd (upd (upd (upd (upd (upd (upd (upd (upd (upd (upd (fun _ => undV) 1 (ptr q 0)) 0 (ptr p 0)) 4 (.bool false)) 9 (ptr p 0)) 10 (.bool false)) 11 (.bool false)) 11 (.bool false)) 12 (ptr p 0)) 11 (.bool false)) 13 (ptr p 0)) 11 (.bool false)) 14 (ptr p 9)) 11 (.bool false)) 15 v1) 16 v1) 17 (ptr p 0)) 18 (ptr p 0)) 19 (ptr p 8)) 20 v3) 41 (ptr p 0)) 42 (ptr p 0)) 43 (ptr p 4)) 44 v19) 45 v20) 40 v20) 46 v23) 47 v25) 48 v27) 5 v23) 6 v25) 7 v27) 49 v27) 50 (.bool (notB (eqZ z28 (Int.ofNat 0))))) 51 (.bool (notB (eqZ z28 (Int.ofNat 0))))) 51 (.bool false)) 52 v23) 51 (.bool false)) 53 (ptr p 0)) 51 (.bool false)) 54 (ptr p 0)) 51 (.bool false)) 55 (ptr p 0)) 51 (.bool false)) 56 (.agg ⟨[v31, v32, v33, v34]⟩)) 51 (.bool false)) 57 v35) 51 (.bool false)) 58 (.bool (leZ z38 z37))) 59 (.bool (leZ z38 z37))) 62 (ptr p 0)) 63 (ptr p 0)) 64 (ptr p 0)) 65 v25) 66 (ptr p 0)) 67 (ptr p 0)) 68 (ptr p 0)) 69 (.agg ⟨[v41, v42, v43, v44]⟩)) 70 v23) 71 v45) 72 (ptr p 0)) 73 (ptr p 8)) 74 (ptr p 0)) 75 (ptr p 7)) 76 (ptr p 0)) 77 (ptr p 5)) 78 (ptr p 0)) 79 (ptr q 0)) 80 (ptr p 0)) 81 (ptr p 0)) 82 (ptr p 5)) 83 v50) 84 v51) 85 (ptr p 0)) 86 (ptr p 6)) 87 (ptr p 0)) 88 (ptr p 0)) 89 (ptr p 6)) 90 v54) 91 v55) 8 (ptr p57 0)) 92 (.agg ⟨[v64, v65, v66]⟩)) 93 v25) 94 (ptr p57 2)) 95 v67) 96 (.agg ⟨[(u8 (3)), v25, v67]⟩)) (.binOp .neq 202 (.tmp 92) (.tmp 96) 202) fun v68 H69 =>
 AsBool v68 fun b70 =>
 Cd b70 (
 Call1 Tryz.prog con 128 [(ptr p 0), (.bool false)] H69 fun v71 H72 =>
 K v71 H72) (
 K (.bool false) H69)))))))))))) := by kernel_rfl
theorem letErrno_W (con : CallT) (p : Nat) (H : CH) (K : KP) : funW Tryz.prog con 79 [ptr p 0] H K =
 (Ld H p 10 fun v1 =>
 K v1 H) := by kernel_rfl
theorem newScan_W (con : CallT) (xa xb : Nat) (z : Int) (xd : Nat) (H : CH) (K : KP) : funW Tryz.prog con 37 [.agg ⟨[u64 xa, u64 xb, i64 z, u64 xd]⟩] H K =
 (Nw H (mkRow 61 0 [(u64 (xa)), (u64 (xb)), (i64 z), (u64 (xd))]) fun p1 H2 =>
 Ld H2 p1 0 fun v3 =>
 Ld H2 p1 1 fun v4 =>
 Ld H2 p1 2 fun v5 =>
 Ld H2 p1 3 fun v6 =>
 Nw H2 (mkRow 213 0 [v3, v4, v5, v6, (.bool false), (iN (0)), (u64 (0)), (snil), (snil), (.bool false)]) fun p7 H8 =>
 K (ptr p7 0) H8) := by kernel_rfl
theorem scanStep_W (con : CallT) (p q : Nat) (H : CH) (K : KP) : funW Tryz.prog con 70 [ptr p 0, ptr q 0] H K =
 (Ld H p 9 fun v1 =>
 AsBool v1 fun b2 =>
 Cd b2 (
 K (.bool true) H) (
 Ld H p 4 fun v3 =>
 AsBool v3 fun b4 =>
 Cd (notB b4) (
 St H p 4 [(.bool true)] fun H5 =>
 Ld H5 p 0 fun v6 =>
 Call1 Tryz.prog con 125 [(ptr q 0), v6] H5 fun v7 H8 =>
 Sc v7 (St H8 p 6 [v7] fun H9 =>
 Ld H9 p 5 fun v10 =>
 Ld H9 p 0 fun v11 =>
 Ld H9 p 1 fun v12 =>
 Ld H9 p 2 fun v13 =>
 Ld H9 p 3 fun v14 =>
 Call1 Tryz.prog con 81 [(.agg ⟨[v11, v12, v13, v14]⟩)] H9 fun v15 H16 =>
 AsInt .i64 v10 fun z17 =>
 AsInt .i64 v15 fun z18 =>
 Ld H9 p 5 fun v19 =>
 Same v10 v19 (
 Ld H16 p 5 fun v20 =>
 Same v10 v20 (
 Cd (ltZ z17 z18) (
 K (.bool false) H16) (
 St H16 p 9 [(.bool true)] fun H21 =>
 Ld H21 p 8 fun v22 =>
 Call1 Tryz.prog con 126 [v22] H21 fun v23 H24 =>
 Ld H24 p 8 fun v25 =>
 Call1 Tryz.prog con 127 [v25] H24 fun v26 H27 =>
 AsLen v26 fun l28 =>
 LoopC Tryz.prog con (lpAt Tryz.prog 70 0) (upd (upd (upd (upd (upd (upd (upd (upd (upd (upd (upd (upd (upd (upd (upd (upd (upd (upd (upd (upd (upd (upd (upd (upd (upd (upd (upd (upd (upd (upd (upd (upd (upd (upd (upd (upd (upd (upd (upd (upd (upd (upd (upd (upd (upd (upd (upd (upd (upd (upd (upd (upd (upd (upd (upd (upd (upd (upd (upd (fun _ => undV) 1 (ptr q 0)) 0 (ptr p 0)) 4 (.bool false)) 8 (ptr p 0)) 9 (.bool false)) 10 (.bool false)) 10 (.bool false)) 11 (ptr p 0)) 10 (.bool false)) 12 (ptr p 0)) 10 (.bool false)) 13 (ptr p 9)) 10 (.bool false)) 14 v1) 15 v1) 16 (ptr p 0)) 17 (ptr p 0)) 18 (ptr p 4)) 19 v3) 20 (.bool (notB b4))) 21 (ptr p 0)) 22 (ptr p 0)) 23 (ptr p 4)) 24 (ptr p 0)) 25 (ptr q 0)) 26 (ptr p 0)) 27 (ptr p 0)) 28 (ptr p 0)) 29 (ptr p 0)) 30 v6) 31 v7) 32 (ptr p 0)) 33 (ptr p 6)) 34 (ptr p 6)) 83 (ptr p 0)) 84 (ptr p 0)) 85 (ptr p 5)) 86 v10) 87 (ptr p 0)) 88 (ptr p 0)) 89 (ptr p 0)) 90 (.agg ⟨[v11, v12, v13, v14]⟩)) 91 v15) 92 (.bool (ltZ z17 z18))) 93 (ptr p 0)) 94 (ptr p 0)) 95 (ptr p 9)) 96 (ptr p 0)) 97 (ptr p 0)) 98 (ptr p 8)) 99 v22) 100 v23) 101 (ptr p 0)) 102 (ptr p 0)) 103 (ptr p 8)) 104 v25) 105 v26) 106 (iN (l28))) 107 (iN (0))) H27 (fun e => ceP e
 (fun a29 H30 =>
 K (.bool true) H30)
 (fun i31 => fun a29 H30 =>
 Cd (eqN i31 1) (
 K (.bool true) H30) (
 False))
 (fun a29 H30 =>
 K (a29 4) H30))))))) (
 Nw H (mkRow 202 0 [(u8 (0)), (u64 (0)), (u64 (0))]) fun p32 H33 =>
 Ld H33 p 0 fun v34 =>
 Ld H33 p 1 fun v35 =>
 Ld H33 p 2 fun v36 =>
 Ld H33 p 3 fun v37 =>
 Ld H33 p 5 fun v38 =>
 Call1 Tryz.prog con 83 [(.agg ⟨[v34, v35, v36, v37]⟩), v38] H33 fun v39 H40 =>
 Call1 Tryz.prog con 125 [(ptr q 0), v39] H40 fun v41 H42 =>
 Call1 Tryz.prog con 82 [v41] H42 fun v43 H44 =>
 AsAgg v43 fun l45 =>
 Must (eqN (lenF l45) 3) (
 Nth l45 0 fun v46 =>
 Nth l45 1 fun v47 =>
 Nth l45 2 fun v48 =>
 St H44 p32 0 [v46, v47, v48] fun H49 =>
 Ld H49 p32 0 fun v50 =>
 AsNat .u8 v50 fun n51 =>
 Cd (eqN n51 2) (
 Ld H49 p 6 fun v52 =>
 Ld H49 p32 2 fun v53 =>
 AsNat .u64 v52 fun n54 =>
 AsNat .u64 v53 fun n55 =>
 St H49 p 6 [(u64 ((Nat.min n54 n55)))] fun H56 =>
 Ld H56 p 5 fun v57 =>
 AsInt .i64 v57 fun z58 =>
 InR (Int.add z58 (Int.ofNat 1)) (
 St H56 p 5 [(i64 (Int.add z58 (Int.ofNat 1)))] fun H59 =>
 Ld H59 p 5 fun v60 =>
 Ld H59 p 0 fun v61 =>
 Ld H59 p 1 fun v62 =>
 Ld H59 p 2 fun v63 =>
 Ld H59 p 3 fun v64 =>
 Call1 Tryz.prog con 81 [(.agg ⟨[v61, v62, v63, v64]⟩)] H59 fun v65 H66 =>
 AsInt .i64 v60 fun z67 =>
 AsInt .i64 v65 fun z68 =>
 Ld H59 p 5 fun v69 =>
 Same v60 v69 (
 Ld H66 p 5 fun v70 =>
 Same v60 v70 (
 Cd (ltZ z67 z68) (
 K (.bool false) H66) (
 St H66 p 9 [(.bool true)] fun H71 =>
 Ld H71 p 8 fun v72 =>
 Call1 Tryz.prog con 126 [v72] H71 fun v73 H74 =>
 Ld H74 p 8 fun v75 =>
 Call1 Tryz.prog con 127 [v75] H74 fun v76 H77 =>
 AsLen v76 fun l78 =>
 LoopC Tryz.prog con (lpAt Tryz.prog 70 0) (upd (upd (upd (upd (upd (upd (upd (upd (upd (upd (upd (upd (upd (upd (upd (upd (upd (upd (upd (upd (upd (upd (upd (upd (upd (upd (upd (upd (upd (upd (upd (upd (upd (upd (upd (upd (upd (upd (upd (upd (upd (upd (upd (upd (upd (upd (upd (upd (upd (upd (upd (upd (upd (upd (upd (upd (upd (upd (upd (upd (upd (upd (upd (upd (upd (upd (upd (upd (upd (upd (upd (upd (upd (upd (upd (upd (upd (upd (upd (upd (upd (fun _ => undV) 1 (ptr q 0)) 0 (ptr p 0)) 4 (.bool false)) 8 (ptr p 0)) 9 (.bool false)) 10 (.bool false)) 10 (.bool false)) 11 (ptr p 0)) 10 (.bool false)) 12 (ptr p 0)) 10 (.bool false)) 13 (ptr p 9)) 10 (.bool false)) 14 v1) 15 v1) 16 (ptr p 0)) 17 (ptr p 0)) 18 (ptr p 4)) 19 v3) 20 (.bool (notB b4))) 5 (ptr p32 0)) 35 (ptr q 0)) 36 (ptr p 0)) 37 (ptr p 0)) 38 (ptr p 0)) 39 (.agg ⟨[v34, v35, v36, v37]⟩)) 40 (ptr p 0)) 41 (ptr p 0)) 42 (ptr p 5)) 43 v38) 44 v39) 45 v41) 46 v43) 47 (ptr p32 0)) 48 v50) 50 (.bool (eqN n51 2))) 49 (.bool (eqN n51 2))) 51 (ptr p 0)) 52 (ptr p 0)) 53 (ptr p 0)) 54 (ptr p 6)) 55 (ptr p 6)) 56 v52) 57 (ptr p32 2)) 58 v53) 59 (u64 ((Nat.min n54 n55)))) 60 (ptr p 0)) 61 (ptr p 6)) 62 (ptr p 6)) 76 (ptr p 0)) 77 (ptr p 0)) 78 (ptr p 5)) 79 v57) 80 (i64 (Int.add z58 (Int.ofNat 1)))) 81 (ptr p 0)) 82 (ptr p 5)) 83 (ptr p 0)) 84 (ptr p 0)) 85 (ptr p 5)) 86 v60) 87 (ptr p 0)) 88 (ptr p 0)) 89 (ptr p 0)) 90 (.agg ⟨[v61, v62, v63, v64]⟩)) 91 v65) 92 (.bool (ltZ z67 z68))) 93 (ptr p 0)) 94 (ptr p 0)) 95 (ptr p 9)) 96 (ptr p 0)) 97 (ptr p 0)) 98 (ptr p 8)) 99 v72) 100 v73) 101 (ptr p 0)) 102 (ptr p 0)) 103 (ptr p 8)) 104 v75) 105 v76) 106 (iN (l78))) 107 (iN (0))) H77 (fun e => ceP e
 (fun a79 H80 =>
 K (.bool true) H80)
 (fun i81 => fun a79 H80 =>
 Cd (eqN i81 1) (
 K (.bool true) H80) (
 False))
 (fun a79 H80 =>
 K (a79 4) H80))))))) (
 AsNat .u8 v50 fun n82 =>
 Cd (eqN n82 3) (
 Ld H49 p 8 fun v83 =>
 Ld H49 p32 2 fun v84 =>
 Sc v84 (Nw H49 (mkRow 32 0 [v84]) fun p85 H86 =>
 App Tryz.prog 36 36 H86 v83 (.slice (some ⟨p85, 0, none⟩) 1 1) fun v87 H88 =>
 Sc v87 (St H88 p 8 [v87] fun H89 =>
 Ld H49 p 8 fun v90 =>
 Same v83 v90 (
 Ld H86 p 8 fun v91 =>
 Same v83 v91 (
 Ld H89 p 5 fun v92 =>
 AsInt .i64 v92 fun z93 =>
 InR (Int.add z93 (Int.ofNat 1)) (
 St H89 p 5 [(i64 (Int.add z93 (Int.ofNat 1)))] fun H94 =>
 Ld H94 p 5 fun v95 =>
 Ld H94 p 0 fun v96 =>
 Ld H94 p 1 fun v97 =>
 Ld H94 p 2 fun v98 =>
 Ld H94 p 3 fun v99 =>
 Call1 Tryz.prog con 81 [(.agg ⟨[v96, v97, v98, v99]⟩)] H94 fun v100 H101 =>
 AsInt .i64 v95 fun z102 =>
 AsInt .i64 v100 fun z103 =>
 Ld H94 p 5 fun v104 =>
 Same v95 v104 (
 Ld H101 p 5 fun v105 =>
 Same v95 v105 (
 Cd (ltZ z102 z103) (
 K (.bool false) H101) (
 St H101 p 9 [(.bool true)] fun H106 =>
 Ld H106 p 8 fun v107 =>
 Call1 Tryz.prog con 126 [v107] H106 fun v108 H109 =>
 Ld H109 p 8 fun v110 =>
 Call1 Tryz.prog con 127 [v110] H109 fun v111 H112 =>
 AsLen v111 fun l113 =>
 LoopC Tryz.prog con (lpAt Tryz.prog 70 0) (upd (upd (upd (upd (upd (upd (upd (upd (upd (upd (upd (upd (upd (upd (upd (upd (upd (upd (upd (upd (upd (upd (upd (upd (upd (upd (upd (upd (upd (upd (upd (upd (upd (upd (upd (upd (upd (upd (upd (upd (upd (upd (upd (upd (upd (upd (upd (upd (upd (upd (upd (upd (upd (upd (upd (upd (upd (upd (upd (upd (upd (upd (upd (upd (upd (upd (upd (upd (upd (upd (upd (upd (upd (upd (upd (upd (upd (upd (upd (upd (upd (upd (fun _ => undV) 1 (ptr q 0)) 0 (ptr p 0)) 4 (.bool false)) 8 (ptr p 0)) 9 (.bool false)) 10 (.bool false)) 10 (.bool false)) 11 (ptr p 0)) 10 (.bool false)) 12 (ptr p 0)) 10 (.bool false)) 13 (ptr p 9)) 10 (.bool false)) 14 v1) 15 v1) 16 (ptr p 0)) 17 (ptr p 0)) 18 (ptr p 4)) 19 v3) 20 (.bool (notB b4))) 5 (ptr p32 0)) 35 (ptr q 0)) 36 (ptr p 0)) 37 (ptr p 0)) 38 (ptr p 0)) 39 (.agg ⟨[v34, v35, v36, v37]⟩)) 40 (ptr p 0)) 41 (ptr p 0)) 42 (ptr p 5)) 43 v38) 44 v39) 45 v41) 46 v43) 47 (ptr p32 0)) 48 v50) 50 (.bool (eqN n51 2))) 49 (.bool (eqN n51 2))) 64 (.bool (eqN n82 3))) 63 (.bool (eqN n82 3))) 65 (ptr p 0)) 66 (ptr p 0)) 67 (ptr p 0)) 68 (ptr p 8)) 69 v83) 70 (ptr p32 2)) 71 v84) 72 (.slice (some ⟨p85, 0, none⟩) 1 1)) 73 v87) 74 (ptr p 0)) 75 (ptr p 8)) 76 (ptr p 0)) 77 (ptr p 0)) 78 (ptr p 5)) 79 v92) 80 (i64 (Int.add z93 (Int.ofNat 1)))) 81 (ptr p 0)) 82 (ptr p 5)) 83 (ptr p 0)) 84 (ptr p 0)) 85 (ptr p 5)) 86 v95) 87 (ptr p 0)) 88 (ptr p 0)) 89 (ptr p 0)) 90 (.agg ⟨[v96, v97, v98, v99]⟩)) 91 v100) 92 (.bool (ltZ z102 z103))) 93 (ptr p 0)) 94 (ptr p 0)) 95 (ptr p 9)) 96 (ptr p 0)) 97 (ptr p 0)) 98 (ptr p 8)) 99 v107) 100 v108) 101 (ptr p 0)) 102 (ptr p 0)) 103 (ptr p 8)) 104 v110) 105 v111) 106 (iN (l113))) 107 (iN (0))) H112 (fun e => ceP e
 (fun a114 H115 =>
 K (.bool true) H115)
 (fun i116 => fun a114 H115 =>
 Cd (eqN i116 1) (
 K (.bool true) H115) (
 False))
 (fun a114 H115 =>
 K (a114 4) H115))))))))))) (
 Ld H49 p 5 fun v117 =>
 AsInt .i64 v117 fun z118 =>
 InR (Int.add z118 (Int.ofNat 1)) (
 St H49 p 5 [(i64 (Int.add z118 (Int.ofNat 1)))] fun H119 =>
 Ld H119 p 5 fun v120 =>
 Ld H119 p 0 fun v121 =>
 Ld H119 p 1 fun v122 =>
 Ld H119 p 2 fun v123 =>
 Ld H119 p 3 fun v124 =>
 Call1 Tryz.prog con 81 [(.agg ⟨[v121, v122, v123, v124]⟩)] H119 fun v125 H126 =>
 AsInt .i64 v120 fun z127 =>
 AsInt .i64 v125 fun z128 =>
 Ld H119 p 5 fun v129 =>
 Same v120 v129 (
 Ld H126 p 5 fun v130 =>
 Same v120 v130 (
 Cd (ltZ z127 z128) (
 K (.bool false) H126) (
 St H126 p 9 [(.bool true)] fun H131 =>
 Ld H131 p 8 fun v132 =>
 Call1 Tryz.prog con 126 [v132] H131 fun v133 H134 =>
 Ld H134 p 8 fun v135 =>
 Call1 Tryz.prog con 127 [v135] H134 fun v136 H137 =>
 AsLen v136 fun l138 =>
 LoopC Tryz.prog con (lpAt Tryz.prog 70 0) (upd (upd (upd (upd (upd (upd (upd (upd (upd (upd (upd (upd (upd (upd (upd (upd (upd (upd (upd (upd (upd (upd (upd (upd (upd (upd (upd (upd (upd (upd (upd (upd (upd (upd (upd (upd (upd (upd (upd (upd (upd (upd (upd (upd (upd (upd (upd (upd (upd (upd (upd (upd (upd (upd (upd (upd (upd (upd (upd (upd (upd (upd (upd (upd (upd (upd (upd (upd (upd (upd (upd (fun _ => undV) 1 (ptr q 0)) 0 (ptr p 0)) 4 (.bool false)) 8 (ptr p 0)) 9 (.bool false)) 10 (.bool false)) 10 (.bool false)) 11 (ptr p 0)) 10 (.bool false)) 12 (ptr p 0)) 10 (.bool false)) 13 (ptr p 9)) 10 (.bool false)) 14 v1) 15 v1) 16 (ptr p 0)) 17 (ptr p 0)) 18 (ptr p 4)) 19 v3) 20 (.bool (notB b4))) 5 (ptr p32 0)) 35 (ptr q 0)) 36 (ptr p 0)) 37 (ptr p 0)) 38 (ptr p 0)) 39 (.agg ⟨[v34, v35, v36, v37]⟩)) 40 (ptr p 0)) 41 (ptr p 0)) 42 (ptr p 5)) 43 v38) 44 v39) 45 v41) 46 v43) 47 (ptr p32 0)) 48 v50) 50 (.bool (eqN n51 2))) 49 (.bool (eqN n51 2))) 64 (.bool (eqN n82 3))) 63 (.bool (eqN n82 3))) 76 (ptr p 0)) 77 (ptr p 0)) 78 (ptr p 5)) 79 v117) 80 (i64 (Int.add z118 (Int.ofNat 1)))) 81 (ptr p 0)) 82 (ptr p 5)) 83 (ptr p 0)) 84 (ptr p 0)) 85 (ptr p 5)) 86 v120) 87 (ptr p 0)) 88 (ptr p 0)) 89 (ptr p 0)) 90 (.agg ⟨[v121, v122, v123, v124]⟩)) 91 v125) 92 (.bool (ltZ z127 z128))) 93 (ptr p 0)) 94 (ptr p 0)) 95 (ptr p 9)) 96 (ptr p 0)) 97 (ptr p 0)) 98 (ptr p 8)) 99 v132) 100 v133) 101 (ptr p 0)) 102 (ptr p 0)) 103 (ptr p 8)) 104 v135) 105 v136) 106 (iN (l138))) 107 (iN (0))) H137 (fun e => ceP e
 (fun a139 H140 =>
 K (.bool true) H140)
 (fun i141 => fun a139 H140 =>
 Cd (eqN i141 1) (
 K (.bool true) H140) (
 False))
 (fun a139 H140 =>
 K (a139 4) H140)))))))))))) := by kernel_rfl
theorem scanNeed_W (con : CallT) (p : Nat) (H : CH) (K : KP) : funW Tryz.prog con 39 [ptr p 0] H K =
 (Nw H (mkRow 45 0 [(u64 (0)), (snil)]) fun p1 H2 =>
 Ld H2 p 9 fun v3 =>
 AsBool v3 fun b4 =>
 Cd (notB b4) (
 St H2 p1 0 [(u64 (0)), (snil)] fun H5 =>
 Ld H5 p1 0 fun v6 =>
 Ld H5 p1 1 fun v7 =>
 K (.agg ⟨[v6, v7]⟩) H5) (
 Ld H2 p 6 fun v8 =>
 Ld H2 p 7 fun v9 =>
 Call1 Tryz.prog con 50 [v9] H2 fun v10 H11 =>
 Sc v8 (Sc v10 (St H11 p1 0 [v8, v10] fun H12 =>
 Ld H2 p 6 fun v13 =>
 Same v8 v13 (
 Ld H11 p 6 fun v14 =>
 Same v8 v14 (
 Ld H12 p1 0 fun v15 =>
 Ld H12 p1 1 fun v16 =>
 K (.agg ⟨[v15, v16]⟩) H12)))))) := by kernel_rfl
theorem annSlots_W (con : CallT) (m xa xb : Nat) (z : Int) (xd : Nat) (H : CH) (K : KP) : funW Tryz.prog con 30 [ptr m 0, .agg ⟨[u64 xa, u64 xb, i64 z, u64 xd]⟩] H K =
 (Nw H (mkRow 61 0 [(u64 (xa)), (u64 (xb)), (i64 z), (u64 (xd))]) fun p1 H2 =>
 Ld H2 p1 0 fun v3 =>
 Ld H2 p1 1 fun v4 =>
 Ld H2 p1 2 fun v5 =>
 Ld H2 p1 3 fun v6 =>
 Call1 Tryz.prog con 81 [(.agg ⟨[v3, v4, v5, v6]⟩)] H2 fun v7 H8 =>
 LoopC Tryz.prog con (lpAt Tryz.prog 30 0) (upd (upd (upd (upd (upd (upd (upd (upd (upd (upd (fun _ => undV) 1 (.agg ⟨[(u64 (xa)), (u64 (xb)), (i64 z), (u64 (xd))]⟩)) 0 (ptr m 0)) 3 (ptr p1 0)) 4 (snil)) 7 (ptr m 0)) 8 (.bool false)) 5 (snil)) 9 (.agg ⟨[v3, v4, v5, v6]⟩)) 10 v7) 11 (iN (0))) H8 (fun e => ceP e
 (fun a9 H10 =>
 K (a9 5) H10)
 (fun i11 => fun a9 H10 =>
 Cd (eqN i11 0) (
 K (a9 5) H10) (
 False))
 (fun a9 H10 =>
 K (a9 4) H10))) := by kernel_rfl
theorem annMake_W (con : CallT) (q cam : Nat) (n : Int) (most : Nat) (H : CH) (K : KP) : funW Tryz.prog con 87 [ptr q 0, u64 cam, i64 n, u64 most] H K =
 (Nw H (mkRow 61 0 [(u64 (0)), (u64 (0)), (iN (0)), (u64 (0))]) fun p1 H2 =>
 Cd (ltZ n (Int.ofNat 1)) (
 St H2 p1 0 [(u64 (0)), (u64 (0)), (iN (0)), (u64 (0))] fun H3 =>
 Ld H3 p1 0 fun v4 =>
 Ld H3 p1 1 fun v5 =>
 Ld H3 p1 2 fun v6 =>
 Ld H3 p1 3 fun v7 =>
 K (.tuple ⟨[(.agg ⟨[v4, v5, v6, v7]⟩), (iN (2))]⟩) H3) (
 Cd (ltZ (Int.ofNat 256) n) (
 St H2 p1 0 [(u64 (0)), (u64 (0)), (iN (0)), (u64 (0))] fun H8 =>
 Ld H8 p1 0 fun v9 =>
 Ld H8 p1 1 fun v10 =>
 Ld H8 p1 2 fun v11 =>
 Ld H8 p1 3 fun v12 =>
 K (.tuple ⟨[(.agg ⟨[v9, v10, v11, v12]⟩), (iN (2))]⟩) H8) (
 Cd (ltN most 1) (
 St H2 p1 0 [(u64 (0)), (u64 (0)), (iN (0)), (u64 (0))] fun H13 =>
 Ld H13 p1 0 fun v14 =>
 Ld H13 p1 1 fun v15 =>
 Ld H13 p1 2 fun v16 =>
 Ld H13 p1 3 fun v17 =>
 K (.tuple ⟨[(.agg ⟨[v14, v15, v16, v17]⟩), (iN (2))]⟩) H13) (
 Cd (ltN 1099511627776 most) (
 St H2 p1 0 [(u64 (0)), (u64 (0)), (iN (0)), (u64 (0))] fun H18 =>
 Ld H18 p1 0 fun v19 =>
 Ld H18 p1 1 fun v20 =>
 Ld H18 p1 2 fun v21 =>
 Ld H18 p1 3 fun v22 =>
 K (.tuple ⟨[(.agg ⟨[v19, v20, v21, v22]⟩), (iN (2))]⟩) H18) (
 MkS Tryz.prog H2 36 (i64 n) (i64 n) fun v23 H24 =>
 Call1 Tryz.prog con 11 [(ptr q 0), v23] H24 fun v25 H26 =>
 AsNat .u64 v25 fun n27 =>
 Cd (eqN n27 0) (
 St H26 p1 0 [(u64 (0)), (u64 (0)), (iN (0)), (u64 (0))] fun H28 =>
 Ld H28 p1 0 fun v29 =>
 Ld H28 p1 1 fun v30 =>
 Ld H28 p1 2 fun v31 =>
 Ld H28 p1 3 fun v32 =>
 K (.tuple ⟨[(.agg ⟨[v29, v30, v31, v32]⟩), (iN (30))]⟩) H28) (
 Sc v25 (St H26 p1 0 [(u64 (cam)), v25, (i64 n), (u64 (most))] fun H33 =>
 Ld H33 p1 0 fun v34 =>
 Ld H33 p1 1 fun v35 =>
 Ld H33 p1 2 fun v36 =>
 Ld H33 p1 3 fun v37 =>
 K (.tuple ⟨[(.agg ⟨[v34, v35, v36, v37]⟩), (iN (0))]⟩) H33))))))) := by kernel_rfl
theorem rWord_W (con : CallT) (c0 c1 c2 : Nat) (H : CH) (K : KP) : funW Tryz.prog con 151 [.agg ⟨[u8 c0, u64 c1, u64 c2]⟩] H K =
 (Nw H (mkRow 202 0 [(u8 (c0)), (u64 (c1)), (u64 (c2))]) fun p1 H2 =>
 Ld H2 p1 0 fun v3 =>
 AsNat .u8 v3 fun n4 =>
 Must (ltN n4 256) (
 Ld H2 p1 1 fun v5 =>
 AsNat .u64 v5 fun n6 =>
 Ld H2 p1 2 fun v7 =>
 AsNat .u64 v7 fun n8 =>
 K (u64 ((Nat.mod (Nat.add (Nat.mod (Nat.add (Nat.mod n4 4) (Nat.mod (Nat.mul 4 (Nat.mod n6 1048576)) 18446744073709551616)) 18446744073709551616) (Nat.mod (Nat.mul (Nat.mod (Nat.mul n8 4) 18446744073709551616) 1048576) 18446744073709551616)) 18446744073709551616))) H2)) := by kernel_rfl
theorem rUnpack_W (con : CallT) (w : Nat) (H : CH) (K : KP) : funW Tryz.prog con 85 [u64 w] H K =
 (Nw H (mkRow 202 0 [(u8 (0)), (u64 (0)), (u64 (0))]) fun p1 H2 =>
 St H2 p1 0 [(u8 ((Nat.mod (Nat.mod w 4) 256))), (u64 ((Nat.mod (Nat.mod (Nat.div w 4) 18446744073709551616) 1048576))), (u64 ((Nat.mod (Nat.div (Nat.mod (Nat.div w 4) 18446744073709551616) 1048576) 18446744073709551616)))] fun H3 =>
 Ld H3 p1 0 fun v4 =>
 Ld H3 p1 1 fun v5 =>
 Ld H3 p1 2 fun v6 =>
 K (.agg ⟨[v4, v5, v6]⟩) H3) := by kernel_rfl
theorem rUnhandle_W (con : CallT) (h : Nat) (H : CH) (K : KP) : funW Tryz.prog con 41 [u64 h] H K =
 (Cd (ltN (Nat.mod h 65536) 1) (
 K (.tuple ⟨[(iN (0)), (u64 (0)), (iN (33))]⟩) H) (
 Cd (ltN 256 (Nat.mod h 65536)) (
 K (.tuple ⟨[(iN (0)), (u64 (0)), (iN (33))]⟩) H) (
 Cd (leN 1048576 (Nat.mod (Nat.div h 65536) 18446744073709551616)) (
 K (.tuple ⟨[(iN (0)), (u64 (0)), (iN (33))]⟩) H) (
 InR (Int.sub (IntKind.wrap .i64 (Int.ofNat (Nat.mod h 65536))) (Int.ofNat 1)) (
 K (.tuple ⟨[(i64 (Int.sub (IntKind.wrap .i64 (Int.ofNat (Nat.mod h 65536))) (Int.ofNat 1))), (u64 ((Nat.mod (Nat.div h 65536) 18446744073709551616))), (iN (0))]⟩) H))))) := by kernel_rfl
theorem rCount_W (con : CallT) (xa xb : Nat) (z : Int) (xd : Nat) (H : CH) (K : KP) : funW Tryz.prog con 84 [.agg ⟨[u64 xa, u64 xb, i64 z, u64 xd]⟩] H K =
 (Nw H (mkRow 61 0 [(u64 (xa)), (u64 (xb)), (i64 z), (u64 (xd))]) fun p1 H2 =>
 Ld H2 p1 2 fun v3 =>
 AsInt .i64 v3 fun z4 =>
 Cd (ltZ z4 (Int.ofNat 0)) (
 K (iN (0)) H2) (
 Ld H2 p1 2 fun v5 =>
 AsInt .i64 v5 fun z6 =>
 Cd (ltZ (Int.ofNat 256) z6) (
 K (iN (256)) H2) (
 Ld H2 p1 2 fun v7 =>
 K v7 H2))) := by kernel_rfl
theorem rWord13_W (con : CallT) (c0 c1 c2 : Nat) (H : CH) (K : KP) : funW Tryz.prog con 134 [u8 c0, u64 c1, u64 c2] H K =
 (Call1 Tryz.prog con 151 [(.agg ⟨[(u8 (c0)), (u64 (c1)), (u64 (c2))]⟩)] H fun v1 H2 =>
 K v1 H2) := by kernel_rfl
theorem rSnapOn_W (con : CallT) (p o : Nat) (H : CH) (K : KP) : funW Tryz.prog con 132 [ptr p o] H K =
 (Ld H p (Nat.add o 5) fun v1 =>
 AsInt .i64 v1 fun z2 =>
 InR (Int.add z2 (Int.ofNat 1)) (
 St H p (Nat.add o 5) [(i64 (Int.add z2 (Int.ofNat 1)))] fun H3 =>
 St H3 p (Nat.add o 0) [(iN (0))] fun H4 =>
 Ld H4 p (Nat.add o 5) fun v5 =>
 Ld H4 p (Nat.add (Nat.add o 1) 0) fun v6 =>
 Ld H4 p (Nat.add (Nat.add o 1) 1) fun v7 =>
 Ld H4 p (Nat.add (Nat.add o 1) 2) fun v8 =>
 Ld H4 p (Nat.add (Nat.add o 1) 3) fun v9 =>
 Call1 Tryz.prog con 84 [(.agg ⟨[v6, v7, v8, v9]⟩)] H4 fun v10 H11 =>
 AsInt .i64 v5 fun z12 =>
 AsInt .i64 v10 fun z13 =>
 Ld H4 p (Nat.add o 5) fun v14 =>
 Same v5 v14 (
 Ld H11 p (Nat.add o 5) fun v15 =>
 Same v5 v15 (
 Cd (leZ z13 z12) (
 St H11 p (Nat.add o 11) [(iN (32))] fun H16 =>
 St H16 p (Nat.add o 0) [(iN (9))] fun H17 =>
 K (.tuple ⟨[]⟩) H17) (
 K (.tuple ⟨[]⟩) H11))))) := by kernel_rfl
theorem rSnapStep_W (con : CallT) (p o m : Nat) (t : Int) (H : CH) (K : KP) : funW Tryz.prog con 72 [ptr p o, ptr m 0, i64 t] H K =
 (Ld H p (Nat.add (Nat.add o 1) 1) fun v1 =>
 Ld H p (Nat.add o 5) fun v2 =>
 AsInt .i64 v2 fun z3 =>
 Must (cvOk .i64 z3) (
 AsNat .u64 v1 fun n4 =>
 Ld H p (Nat.add o 0) fun v5 =>
 AsInt .i64 v5 fun z6 =>
 Cd (eqZ z6 (Int.ofNat 0)) (
 Ld H p (Nat.add (Nat.add o 1) 0) fun v7 =>
 Ld H p (Nat.add (Nat.add o 1) 1) fun v8 =>
 Ld H p (Nat.add (Nat.add o 1) 2) fun v9 =>
 Ld H p (Nat.add (Nat.add o 1) 3) fun v10 =>
 Call1 Tryz.prog con 84 [(.agg ⟨[v7, v8, v9, v10]⟩)] H fun v11 H12 =>
 AsInt .i64 v11 fun z13 =>
 Cd (eqZ z13 (Int.ofNat 0)) (
 St H12 p (Nat.add o 11) [(iN (32))] fun H14 =>
 St H14 p (Nat.add o 0) [(iN (9))] fun H15 =>
 K (.bool true) H15) (
 Call1 Tryz.prog con 115 [(ptr m 0), (i64 t), (u64 ((Nat.mod (Nat.add n4 (wrapN .u64 z3)) 18446744073709551616)))] H12 fun v16 H17 =>
 Sc v16 (St H17 p (Nat.add o 6) [v16] fun H18 =>
 Ld H18 p (Nat.add o 6) fun v19 =>
 Call1 Tryz.prog con 85 [v19] H18 fun v20 H21 =>
 Nw H21 (mkRow 202 0 [(u8 (0)), (u64 (0)), (u64 (0))]) fun p22 H23 =>
 AsAgg v20 fun l24 =>
 Must (eqN (lenF l24) 3) (
 Nth l24 0 fun v25 =>
 Nth l24 1 fun v26 =>
 Nth l24 2 fun v27 =>
 St H23 p22 0 [v25, v26, v27] fun H28 =>
 Ld H28 p22 1 fun v29 =>
 Sc v29 (St H28 p (Nat.add o 7) [v29] fun H30 =>
 St H30 p (Nat.add o 0) [(iN (1))] fun H31 =>
 Ld H31 p22 0 fun v32 =>
 AsNat .u8 v32 fun n33 =>
 Cd (notB (eqN n33 0)) (
 Call1 Tryz.prog con 132 [(ptr p o)] H31 fun v34 H35 =>
 Ld H35 p (Nat.add o 0) fun v36 =>
 AsInt .i64 v36 fun z37 =>
 K (.bool (eqZ z37 (Int.ofNat 9))) H35) (
 Ld H31 p22 1 fun v38 =>
 AsNat .u64 v38 fun n39 =>
 Cd (leN 1048575 n39) (
 Call1 Tryz.prog con 132 [(ptr p o)] H31 fun v40 H41 =>
 Ld H41 p (Nat.add o 0) fun v42 =>
 AsInt .i64 v42 fun z43 =>
 K (.bool (eqZ z43 (Int.ofNat 9))) H41) (
 Ld H31 p (Nat.add o 0) fun v44 =>
 AsInt .i64 v44 fun z45 =>
 K (.bool (eqZ z45 (Int.ofNat 9))) H31))))))) (
 AsInt .i64 v5 fun z46 =>
 Cd (eqZ z46 (Int.ofNat 1)) (
 Ld H p (Nat.add o 6) fun v47 =>
 Ld H p (Nat.add o 7) fun v48 =>
 Call1 Tryz.prog con 134 [(u8 (1)), v48, (u64 (0))] H fun v49 H50 =>
 Call1 Tryz.prog con 133 [(ptr m 0), (i64 t), (u64 ((Nat.mod (Nat.add n4 (wrapN .u64 z3)) 18446744073709551616))), v47, v49] H50 fun v51 H52 =>
 Ld H p (Nat.add o 6) fun v53 =>
 Same v47 v53 (
 Ld H50 p (Nat.add o 6) fun v54 =>
 Same v47 v54 (
 AsBool v51 fun b55 =>
 Cd b55 (
 St H52 p (Nat.add o 0) [(iN (2))] fun H56 =>
 Ld H56 p (Nat.add o 0) fun v57 =>
 AsInt .i64 v57 fun z58 =>
 K (.bool (eqZ z58 (Int.ofNat 9))) H56) (
 Call1 Tryz.prog con 132 [(ptr p o)] H52 fun v59 H60 =>
 Ld H60 p (Nat.add o 0) fun v61 =>
 AsInt .i64 v61 fun z62 =>
 K (.bool (eqZ z62 (Int.ofNat 9))) H60)))) (
 AsInt .i64 v5 fun z63 =>
 Cd (eqZ z63 (Int.ofNat 2)) (
 Ld H p (Nat.add (Nat.add o 1) 0) fun v64 =>
 Call1 Tryz.prog con 115 [(ptr m 0), (i64 t), v64] H fun v65 H66 =>
 Sc v65 (St H66 p (Nat.add o 8) [v65] fun H67 =>
 St H67 p (Nat.add o 0) [(iN (3))] fun H68 =>
 Ld H68 p (Nat.add o 0) fun v69 =>
 AsInt .i64 v69 fun z70 =>
 K (.bool (eqZ z70 (Int.ofNat 9))) H68)) (
 AsInt .i64 v5 fun z71 =>
 Cd (eqZ z71 (Int.ofNat 3)) (
 Ld H p (Nat.add o 7) fun v72 =>
 Ld H p (Nat.add o 8) fun v73 =>
 Call1 Tryz.prog con 134 [(u8 (2)), v72, v73] H fun v74 H75 =>
 Call1 Tryz.prog con 21 [(ptr m 0), (i64 t), (u64 ((Nat.mod (Nat.add n4 (wrapN .u64 z3)) 18446744073709551616))), v74] H75 fun v76 H77 =>
 St H77 p (Nat.add o 0) [(iN (4))] fun H78 =>
 Ld H78 p (Nat.add o 0) fun v79 =>
 AsInt .i64 v79 fun z80 =>
 K (.bool (eqZ z80 (Int.ofNat 9))) H78) (
 AsInt .i64 v5 fun z81 =>
 Cd (eqZ z81 (Int.ofNat 4)) (
 Ld H p (Nat.add (Nat.add o 1) 0) fun v82 =>
 Call1 Tryz.prog con 115 [(ptr m 0), (i64 t), v82] H fun v83 H84 =>
 Sc v83 (St H84 p (Nat.add o 8) [v83] fun H85 =>
 St H85 p (Nat.add o 0) [(iN (6))] fun H86 =>
 Ld H86 p (Nat.add o 8) fun v87 =>
 Ld H86 p (Nat.add (Nat.add o 1) 3) fun v88 =>
 AsNat .u64 v87 fun n89 =>
 AsNat .u64 v88 fun n90 =>
 Cd (leN n90 n89) (
 St H86 p (Nat.add o 0) [(iN (5))] fun H91 =>
 Ld H91 p (Nat.add o 0) fun v92 =>
 AsInt .i64 v92 fun z93 =>
 K (.bool (eqZ z93 (Int.ofNat 9))) H91) (
 Ld H86 p (Nat.add o 0) fun v94 =>
 AsInt .i64 v94 fun z95 =>
 K (.bool (eqZ z95 (Int.ofNat 9))) H86))) (
 AsInt .i64 v5 fun z96 =>
 Cd (eqZ z96 (Int.ofNat 5)) (
 Ld H p (Nat.add o 7) fun v97 =>
 Call1 Tryz.prog con 134 [(u8 (0)), v97, (u64 (0))] H fun v98 H99 =>
 Call1 Tryz.prog con 21 [(ptr m 0), (i64 t), (u64 ((Nat.mod (Nat.add n4 (wrapN .u64 z3)) 18446744073709551616))), v98] H99 fun v100 H101 =>
 St H101 p (Nat.add o 11) [(iN (31))] fun H102 =>
 St H102 p (Nat.add o 0) [(iN (9))] fun H103 =>
 Ld H103 p (Nat.add o 0) fun v104 =>
 AsInt .i64 v104 fun z105 =>
 K (.bool (eqZ z105 (Int.ofNat 9))) H103) (
 AsInt .i64 v5 fun z106 =>
 Cd (eqZ z106 (Int.ofNat 6)) (
 Ld H p (Nat.add (Nat.add o 1) 0) fun v107 =>
 Ld H p (Nat.add o 8) fun v108 =>
 Ld H p (Nat.add o 8) fun v109 =>
 AsNat .u64 v109 fun n110 =>
 Call1 Tryz.prog con 133 [(ptr m 0), (i64 t), v107, v108, (u64 ((Nat.mod (Nat.add n110 1) 18446744073709551616)))] H fun v111 H112 =>
 St H112 p (Nat.add o 0) [(iN (7))] fun H113 =>
 Ld H113 p (Nat.add o 0) fun v114 =>
 AsInt .i64 v114 fun z115 =>
 K (.bool (eqZ z115 (Int.ofNat 9))) H113) (
 AsInt .i64 v5 fun z116 =>
 Cd (eqZ z116 (Int.ofNat 7)) (
 Ld H p (Nat.add o 7) fun v117 =>
 Ld H p (Nat.add o 8) fun v118 =>
 Call1 Tryz.prog con 134 [(u8 (3)), v117, v118] H fun v119 H120 =>
 Call1 Tryz.prog con 21 [(ptr m 0), (i64 t), (u64 ((Nat.mod (Nat.add n4 (wrapN .u64 z3)) 18446744073709551616))), v119] H120 fun v121 H122 =>
 Ld H122 p (Nat.add o 5) fun v123 =>
 AsInt .i64 v123 fun z124 =>
 Must (cvOk .i64 z124) (
 Ld H122 p (Nat.add o 7) fun v125 =>
 AsNat .u64 v125 fun n126 =>
 St H122 p (Nat.add o 9) [(u64 ((Nat.mod (Nat.add (Nat.mod (Nat.add (wrapN .u64 z124) 1) 18446744073709551616) (Nat.mod (Nat.mul n126 65536) 18446744073709551616)) 18446744073709551616)))] fun H127 =>
 Ld H127 p (Nat.add o 8) fun v128 =>
 Sc v128 (St H127 p (Nat.add o 10) [v128] fun H129 =>
 St H129 p (Nat.add o 0) [(iN (9))] fun H130 =>
 Ld H130 p (Nat.add o 0) fun v131 =>
 AsInt .i64 v131 fun z132 =>
 K (.bool (eqZ z132 (Int.ofNat 9))) H130))) (
 Ld H p (Nat.add o 0) fun v133 =>
 AsInt .i64 v133 fun z134 =>
 K (.bool (eqZ z134 (Int.ofNat 9))) H)))))))))) := by kernel_rfl
theorem rLetStep_W (con : CallT) (p o m : Nat) (t : Int) (H : CH) (K : KP) : funW Tryz.prog con 74 [ptr p o, ptr m 0, i64 t] H K =
 (Ld H p (Nat.add o 0) fun v1 =>
 AsInt .i64 v1 fun z2 =>
 Cd (eqZ z2 (Int.ofNat 0)) (
 Ld H p (Nat.add o 5) fun v3 =>
 Call1 Tryz.prog con 41 [v3] H fun v4 H5 =>
 AsTup v4 fun l6 =>
 Nth l6 0 fun v7 =>
 AsTup v4 fun l8 =>
 Nth l8 1 fun v9 =>
 AsTup v4 fun l10 =>
 Nth l10 2 fun v11 =>
 AsInt .i64 v11 fun z12 =>
 Cd (notB (eqZ z12 (Int.ofNat 0))) (
 St H5 p (Nat.add o 9) [(iN (33))] fun H13 =>
 St H13 p (Nat.add o 0) [(iN (2))] fun H14 =>
 K (.bool true) H14) (
 Ld H5 p (Nat.add (Nat.add o 1) 0) fun v15 =>
 Ld H5 p (Nat.add (Nat.add o 1) 1) fun v16 =>
 Ld H5 p (Nat.add (Nat.add o 1) 2) fun v17 =>
 Ld H5 p (Nat.add (Nat.add o 1) 3) fun v18 =>
 Call1 Tryz.prog con 84 [(.agg ⟨[v15, v16, v17, v18]⟩)] H5 fun v19 H20 =>
 AsInt .i64 v7 fun z21 =>
 AsInt .i64 v19 fun z22 =>
 Cd (leZ z22 z21) (
 St H20 p (Nat.add o 9) [(iN (33))] fun H23 =>
 St H23 p (Nat.add o 0) [(iN (2))] fun H24 =>
 K (.bool true) H24) (
 Sc v9 (St H20 p (Nat.add o 7) [v9] fun H25 =>
 Ld H25 p (Nat.add (Nat.add o 1) 1) fun v26 =>
 AsInt .i64 v7 fun z27 =>
 Must (cvOk .i64 z27) (
 AsNat .u64 v26 fun n28 =>
 St H25 p (Nat.add o 8) [(u64 ((Nat.mod (Nat.add n28 (wrapN .u64 z27)) 18446744073709551616)))] fun H29 =>
 Ld H29 p (Nat.add o 8) fun v30 =>
 Call1 Tryz.prog con 115 [(ptr m 0), (i64 t), v30] H29 fun v31 H32 =>
 Sc v31 (St H32 p (Nat.add o 6) [v31] fun H33 =>
 Ld H33 p (Nat.add o 6) fun v34 =>
 Call1 Tryz.prog con 85 [v34] H33 fun v35 H36 =>
 Nw H36 (mkRow 202 0 [(u8 (0)), (u64 (0)), (u64 (0))]) fun p37 H38 =>
 AsAgg v35 fun l39 =>
 Must (eqN (lenF l39) 3) (
 Nth l39 0 fun v40 =>
 Nth l39 1 fun v41 =>
 Nth l39 2 fun v42 =>
 St H38 p37 0 [v40, v41, v42] fun H43 =>
 St H43 p (Nat.add o 0) [(iN (1))] fun H44 =>
 Ld H44 p37 0 fun v45 =>
 AsNat .u8 v45 fun n46 =>
 Cd (notB (eqN n46 3)) (
 St H44 p (Nat.add o 9) [(iN (33))] fun H47 =>
 St H47 p (Nat.add o 0) [(iN (2))] fun H48 =>
 Ld H48 p (Nat.add o 0) fun v49 =>
 AsInt .i64 v49 fun z50 =>
 K (.bool (eqZ z50 (Int.ofNat 2))) H48) (
 Ld H44 p37 1 fun v51 =>
 AsNat .u64 v51 fun n52 =>
 AsNat .u64 v9 fun n53 =>
 Cd (notB (eqN n52 n53)) (
 St H44 p (Nat.add o 9) [(iN (33))] fun H54 =>
 St H54 p (Nat.add o 0) [(iN (2))] fun H55 =>
 Ld H55 p (Nat.add o 0) fun v56 =>
 AsInt .i64 v56 fun z57 =>
 K (.bool (eqZ z57 (Int.ofNat 2))) H55) (
 Ld H44 p (Nat.add o 0) fun v58 =>
 AsInt .i64 v58 fun z59 =>
 K (.bool (eqZ z59 (Int.ofNat 2))) H44))))))))) (
 AsInt .i64 v1 fun z60 =>
 Cd (eqZ z60 (Int.ofNat 1)) (
 Ld H p (Nat.add o 8) fun v61 =>
 Ld H p (Nat.add o 6) fun v62 =>
 Ld H p (Nat.add o 7) fun v63 =>
 AsNat .u64 v63 fun n64 =>
 Call1 Tryz.prog con 134 [(u8 (0)), (u64 ((Nat.mod (Nat.add n64 1) 18446744073709551616))), (u64 (0))] H fun v65 H66 =>
 Call1 Tryz.prog con 133 [(ptr m 0), (i64 t), v61, v62, v65] H66 fun v67 H68 =>
 AsBool v67 fun b69 =>
 Ld H p (Nat.add o 6) fun v70 =>
 Same v62 v70 (
 Ld H66 p (Nat.add o 6) fun v71 =>
 Same v62 v71 (
 Ld H p (Nat.add o 8) fun v72 =>
 Same v61 v72 (
 Ld H66 p (Nat.add o 8) fun v73 =>
 Same v61 v73 (
 Cd (notB b69) (
 St H68 p (Nat.add o 9) [(iN (33))] fun H74 =>
 St H74 p (Nat.add o 0) [(iN (2))] fun H75 =>
 Ld H75 p (Nat.add o 0) fun v76 =>
 AsInt .i64 v76 fun z77 =>
 K (.bool (eqZ z77 (Int.ofNat 2))) H75) (
 St H68 p (Nat.add o 0) [(iN (2))] fun H78 =>
 Ld H78 p (Nat.add o 0) fun v79 =>
 AsInt .i64 v79 fun z80 =>
 K (.bool (eqZ z80 (Int.ofNat 2))) H78)))))) (
 Ld H p (Nat.add o 0) fun v81 =>
 AsInt .i64 v81 fun z82 =>
 K (.bool (eqZ z82 (Int.ofNat 2))) H))) := by kernel_rfl
theorem rScanStep_W (con : CallT) (p o m : Nat) (t : Int) (H : CH) (K : KP) : funW Tryz.prog con 73 [ptr p o, ptr m 0, i64 t] H K =
 (Ld H p (Nat.add o 0) fun v1 =>
 AsInt .i64 v1 fun z2 =>
 Cd (eqZ z2 (Int.ofNat 0)) (
 Ld H p (Nat.add (Nat.add o 1) 0) fun v3 =>
 Call1 Tryz.prog con 115 [(ptr m 0), (i64 t), v3] H fun v4 H5 =>
 Sc v4 (St H5 p (Nat.add o 6) [v4] fun H6 =>
 St H6 p (Nat.add o 0) [(iN (1))] fun H7 =>
 Ld H7 p (Nat.add o 0) fun v8 =>
 AsInt .i64 v8 fun z9 =>
 Cd (eqZ z9 (Int.ofNat 1)) (
 Ld H7 p (Nat.add o 5) fun v10 =>
 Ld H7 p (Nat.add (Nat.add o 1) 0) fun v11 =>
 Ld H7 p (Nat.add (Nat.add o 1) 1) fun v12 =>
 Ld H7 p (Nat.add (Nat.add o 1) 2) fun v13 =>
 Ld H7 p (Nat.add (Nat.add o 1) 3) fun v14 =>
 Call1 Tryz.prog con 84 [(.agg ⟨[v11, v12, v13, v14]⟩)] H7 fun v15 H16 =>
 AsInt .i64 v10 fun z17 =>
 AsInt .i64 v15 fun z18 =>
 Ld H7 p (Nat.add o 5) fun v19 =>
 Same v10 v19 (
 Ld H16 p (Nat.add o 5) fun v20 =>
 Same v10 v20 (
 Cd (leZ z18 z17) (
 Ld H16 p (Nat.add o 6) fun v21 =>
 Ld H16 p (Nat.add o 7) fun v22 =>
 Ld H16 p (Nat.add o 6) fun v23 =>
 Call1 Tryz.prog con 135 [v22, v23] H16 fun v24 H25 =>
 Sc v21 (Sc v24 (St H25 p (Nat.add o 8) [v21, v24] fun H26 =>
 Ld H16 p (Nat.add o 6) fun v27 =>
 Same v21 v27 (
 Ld H25 p (Nat.add o 6) fun v28 =>
 Same v21 v28 (
 St H26 p (Nat.add o 0) [(iN (2))] fun H29 =>
 Ld H29 p (Nat.add o 0) fun v30 =>
 AsInt .i64 v30 fun z31 =>
 K (.bool (eqZ z31 (Int.ofNat 2))) H29))))) (
 Ld H16 p (Nat.add o 0) fun v32 =>
 AsInt .i64 v32 fun z33 =>
 K (.bool (eqZ z33 (Int.ofNat 2))) H16)))) (
 Ld H7 p (Nat.add o 0) fun v34 =>
 AsInt .i64 v34 fun z35 =>
 K (.bool (eqZ z35 (Int.ofNat 2))) H7))) (
 AsInt .i64 v1 fun z36 =>
 Cd (eqZ z36 (Int.ofNat 1)) (
 Nw H (mkRow 202 0 [(u8 (0)), (u64 (0)), (u64 (0))]) fun p37 H38 =>
 Ld H38 p (Nat.add (Nat.add o 1) 1) fun v39 =>
 Ld H38 p (Nat.add o 5) fun v40 =>
 AsInt .i64 v40 fun z41 =>
 Must (cvOk .i64 z41) (
 AsNat .u64 v39 fun n42 =>
 Call1 Tryz.prog con 115 [(ptr m 0), (i64 t), (u64 ((Nat.mod (Nat.add n42 (wrapN .u64 z41)) 18446744073709551616)))] H38 fun v43 H44 =>
 Call1 Tryz.prog con 85 [v43] H44 fun v45 H46 =>
 AsAgg v45 fun l47 =>
 Must (eqN (lenF l47) 3) (
 Nth l47 0 fun v48 =>
 Nth l47 1 fun v49 =>
 Nth l47 2 fun v50 =>
 St H46 p37 0 [v48, v49, v50] fun H51 =>
 Ld H51 p37 0 fun v52 =>
 AsNat .u8 v52 fun n53 =>
 Cd (eqN n53 2) (
 Ld H51 p37 2 fun v54 =>
 Ld H51 p (Nat.add o 6) fun v55 =>
 AsNat .u64 v54 fun n56 =>
 AsNat .u64 v55 fun n57 =>
 Cd (ltN n56 n57) (
 Ld H51 p37 2 fun v58 =>
 Sc v58 (St H51 p (Nat.add o 6) [v58] fun H59 =>
 Ld H59 p37 0 fun v60 =>
 AsNat .u8 v60 fun n61 =>
 Cd (eqN n61 3) (
 Ld H59 p (Nat.add o 7) fun v62 =>
 Ld H59 p37 2 fun v63 =>
 Sc v63 (Nw H59 (mkRow 32 0 [v63]) fun p64 H65 =>
 App Tryz.prog 36 36 H65 v62 (.slice (some ⟨p64, 0, none⟩) 1 1) fun v66 H67 =>
 Sc v66 (St H67 p (Nat.add o 7) [v66] fun H68 =>
 Ld H59 p (Nat.add o 7) fun v69 =>
 Same v62 v69 (
 Ld H65 p (Nat.add o 7) fun v70 =>
 Same v62 v70 (
 Ld H68 p (Nat.add o 5) fun v71 =>
 AsInt .i64 v71 fun z72 =>
 InR (Int.add z72 (Int.ofNat 1)) (
 St H68 p (Nat.add o 5) [(i64 (Int.add z72 (Int.ofNat 1)))] fun H73 =>
 Ld H73 p (Nat.add o 0) fun v74 =>
 AsInt .i64 v74 fun z75 =>
 Cd (eqZ z75 (Int.ofNat 1)) (
 Ld H73 p (Nat.add o 5) fun v76 =>
 Ld H73 p (Nat.add (Nat.add o 1) 0) fun v77 =>
 Ld H73 p (Nat.add (Nat.add o 1) 1) fun v78 =>
 Ld H73 p (Nat.add (Nat.add o 1) 2) fun v79 =>
 Ld H73 p (Nat.add (Nat.add o 1) 3) fun v80 =>
 Call1 Tryz.prog con 84 [(.agg ⟨[v77, v78, v79, v80]⟩)] H73 fun v81 H82 =>
 AsInt .i64 v76 fun z83 =>
 AsInt .i64 v81 fun z84 =>
 Ld H73 p (Nat.add o 5) fun v85 =>
 Same v76 v85 (
 Ld H82 p (Nat.add o 5) fun v86 =>
 Same v76 v86 (
 Cd (leZ z84 z83) (
 Ld H82 p (Nat.add o 6) fun v87 =>
 Ld H82 p (Nat.add o 7) fun v88 =>
 Ld H82 p (Nat.add o 6) fun v89 =>
 Call1 Tryz.prog con 135 [v88, v89] H82 fun v90 H91 =>
 Sc v87 (Sc v90 (St H91 p (Nat.add o 8) [v87, v90] fun H92 =>
 Ld H82 p (Nat.add o 6) fun v93 =>
 Same v87 v93 (
 Ld H91 p (Nat.add o 6) fun v94 =>
 Same v87 v94 (
 St H92 p (Nat.add o 0) [(iN (2))] fun H95 =>
 Ld H95 p (Nat.add o 0) fun v96 =>
 AsInt .i64 v96 fun z97 =>
 K (.bool (eqZ z97 (Int.ofNat 2))) H95))))) (
 Ld H82 p (Nat.add o 0) fun v98 =>
 AsInt .i64 v98 fun z99 =>
 K (.bool (eqZ z99 (Int.ofNat 2))) H82)))) (
 Ld H73 p (Nat.add o 0) fun v100 =>
 AsInt .i64 v100 fun z101 =>
 K (.bool (eqZ z101 (Int.ofNat 2))) H73))))))) (
 Ld H59 p (Nat.add o 5) fun v102 =>
 AsInt .i64 v102 fun z103 =>
 InR (Int.add z103 (Int.ofNat 1)) (
 St H59 p (Nat.add o 5) [(i64 (Int.add z103 (Int.ofNat 1)))] fun H104 =>
 Ld H104 p (Nat.add o 0) fun v105 =>
 AsInt .i64 v105 fun z106 =>
 Cd (eqZ z106 (Int.ofNat 1)) (
 Ld H104 p (Nat.add o 5) fun v107 =>
 Ld H104 p (Nat.add (Nat.add o 1) 0) fun v108 =>
 Ld H104 p (Nat.add (Nat.add o 1) 1) fun v109 =>
 Ld H104 p (Nat.add (Nat.add o 1) 2) fun v110 =>
 Ld H104 p (Nat.add (Nat.add o 1) 3) fun v111 =>
 Call1 Tryz.prog con 84 [(.agg ⟨[v108, v109, v110, v111]⟩)] H104 fun v112 H113 =>
 AsInt .i64 v107 fun z114 =>
 AsInt .i64 v112 fun z115 =>
 Ld H104 p (Nat.add o 5) fun v116 =>
 Same v107 v116 (
 Ld H113 p (Nat.add o 5) fun v117 =>
 Same v107 v117 (
 Cd (leZ z115 z114) (
 Ld H113 p (Nat.add o 6) fun v118 =>
 Ld H113 p (Nat.add o 7) fun v119 =>
 Ld H113 p (Nat.add o 6) fun v120 =>
 Call1 Tryz.prog con 135 [v119, v120] H113 fun v121 H122 =>
 Sc v118 (Sc v121 (St H122 p (Nat.add o 8) [v118, v121] fun H123 =>
 Ld H113 p (Nat.add o 6) fun v124 =>
 Same v118 v124 (
 Ld H122 p (Nat.add o 6) fun v125 =>
 Same v118 v125 (
 St H123 p (Nat.add o 0) [(iN (2))] fun H126 =>
 Ld H126 p (Nat.add o 0) fun v127 =>
 AsInt .i64 v127 fun z128 =>
 K (.bool (eqZ z128 (Int.ofNat 2))) H126))))) (
 Ld H113 p (Nat.add o 0) fun v129 =>
 AsInt .i64 v129 fun z130 =>
 K (.bool (eqZ z130 (Int.ofNat 2))) H113)))) (
 Ld H104 p (Nat.add o 0) fun v131 =>
 AsInt .i64 v131 fun z132 =>
 K (.bool (eqZ z132 (Int.ofNat 2))) H104))))) (
 Ld H51 p37 0 fun v133 =>
 AsNat .u8 v133 fun n134 =>
 Cd (eqN n134 3) (
 Ld H51 p (Nat.add o 7) fun v135 =>
 Ld H51 p37 2 fun v136 =>
 Sc v136 (Nw H51 (mkRow 32 0 [v136]) fun p137 H138 =>
 App Tryz.prog 36 36 H138 v135 (.slice (some ⟨p137, 0, none⟩) 1 1) fun v139 H140 =>
 Sc v139 (St H140 p (Nat.add o 7) [v139] fun H141 =>
 Ld H51 p (Nat.add o 7) fun v142 =>
 Same v135 v142 (
 Ld H138 p (Nat.add o 7) fun v143 =>
 Same v135 v143 (
 Ld H141 p (Nat.add o 5) fun v144 =>
 AsInt .i64 v144 fun z145 =>
 InR (Int.add z145 (Int.ofNat 1)) (
 St H141 p (Nat.add o 5) [(i64 (Int.add z145 (Int.ofNat 1)))] fun H146 =>
 Ld H146 p (Nat.add o 0) fun v147 =>
 AsInt .i64 v147 fun z148 =>
 Cd (eqZ z148 (Int.ofNat 1)) (
 Ld H146 p (Nat.add o 5) fun v149 =>
 Ld H146 p (Nat.add (Nat.add o 1) 0) fun v150 =>
 Ld H146 p (Nat.add (Nat.add o 1) 1) fun v151 =>
 Ld H146 p (Nat.add (Nat.add o 1) 2) fun v152 =>
 Ld H146 p (Nat.add (Nat.add o 1) 3) fun v153 =>
 Call1 Tryz.prog con 84 [(.agg ⟨[v150, v151, v152, v153]⟩)] H146 fun v154 H155 =>
 AsInt .i64 v149 fun z156 =>
 AsInt .i64 v154 fun z157 =>
 Ld H146 p (Nat.add o 5) fun v158 =>
 Same v149 v158 (
 Ld H155 p (Nat.add o 5) fun v159 =>
 Same v149 v159 (
 Cd (leZ z157 z156) (
 Ld H155 p (Nat.add o 6) fun v160 =>
 Ld H155 p (Nat.add o 7) fun v161 =>
 Ld H155 p (Nat.add o 6) fun v162 =>
 Call1 Tryz.prog con 135 [v161, v162] H155 fun v163 H164 =>
 Sc v160 (Sc v163 (St H164 p (Nat.add o 8) [v160, v163] fun H165 =>
 Ld H155 p (Nat.add o 6) fun v166 =>
 Same v160 v166 (
 Ld H164 p (Nat.add o 6) fun v167 =>
 Same v160 v167 (
 St H165 p (Nat.add o 0) [(iN (2))] fun H168 =>
 Ld H168 p (Nat.add o 0) fun v169 =>
 AsInt .i64 v169 fun z170 =>
 K (.bool (eqZ z170 (Int.ofNat 2))) H168))))) (
 Ld H155 p (Nat.add o 0) fun v171 =>
 AsInt .i64 v171 fun z172 =>
 K (.bool (eqZ z172 (Int.ofNat 2))) H155)))) (
 Ld H146 p (Nat.add o 0) fun v173 =>
 AsInt .i64 v173 fun z174 =>
 K (.bool (eqZ z174 (Int.ofNat 2))) H146))))))) (
 Ld H51 p (Nat.add o 5) fun v175 =>
 AsInt .i64 v175 fun z176 =>
 InR (Int.add z176 (Int.ofNat 1)) (
 St H51 p (Nat.add o 5) [(i64 (Int.add z176 (Int.ofNat 1)))] fun H177 =>
 Ld H177 p (Nat.add o 0) fun v178 =>
 AsInt .i64 v178 fun z179 =>
 Cd (eqZ z179 (Int.ofNat 1)) (
 Ld H177 p (Nat.add o 5) fun v180 =>
 Ld H177 p (Nat.add (Nat.add o 1) 0) fun v181 =>
 Ld H177 p (Nat.add (Nat.add o 1) 1) fun v182 =>
 Ld H177 p (Nat.add (Nat.add o 1) 2) fun v183 =>
 Ld H177 p (Nat.add (Nat.add o 1) 3) fun v184 =>
 Call1 Tryz.prog con 84 [(.agg ⟨[v181, v182, v183, v184]⟩)] H177 fun v185 H186 =>
 AsInt .i64 v180 fun z187 =>
 AsInt .i64 v185 fun z188 =>
 Ld H177 p (Nat.add o 5) fun v189 =>
 Same v180 v189 (
 Ld H186 p (Nat.add o 5) fun v190 =>
 Same v180 v190 (
 Cd (leZ z188 z187) (
 Ld H186 p (Nat.add o 6) fun v191 =>
 Ld H186 p (Nat.add o 7) fun v192 =>
 Ld H186 p (Nat.add o 6) fun v193 =>
 Call1 Tryz.prog con 135 [v192, v193] H186 fun v194 H195 =>
 Sc v191 (Sc v194 (St H195 p (Nat.add o 8) [v191, v194] fun H196 =>
 Ld H186 p (Nat.add o 6) fun v197 =>
 Same v191 v197 (
 Ld H195 p (Nat.add o 6) fun v198 =>
 Same v191 v198 (
 St H196 p (Nat.add o 0) [(iN (2))] fun H199 =>
 Ld H199 p (Nat.add o 0) fun v200 =>
 AsInt .i64 v200 fun z201 =>
 K (.bool (eqZ z201 (Int.ofNat 2))) H199))))) (
 Ld H186 p (Nat.add o 0) fun v202 =>
 AsInt .i64 v202 fun z203 =>
 K (.bool (eqZ z203 (Int.ofNat 2))) H186)))) (
 Ld H177 p (Nat.add o 0) fun v204 =>
 AsInt .i64 v204 fun z205 =>
 K (.bool (eqZ z205 (Int.ofNat 2))) H177))))) (
 Ld H51 p37 0 fun v206 =>
 AsNat .u8 v206 fun n207 =>
 Cd (eqN n207 3) (
 Ld H51 p (Nat.add o 7) fun v208 =>
 Ld H51 p37 2 fun v209 =>
 Sc v209 (Nw H51 (mkRow 32 0 [v209]) fun p210 H211 =>
 App Tryz.prog 36 36 H211 v208 (.slice (some ⟨p210, 0, none⟩) 1 1) fun v212 H213 =>
 Sc v212 (St H213 p (Nat.add o 7) [v212] fun H214 =>
 Ld H51 p (Nat.add o 7) fun v215 =>
 Same v208 v215 (
 Ld H211 p (Nat.add o 7) fun v216 =>
 Same v208 v216 (
 Ld H214 p (Nat.add o 5) fun v217 =>
 AsInt .i64 v217 fun z218 =>
 InR (Int.add z218 (Int.ofNat 1)) (
 St H214 p (Nat.add o 5) [(i64 (Int.add z218 (Int.ofNat 1)))] fun H219 =>
 Ld H219 p (Nat.add o 0) fun v220 =>
 AsInt .i64 v220 fun z221 =>
 Cd (eqZ z221 (Int.ofNat 1)) (
 Ld H219 p (Nat.add o 5) fun v222 =>
 Ld H219 p (Nat.add (Nat.add o 1) 0) fun v223 =>
 Ld H219 p (Nat.add (Nat.add o 1) 1) fun v224 =>
 Ld H219 p (Nat.add (Nat.add o 1) 2) fun v225 =>
 Ld H219 p (Nat.add (Nat.add o 1) 3) fun v226 =>
 Call1 Tryz.prog con 84 [(.agg ⟨[v223, v224, v225, v226]⟩)] H219 fun v227 H228 =>
 AsInt .i64 v222 fun z229 =>
 AsInt .i64 v227 fun z230 =>
 Ld H219 p (Nat.add o 5) fun v231 =>
 Same v222 v231 (
 Ld H228 p (Nat.add o 5) fun v232 =>
 Same v222 v232 (
 Cd (leZ z230 z229) (
 Ld H228 p (Nat.add o 6) fun v233 =>
 Ld H228 p (Nat.add o 7) fun v234 =>
 Ld H228 p (Nat.add o 6) fun v235 =>
 Call1 Tryz.prog con 135 [v234, v235] H228 fun v236 H237 =>
 Sc v233 (Sc v236 (St H237 p (Nat.add o 8) [v233, v236] fun H238 =>
 Ld H228 p (Nat.add o 6) fun v239 =>
 Same v233 v239 (
 Ld H237 p (Nat.add o 6) fun v240 =>
 Same v233 v240 (
 St H238 p (Nat.add o 0) [(iN (2))] fun H241 =>
 Ld H241 p (Nat.add o 0) fun v242 =>
 AsInt .i64 v242 fun z243 =>
 K (.bool (eqZ z243 (Int.ofNat 2))) H241))))) (
 Ld H228 p (Nat.add o 0) fun v244 =>
 AsInt .i64 v244 fun z245 =>
 K (.bool (eqZ z245 (Int.ofNat 2))) H228)))) (
 Ld H219 p (Nat.add o 0) fun v246 =>
 AsInt .i64 v246 fun z247 =>
 K (.bool (eqZ z247 (Int.ofNat 2))) H219))))))) (
 Ld H51 p (Nat.add o 5) fun v248 =>
 AsInt .i64 v248 fun z249 =>
 InR (Int.add z249 (Int.ofNat 1)) (
 St H51 p (Nat.add o 5) [(i64 (Int.add z249 (Int.ofNat 1)))] fun H250 =>
 Ld H250 p (Nat.add o 0) fun v251 =>
 AsInt .i64 v251 fun z252 =>
 Cd (eqZ z252 (Int.ofNat 1)) (
 Ld H250 p (Nat.add o 5) fun v253 =>
 Ld H250 p (Nat.add (Nat.add o 1) 0) fun v254 =>
 Ld H250 p (Nat.add (Nat.add o 1) 1) fun v255 =>
 Ld H250 p (Nat.add (Nat.add o 1) 2) fun v256 =>
 Ld H250 p (Nat.add (Nat.add o 1) 3) fun v257 =>
 Call1 Tryz.prog con 84 [(.agg ⟨[v254, v255, v256, v257]⟩)] H250 fun v258 H259 =>
 AsInt .i64 v253 fun z260 =>
 AsInt .i64 v258 fun z261 =>
 Ld H250 p (Nat.add o 5) fun v262 =>
 Same v253 v262 (
 Ld H259 p (Nat.add o 5) fun v263 =>
 Same v253 v263 (
 Cd (leZ z261 z260) (
 Ld H259 p (Nat.add o 6) fun v264 =>
 Ld H259 p (Nat.add o 7) fun v265 =>
 Ld H259 p (Nat.add o 6) fun v266 =>
 Call1 Tryz.prog con 135 [v265, v266] H259 fun v267 H268 =>
 Sc v264 (Sc v267 (St H268 p (Nat.add o 8) [v264, v267] fun H269 =>
 Ld H259 p (Nat.add o 6) fun v270 =>
 Same v264 v270 (
 Ld H268 p (Nat.add o 6) fun v271 =>
 Same v264 v271 (
 St H269 p (Nat.add o 0) [(iN (2))] fun H272 =>
 Ld H272 p (Nat.add o 0) fun v273 =>
 AsInt .i64 v273 fun z274 =>
 K (.bool (eqZ z274 (Int.ofNat 2))) H272))))) (
 Ld H259 p (Nat.add o 0) fun v275 =>
 AsInt .i64 v275 fun z276 =>
 K (.bool (eqZ z276 (Int.ofNat 2))) H259)))) (
 Ld H250 p (Nat.add o 0) fun v277 =>
 AsInt .i64 v277 fun z278 =>
 K (.bool (eqZ z278 (Int.ofNat 2))) H250))))))) (
 Ld H p (Nat.add o 0) fun v279 =>
 AsInt .i64 v279 fun z280 =>
 Cd (eqZ z280 (Int.ofNat 1)) (
 Ld H p (Nat.add o 5) fun v281 =>
 Ld H p (Nat.add (Nat.add o 1) 0) fun v282 =>
 Ld H p (Nat.add (Nat.add o 1) 1) fun v283 =>
 Ld H p (Nat.add (Nat.add o 1) 2) fun v284 =>
 Ld H p (Nat.add (Nat.add o 1) 3) fun v285 =>
 Call1 Tryz.prog con 84 [(.agg ⟨[v282, v283, v284, v285]⟩)] H fun v286 H287 =>
 AsInt .i64 v281 fun z288 =>
 AsInt .i64 v286 fun z289 =>
 Ld H p (Nat.add o 5) fun v290 =>
 Same v281 v290 (
 Ld H287 p (Nat.add o 5) fun v291 =>
 Same v281 v291 (
 Cd (leZ z289 z288) (
 Ld H287 p (Nat.add o 6) fun v292 =>
 Ld H287 p (Nat.add o 7) fun v293 =>
 Ld H287 p (Nat.add o 6) fun v294 =>
 Call1 Tryz.prog con 135 [v293, v294] H287 fun v295 H296 =>
 Sc v292 (Sc v295 (St H296 p (Nat.add o 8) [v292, v295] fun H297 =>
 Ld H287 p (Nat.add o 6) fun v298 =>
 Same v292 v298 (
 Ld H296 p (Nat.add o 6) fun v299 =>
 Same v292 v299 (
 St H297 p (Nat.add o 0) [(iN (2))] fun H300 =>
 Ld H300 p (Nat.add o 0) fun v301 =>
 AsInt .i64 v301 fun z302 =>
 K (.bool (eqZ z302 (Int.ofNat 2))) H300))))) (
 Ld H287 p (Nat.add o 0) fun v303 =>
 AsInt .i64 v303 fun z304 =>
 K (.bool (eqZ z304 (Int.ofNat 2))) H287)))) (
 Ld H p (Nat.add o 0) fun v305 =>
 AsInt .i64 v305 fun z306 =>
 K (.bool (eqZ z306 (Int.ofNat 2))) H)))) := by kernel_rfl
theorem rRising_W (con : CallT) (v : Value) (b : Nat) (H : CH) (K : KP) : funW Tryz.prog con 135 [v, u64 b] H K =
 (LoopC Tryz.prog con (lpAt Tryz.prog 135 0) (upd (upd (upd (upd (upd (fun _ => undV) 1 (u64 (b))) 0 v) 4 (snil)) 5 (snil)) 6 (iN (0))) H (fun e => ceP e
 (fun a1 H2 =>
 K (a1 5) H2)
 (fun i3 => fun a1 H2 =>
 Cd (eqN i3 0) (
 K (a1 5) H2) (
 False))
 (fun a1 H2 =>
 K (a1 4) H2))) := by kernel_rfl
theorem rSlots_W (con : CallT) (m xa xb : Nat) (z : Int) (xd : Nat) (H : CH) (K : KP) : funW Tryz.prog con 31 [ptr m 0, .agg ⟨[u64 xa, u64 xb, i64 z, u64 xd]⟩] H K =
 (Nw H (mkRow 61 0 [(u64 (xa)), (u64 (xb)), (i64 z), (u64 (xd))]) fun p1 H2 =>
 LoopC Tryz.prog con (lpAt Tryz.prog 31 0) (upd (upd (upd (upd (upd (upd (fun _ => undV) 1 (.agg ⟨[(u64 (xa)), (u64 (xb)), (i64 z), (u64 (xd))]⟩)) 0 (ptr m 0)) 3 (ptr p1 0)) 4 (snil)) 5 (snil)) 6 (iN (0))) H2 (fun e => ceP e
 (fun a3 H4 =>
 K (a3 5) H4)
 (fun i5 => fun a3 H4 =>
 Cd (eqN i5 0) (
 K (a3 5) H4) (
 False))
 (fun a3 H4 =>
 K (a3 4) H4))) := by kernel_rfl
theorem rMake_W (con : CallT) (m : Nat) (t : Int) (cam : Nat) (n : Int) (most : Nat) (H : CH) (K : KP) : funW Tryz.prog con 34 [ptr m 0, i64 t, u64 cam, i64 n, u64 most] H K =
 (Nw H (mkRow 61 0 [(u64 (0)), (u64 (0)), (iN (0)), (u64 (0))]) fun p1 H2 =>
 Cd (ltZ n (Int.ofNat 1)) (
 St H2 p1 0 [(u64 (0)), (u64 (0)), (iN (0)), (u64 (0))] fun H3 =>
 Ld H3 p1 0 fun v4 =>
 Ld H3 p1 1 fun v5 =>
 Ld H3 p1 2 fun v6 =>
 Ld H3 p1 3 fun v7 =>
 K (.tuple ⟨[(.agg ⟨[v4, v5, v6, v7]⟩), (iN (2))]⟩) H3) (
 Cd (ltZ (Int.ofNat 256) n) (
 St H2 p1 0 [(u64 (0)), (u64 (0)), (iN (0)), (u64 (0))] fun H8 =>
 Ld H8 p1 0 fun v9 =>
 Ld H8 p1 1 fun v10 =>
 Ld H8 p1 2 fun v11 =>
 Ld H8 p1 3 fun v12 =>
 K (.tuple ⟨[(.agg ⟨[v9, v10, v11, v12]⟩), (iN (2))]⟩) H8) (
 Cd (ltN most 1) (
 St H2 p1 0 [(u64 (0)), (u64 (0)), (iN (0)), (u64 (0))] fun H13 =>
 Ld H13 p1 0 fun v14 =>
 Ld H13 p1 1 fun v15 =>
 Ld H13 p1 2 fun v16 =>
 Ld H13 p1 3 fun v17 =>
 K (.tuple ⟨[(.agg ⟨[v14, v15, v16, v17]⟩), (iN (2))]⟩) H13) (
 Cd (ltN 1099511627776 most) (
 St H2 p1 0 [(u64 (0)), (u64 (0)), (iN (0)), (u64 (0))] fun H18 =>
 Ld H18 p1 0 fun v19 =>
 Ld H18 p1 1 fun v20 =>
 Ld H18 p1 2 fun v21 =>
 Ld H18 p1 3 fun v22 =>
 K (.tuple ⟨[(.agg ⟨[v19, v20, v21, v22]⟩), (iN (2))]⟩) H18) (
 MkS Tryz.prog H2 36 (i64 n) (i64 n) fun v23 H24 =>
 Call1 Tryz.prog con 12 [(ptr m 0), (i64 t), v23] H24 fun v25 H26 =>
 AsNat .u64 v25 fun n27 =>
 Cd (eqN n27 0) (
 St H26 p1 0 [(u64 (0)), (u64 (0)), (iN (0)), (u64 (0))] fun H28 =>
 Ld H28 p1 0 fun v29 =>
 Ld H28 p1 1 fun v30 =>
 Ld H28 p1 2 fun v31 =>
 Ld H28 p1 3 fun v32 =>
 K (.tuple ⟨[(.agg ⟨[v29, v30, v31, v32]⟩), (iN (30))]⟩) H28) (
 Sc v25 (St H26 p1 0 [(u64 (cam)), v25, (i64 n), (u64 (most))] fun H33 =>
 Ld H33 p1 0 fun v34 =>
 Ld H33 p1 1 fun v35 =>
 Ld H33 p1 2 fun v36 =>
 Ld H33 p1 3 fun v37 =>
 K (.tuple ⟨[(.agg ⟨[v34, v35, v36, v37]⟩), (iN (0))]⟩) H33))))))) := by kernel_rfl
theorem rSameNeed_W (con : CallT) (xa : Nat) (xv : Value) (xb : Nat) (xw : Value) (H : CH) (K : KP) : funW Tryz.prog con 75 [.agg ⟨[u64 xa, xv]⟩, .agg ⟨[u64 xb, xw]⟩] H K =
 (Nw H (mkRow 45 0 [(u64 (xa)), xv]) fun p1 H2 =>
 Nw H2 (mkRow 45 0 [(u64 (xb)), xw]) fun p3 H4 =>
 Ld H4 p1 0 fun v5 =>
 Ld H4 p3 0 fun v6 =>
 AsNat .u64 v5 fun n7 =>
 AsNat .u64 v6 fun n8 =>
 Cd (notB (eqN n7 n8)) (
 K (.bool false) H4) (
 Ld H4 p1 1 fun v9 =>
 AsLen v9 fun l10 =>
 Ld H4 p3 1 fun v11 =>
 AsLen v11 fun l12 =>
 Cd (notB (eqZ (Int.ofNat l10) (Int.ofNat l12))) (
 K (.bool false) H4) (
 LoopC Tryz.prog con (lpAt Tryz.prog 75 0) (upd (upd (upd (upd (upd (upd (upd (upd (upd (upd (upd (upd (upd (upd (upd (upd (upd (upd (upd (upd (upd (upd (upd (upd (upd (upd (upd (fun _ => undV) 1 (.agg ⟨[(u64 (xb)), xw]⟩)) 0 (.agg ⟨[(u64 (xa)), xv]⟩)) 2 (ptr p1 0)) 3 (ptr p3 0)) 4 (.bool false)) 6 (ptr p1 0)) 7 v5) 8 (ptr p3 0)) 9 v6) 10 (.bool (notB (eqN n7 n8)))) 11 (.bool (notB (eqN n7 n8)))) 11 (.bool false)) 12 (ptr p1 1)) 11 (.bool false)) 13 v9) 11 (.bool false)) 14 (iN (l10))) 11 (.bool false)) 15 (ptr p3 1)) 11 (.bool false)) 16 v11) 11 (.bool false)) 17 (iN (l12))) 11 (.bool false)) 18 (.bool (notB (eqZ (Int.ofNat l10) (Int.ofNat l12))))) 19 (.bool (notB (eqZ (Int.ofNat l10) (Int.ofNat l12))))) 5 (iN (0))) H4 (fun e => ceP e
 (fun a13 H14 =>
 K (.bool true) H14)
 (fun i15 => fun a13 H14 =>
 Cd (eqN i15 0) (
 K (.bool true) H14) (
 False))
 (fun a13 H14 =>
 K (a13 4) H14))))) := by kernel_rfl
theorem rBegin13_W (con : CallT) (xa xb : Nat) (z : Int) (xd : Nat) (k : Int) (h : Nat) (v : Value) (H : CH) (K : KP) : funW Tryz.prog con 23 [.agg ⟨[u64 xa, u64 xb, i64 z, u64 xd]⟩, .agg ⟨[i64 k, u64 h]⟩, v] H K =
 (Nw H (mkRow 61 0 [(u64 (xa)), (u64 (xb)), (i64 z), (u64 (xd))]) fun p1 H2 =>
 Nw H2 (mkRow 69 0 [(i64 k), (u64 (h))]) fun p3 H4 =>
 Ld H4 p3 1 fun v5 =>
 Ld H4 p3 0 fun v6 =>
 AsInt .i64 v6 fun z7 =>
 Cd (ltZ z7 (Int.ofNat 0)) (
 Ld H4 p3 1 fun v8 =>
 AsLen v fun l9 =>
 Must (cvOk .i64 (Int.ofNat l9)) (
 AsNat .u64 v8 fun n10 =>
 Cd (ltN n10 (wrapN .u64 (Int.ofNat l9))) (
 Ld H4 p3 1 fun v11 =>
 AsSlc v fun p12 o13 l14 c15 =>
 AsCnt v11 fun n16 =>
 Must (ltN n16 l14) (
 Ld H4 p12 (Nat.add (Nat.add o13 (Nat.mul n16 6)) 0) fun v17 =>
 Ld H4 p3 0 fun v18 =>
 Ld H4 p1 0 fun v19 =>
 Ld H4 p1 1 fun v20 =>
 Ld H4 p1 2 fun v21 =>
 Ld H4 p1 3 fun v22 =>
 Ld H4 p1 0 fun v23 =>
 Ld H4 p1 1 fun v24 =>
 Ld H4 p1 2 fun v25 =>
 Ld H4 p1 3 fun v26 =>
 Sc v17 (Ld H4 p1 0 fun v27 =>
 Ld H4 p1 1 fun v28 =>
 Ld H4 p1 2 fun v29 =>
 Ld H4 p1 3 fun v30 =>
 Sc v18 (Nw H4 (mkRow 85 0 [v18, (iN (0)), v19, v20, v21, v22, (iN (0)), (u64 (0)), (u64 (0)), (u64 (0)), (u64 (0)), (u64 (0)), (iN (0)), (iN (0)), v23, v24, v25, v26, v17, (u64 (0)), (u64 (0)), (u64 (0)), (iN (0)), (iN (0)), v27, v28, v29, v30, (iN (0)), (u64 (0)), (snil), (u64 (0)), (snil), (u64 (0)), (u64 (0)), (iN (0)), (u64 (0)), (snil), (.bool false)]) fun p31 H32 =>
 K (ptr p31 0) H32)))) (
 Ld H4 p3 0 fun v33 =>
 Ld H4 p1 0 fun v34 =>
 Ld H4 p1 1 fun v35 =>
 Ld H4 p1 2 fun v36 =>
 Ld H4 p1 3 fun v37 =>
 Ld H4 p1 0 fun v38 =>
 Ld H4 p1 1 fun v39 =>
 Ld H4 p1 2 fun v40 =>
 Ld H4 p1 3 fun v41 =>
 Ld H4 p1 0 fun v42 =>
 Ld H4 p1 1 fun v43 =>
 Ld H4 p1 2 fun v44 =>
 Ld H4 p1 3 fun v45 =>
 Sc v33 (Nw H4 (mkRow 85 0 [v33, (iN (0)), v34, v35, v36, v37, (iN (0)), (u64 (0)), (u64 (0)), (u64 (0)), (u64 (0)), (u64 (0)), (iN (0)), (iN (0)), v38, v39, v40, v41, (u64 (0)), (u64 (0)), (u64 (0)), (u64 (0)), (iN (0)), (iN (0)), v42, v43, v44, v45, (iN (0)), (u64 (0)), (snil), (u64 (0)), (snil), (u64 (0)), (u64 (0)), (iN (0)), (u64 (0)), (snil), (.bool false)]) fun p46 H47 =>
 K (ptr p46 0) H47)))) (
 Ld H4 p3 0 fun v48 =>
 AsInt .i64 v48 fun z49 =>
 Cd (ltZ (Int.ofNat 2) z49) (
 Ld H4 p3 1 fun v50 =>
 AsLen v fun l51 =>
 Must (cvOk .i64 (Int.ofNat l51)) (
 AsNat .u64 v50 fun n52 =>
 Cd (ltN n52 (wrapN .u64 (Int.ofNat l51))) (
 Ld H4 p3 1 fun v53 =>
 AsSlc v fun p54 o55 l56 c57 =>
 AsCnt v53 fun n58 =>
 Must (ltN n58 l56) (
 Ld H4 p54 (Nat.add (Nat.add o55 (Nat.mul n58 6)) 0) fun v59 =>
 Ld H4 p3 0 fun v60 =>
 Ld H4 p1 0 fun v61 =>
 Ld H4 p1 1 fun v62 =>
 Ld H4 p1 2 fun v63 =>
 Ld H4 p1 3 fun v64 =>
 Ld H4 p1 0 fun v65 =>
 Ld H4 p1 1 fun v66 =>
 Ld H4 p1 2 fun v67 =>
 Ld H4 p1 3 fun v68 =>
 Sc v59 (Ld H4 p1 0 fun v69 =>
 Ld H4 p1 1 fun v70 =>
 Ld H4 p1 2 fun v71 =>
 Ld H4 p1 3 fun v72 =>
 Sc v60 (Nw H4 (mkRow 85 0 [v60, (iN (0)), v61, v62, v63, v64, (iN (0)), (u64 (0)), (u64 (0)), (u64 (0)), (u64 (0)), (u64 (0)), (iN (0)), (iN (0)), v65, v66, v67, v68, v59, (u64 (0)), (u64 (0)), (u64 (0)), (iN (0)), (iN (0)), v69, v70, v71, v72, (iN (0)), (u64 (0)), (snil), (u64 (0)), (snil), (u64 (0)), (u64 (0)), (iN (0)), (u64 (0)), (snil), (.bool false)]) fun p73 H74 =>
 K (ptr p73 0) H74)))) (
 Ld H4 p3 0 fun v75 =>
 Ld H4 p1 0 fun v76 =>
 Ld H4 p1 1 fun v77 =>
 Ld H4 p1 2 fun v78 =>
 Ld H4 p1 3 fun v79 =>
 Ld H4 p1 0 fun v80 =>
 Ld H4 p1 1 fun v81 =>
 Ld H4 p1 2 fun v82 =>
 Ld H4 p1 3 fun v83 =>
 Ld H4 p1 0 fun v84 =>
 Ld H4 p1 1 fun v85 =>
 Ld H4 p1 2 fun v86 =>
 Ld H4 p1 3 fun v87 =>
 Sc v75 (Nw H4 (mkRow 85 0 [v75, (iN (0)), v76, v77, v78, v79, (iN (0)), (u64 (0)), (u64 (0)), (u64 (0)), (u64 (0)), (u64 (0)), (iN (0)), (iN (0)), v80, v81, v82, v83, (u64 (0)), (u64 (0)), (u64 (0)), (u64 (0)), (iN (0)), (iN (0)), v84, v85, v86, v87, (iN (0)), (u64 (0)), (snil), (u64 (0)), (snil), (u64 (0)), (u64 (0)), (iN (0)), (u64 (0)), (snil), (.bool false)]) fun p88 H89 =>
 K (ptr p88 0) H89)))) (
 Ld H4 p3 0 fun v90 =>
 Ld H4 p1 0 fun v91 =>
 Ld H4 p1 1 fun v92 =>
 Ld H4 p1 2 fun v93 =>
 Ld H4 p1 3 fun v94 =>
 Ld H4 p1 0 fun v95 =>
 Ld H4 p1 1 fun v96 =>
 Ld H4 p1 2 fun v97 =>
 Ld H4 p1 3 fun v98 =>
 Sc v5 (Ld H4 p1 0 fun v99 =>
 Ld H4 p1 1 fun v100 =>
 Ld H4 p1 2 fun v101 =>
 Ld H4 p1 3 fun v102 =>
 Sc v90 (Nw H4 (mkRow 85 0 [v90, (iN (0)), v91, v92, v93, v94, (iN (0)), (u64 (0)), (u64 (0)), (u64 (0)), (u64 (0)), (u64 (0)), (iN (0)), (iN (0)), v95, v96, v97, v98, v5, (u64 (0)), (u64 (0)), (u64 (0)), (iN (0)), (iN (0)), v99, v100, v101, v102, (iN (0)), (u64 (0)), (snil), (u64 (0)), (snil), (u64 (0)), (u64 (0)), (iN (0)), (u64 (0)), (snil), (.bool false)]) fun p103 H104 =>
 K (ptr p103 0) H104))))) := by kernel_rfl
theorem rProcStep13_W (con : CallT) (p m : Nat) (t : Int) (H : CH) (K : KP) : funW Tryz.prog con 25 [ptr p 0, ptr m 0, i64 t] H K =
 (Ld H p 0 fun v1 =>
 AsInt .i64 v1 fun z2 =>
 Cd (eqZ z2 (Int.ofNat 0)) (
 Call1 Tryz.prog con 72 [(ptr p 1), (ptr m 0), (i64 t)] H fun v3 H4 =>
 Sc v3 (St H4 p 38 [v3] fun H5 =>
 Ld H5 p 10 fun v6 =>
 Ld H5 p 11 fun v7 =>
 Ld H5 p 12 fun v8 =>
 Sc v6 (St H5 p 33 [v6] fun H9 =>
 Sc v7 (St H9 p 34 [v7] fun H10 =>
 Sc v8 (St H10 p 35 [v8] fun H11 =>
 Ld H11 p 38 fun v12 =>
 K v12 H11))))) (
 AsInt .i64 v1 fun z13 =>
 Cd (eqZ z13 (Int.ofNat 2)) (
 Call1 Tryz.prog con 73 [(ptr p 23), (ptr m 0), (i64 t)] H fun v14 H15 =>
 Sc v14 (St H15 p 38 [v14] fun H16 =>
 Ld H16 p 31 fun v17 =>
 Ld H16 p 32 fun v18 =>
 St H16 p 36 [v17, v18] fun H19 =>
 Ld H19 p 38 fun v20 =>
 K v20 H19)) (
 Call1 Tryz.prog con 74 [(ptr p 13), (ptr m 0), (i64 t)] H fun v21 H22 =>
 Sc v21 (St H22 p 38 [v21] fun H23 =>
 Ld H23 p 22 fun v24 =>
 Sc v24 (St H23 p 35 [v24] fun H25 =>
 Ld H25 p 38 fun v26 =>
 K v26 H25))))) := by kernel_rfl
theorem sortU_W (con : CallT) (v : Value) (H : CH) (K : KP) : funW Tryz.prog con 126 [v] H K =
 (AsLen v fun l1 =>
 Must (cvOk .i64 (Int.ofNat l1)) (
 Call1 Tryz.prog con 149 [(u64 ((wrapN .u64 (Int.ofNat l1))))] H fun v2 H3 =>
 Call1 Tryz.prog con 148 [v, (iN (0)), (iN (l1)), v2] H3 fun v4 H5 =>
 K (.tuple ⟨[]⟩) H5)) := by kernel_rfl
theorem compactU_W (con : CallT) (v : Value) (H : CH) (K : KP) : funW Tryz.prog con 127 [v] H K =
 (AsLen v fun l1 =>
 Cd (ltZ (Int.ofNat l1) (Int.ofNat 2)) (
 K v H) (
 LoopC Tryz.prog con (lpAt Tryz.prog 127 0) (upd (upd (upd (upd (upd (upd (fun _ => undV) 0 v) 2 (snil)) 6 v) 7 (iN (l1))) 8 (.bool (ltZ (Int.ofNat l1) (Int.ofNat 2)))) 3 (iN (1))) H (fun e => ceP e
 (fun a2 H3 =>
 K (a2 0) H3)
 (fun i4 => fun a2 H3 =>
 Cd (eqN i4 0) (
 K (a2 0) H3) (
 False))
 (fun a2 H3 =>
 K (a2 2) H3)))) := by kernel_rfl
theorem annSlotsL_W (con : CallT) (a : TF) (H : CH) (K : KX) : codeW (lpAt Tryz.prog 30 0) Tryz.prog con a H K =
 (AsInt .i64 (a 11) fun z1 =>
 AsInt .i64 (a 10) fun z2 =>
 Cd (ltZ z1 z2) (
 AsPtr (a 3) fun p3 o4 =>
 Ld H p3 (Nat.add o4 0) fun v5 =>
 Ld H p3 (Nat.add o4 1) fun v6 =>
 Ld H p3 (Nat.add o4 2) fun v7 =>
 Ld H p3 (Nat.add o4 3) fun v8 =>
 Call1 Tryz.prog con 83 [(.agg ⟨[v5, v6, v7, v8]⟩), (a 11)] H fun v9 H10 =>
 Call1 Tryz.prog con 48 [(a 0), v9] H10 fun v11 H12 =>
 Call1 Tryz.prog con 82 [v11] H12 fun v13 H14 =>
 AsAgg v13 fun l15 =>
 Must (eqN (lenF l15) 3) (
 Nth l15 0 fun v16 =>
 Nth l15 1 fun v17 =>
 Nth l15 2 fun v18 =>
 Nw H14 (mkRow 202 0 [v16, v17, v18]) fun p19 H20 =>
 App Tryz.prog 87 87 H20 (a 5) (.slice (some ⟨p19, 0, none⟩) 1 1) fun v21 H22 =>
 AsInt .i64 (a 11) fun z23 =>
 InR (Int.add z23 (Int.ofNat 1)) (
 K .normal (upd (upd (upd (upd (upd (upd (upd (upd (upd (upd (upd (upd (upd (upd (upd a 12 (.bool (ltZ z1 z2))) 13 (a 11)) 6 (a 11)) 14 (a 5)) 15 (a 0)) 16 (.agg ⟨[v5, v6, v7, v8]⟩)) 17 (a 11)) 18 v9) 19 v11) 20 v13) 21 (.slice (some ⟨p19, 0, none⟩) 1 1)) 22 v21) 5 v21) 23 (i64 (Int.add z23 (Int.ofNat 1)))) 11 (i64 (Int.add z23 (Int.ofNat 1)))) H22))) (
 K (.exit 0) (upd a 12 (.bool (ltZ z1 z2))) H)) := by kernel_rfl
theorem rSlotsL_W (con : CallT) (a : TF) (H : CH) (K : KX) : codeW (lpAt Tryz.prog 31 0) Tryz.prog con a H K =
 (IsNil .ptr (a 0) fun b1 =>
 Cd (notB b1) (
 AsPtr (a 3) fun p2 o3 =>
 Ld H p2 (Nat.add o3 0) fun v4 =>
 Ld H p2 (Nat.add o3 1) fun v5 =>
 Ld H p2 (Nat.add o3 2) fun v6 =>
 Ld H p2 (Nat.add o3 3) fun v7 =>
 Call1 Tryz.prog con 84 [(.agg ⟨[v4, v5, v6, v7]⟩)] H fun v8 H9 =>
 AsInt .i64 (a 6) fun z10 =>
 AsInt .i64 v8 fun z11 =>
 Cd (ltZ z10 z11) (
 AsPtr (a 3) fun p12 o13 =>
 Ld H9 p12 (Nat.add o13 1) fun v14 =>
 AsInt .i64 (a 6) fun z15 =>
 Must (cvOk .i64 z15) (
 AsNat .u64 v14 fun n16 =>
 Call1 Tryz.prog con 86 [(a 0), (u64 ((Nat.mod (Nat.add n16 (wrapN .u64 z15)) 18446744073709551616)))] H9 fun v17 H18 =>
 Call1 Tryz.prog con 85 [v17] H18 fun v19 H20 =>
 AsAgg v19 fun l21 =>
 Must (eqN (lenF l21) 3) (
 Nth l21 0 fun v22 =>
 Nth l21 1 fun v23 =>
 Nth l21 2 fun v24 =>
 Nw H20 (mkRow 202 0 [v22, v23, v24]) fun p25 H26 =>
 App Tryz.prog 87 87 H26 (a 5) (.slice (some ⟨p25, 0, none⟩) 1 1) fun v27 H28 =>
 AsInt .i64 (a 6) fun z29 =>
 InR (Int.add z29 (Int.ofNat 1)) (
 K .normal (upd (upd (upd (upd (upd (upd (upd (upd (upd (upd (upd (upd (upd (upd (upd (upd (upd (upd (upd (upd (upd (upd (upd (upd (upd (upd (upd a 7 (a 0)) 8 (.bool (notB b1))) 9 (.bool (notB b1))) 9 (.bool true)) 10 (a 6)) 9 (.bool true)) 11 (.agg ⟨[v4, v5, v6, v7]⟩)) 9 (.bool true)) 12 v8) 9 (.bool true)) 13 (.bool (ltZ z10 z11))) 14 (.bool (ltZ z10 z11))) 17 (a 5)) 18 (a 0)) 19 (ptr p12 (Nat.add o13 1))) 20 v14) 21 (a 6)) 22 (u64 ((wrapN .u64 z15)))) 23 (u64 ((Nat.mod (Nat.add n16 (wrapN .u64 z15)) 18446744073709551616)))) 24 v17) 25 v19) 26 (.slice (some ⟨p25, 0, none⟩) 1 1)) 27 v27) 5 v27) 15 (a 6)) 16 (i64 (Int.add z29 (Int.ofNat 1)))) 6 (i64 (Int.add z29 (Int.ofNat 1)))) H28)))) (
 K (.exit 0) (upd (upd (upd (upd (upd (upd (upd (upd (upd (upd (upd (upd a 7 (a 0)) 8 (.bool (notB b1))) 9 (.bool (notB b1))) 9 (.bool true)) 10 (a 6)) 9 (.bool true)) 11 (.agg ⟨[v4, v5, v6, v7]⟩)) 9 (.bool true)) 12 v8) 9 (.bool true)) 13 (.bool (ltZ z10 z11))) 14 (.bool (ltZ z10 z11))) H9)) (
 K (.exit 0) (upd (upd (upd (upd (upd (upd (upd (upd (upd (upd (upd (upd a 7 (a 0)) 8 (.bool (notB b1))) 9 (.bool (notB b1))) 9 (.bool false)) 10 (.tuple ⟨[]⟩)) 9 (.bool false)) 11 (.tuple ⟨[]⟩)) 9 (.bool false)) 12 (.tuple ⟨[]⟩)) 9 (.bool false)) 13 (.tuple ⟨[]⟩)) 14 (.bool false)) H)) := by kernel_rfl
theorem rSameNeedL_W (con : CallT) (a : TF) (H : CH) (K : KX) : codeW (lpAt Tryz.prog 75 0) Tryz.prog con a H K =
 (AsPtr (a 2) fun p1 o2 =>
 Ld H p1 (Nat.add o2 1) fun v3 =>
 AsLen v3 fun l4 =>
 AsInt .i64 (a 5) fun z5 =>
 Cd (ltZ z5 (Int.ofNat l4)) (
 AsPtr (a 2) fun p6 o7 =>
 Ld H p6 (Nat.add o7 1) fun v8 =>
 AsSlc v8 fun p9 o10 l11 c12 =>
 AsCnt (a 5) fun n13 =>
 Must (ltN n13 l11) (
 Ld H p9 (Nat.add o10 (Nat.mul n13 1)) fun v14 =>
 AsPtr (a 3) fun p15 o16 =>
 Ld H p15 (Nat.add o16 1) fun v17 =>
 AsSlc v17 fun p18 o19 l20 c21 =>
 AsCnt (a 5) fun n22 =>
 Must (ltN n22 l20) (
 Ld H p18 (Nat.add o19 (Nat.mul n22 1)) fun v23 =>
 AsNat .u64 v14 fun n24 =>
 AsNat .u64 v23 fun n25 =>
 Cd (notB (eqN n24 n25)) (
 K .ret (upd (upd (upd (upd (upd (upd (upd (upd (upd (upd (upd (upd (upd (upd (upd (upd (upd a 20 (a 5)) 21 (ptr p1 (Nat.add o2 1))) 22 v3) 23 (iN (l4))) 24 (.bool (ltZ z5 (Int.ofNat l4)))) 27 (ptr p6 (Nat.add o7 1))) 28 v8) 29 (a 5)) 30 (ptr p9 (Nat.add o10 (Nat.mul n13 1)))) 31 v14) 32 (ptr p15 (Nat.add o16 1))) 33 v17) 34 (a 5)) 35 (ptr p18 (Nat.add o19 (Nat.mul n22 1)))) 36 v23) 37 (.bool (notB (eqN n24 n25)))) 4 (.bool false)) H) (
 AsInt .i64 (a 5) fun z26 =>
 InR (Int.add z26 (Int.ofNat 1)) (
 K .normal (upd (upd (upd (upd (upd (upd (upd (upd (upd (upd (upd (upd (upd (upd (upd (upd (upd (upd (upd a 20 (a 5)) 21 (ptr p1 (Nat.add o2 1))) 22 v3) 23 (iN (l4))) 24 (.bool (ltZ z5 (Int.ofNat l4)))) 27 (ptr p6 (Nat.add o7 1))) 28 v8) 29 (a 5)) 30 (ptr p9 (Nat.add o10 (Nat.mul n13 1)))) 31 v14) 32 (ptr p15 (Nat.add o16 1))) 33 v17) 34 (a 5)) 35 (ptr p18 (Nat.add o19 (Nat.mul n22 1)))) 36 v23) 37 (.bool (notB (eqN n24 n25)))) 25 (a 5)) 26 (i64 (Int.add z26 (Int.ofNat 1)))) 5 (i64 (Int.add z26 (Int.ofNat 1)))) H))))) (
 K (.exit 0) (upd (upd (upd (upd (upd a 20 (a 5)) 21 (ptr p1 (Nat.add o2 1))) 22 v3) 23 (iN (l4))) 24 (.bool (ltZ z5 (Int.ofNat l4)))) H)) := by kernel_rfl
theorem rRisingA_W (con : CallT) (a : TF) (H : CH) (K : KX) : codeW (lpAt Tryz.prog 135 0) Tryz.prog con a H K =
 (AsLen (a 0) fun l1 =>
 AsInt .i64 (a 6) fun z2 =>
 Cd (ltZ z2 (Int.ofNat l1)) (
 LoopC Tryz.prog con (lpAt Tryz.prog 135 1) (upd (upd (upd (upd (upd a 9 (a 6)) 10 (a 0)) 11 (iN (l1))) 12 (.bool (ltZ z2 (Int.ofNat l1)))) 7 (iN (0))) H (fun e => ceP e
 (fun a3 H4 =>
 AsSlc (a3 0) fun p6 o7 l8 c9 =>
 AsCnt (a3 6) fun n10 =>
 Must (ltN n10 l8) (
 Ld H4 p6 (Nat.add o7 (Nat.mul n10 1)) fun v11 =>
 AsNat .u64 v11 fun n12 =>
 AsNat .u64 (a3 1) fun n13 =>
 Cd (leN n13 n12) (
 AsInt .i64 (a3 6) fun z14 =>
 InR (Int.add z14 (Int.ofNat 1)) (
 K .normal (upd (upd (upd (upd (upd (upd (upd (upd (upd (upd (upd (upd (upd (upd (upd (upd (upd (upd (upd (upd (upd (upd (upd (upd (upd (upd (upd (upd (upd (upd (upd (upd (upd (upd (upd (upd (upd (upd (upd (upd (upd a3 32 (a3 0)) 33 (a3 6)) 34 (ptr p6 (Nat.add o7 (Nat.mul n10 1)))) 35 v11) 36 (a3 1)) 37 (.bool (leN n13 n12))) 38 (.bool (leN n13 n12))) 38 (.bool true)) 39 (.tuple ⟨[]⟩)) 38 (.bool true)) 40 (.tuple ⟨[]⟩)) 38 (.bool true)) 41 (.tuple ⟨[]⟩)) 38 (.bool true)) 42 (.tuple ⟨[]⟩)) 38 (.bool true)) 43 (.tuple ⟨[]⟩)) 43 (.tuple ⟨[]⟩)) 44 (.tuple ⟨[]⟩)) 43 (.tuple ⟨[]⟩)) 45 (.tuple ⟨[]⟩)) 43 (.tuple ⟨[]⟩)) 46 (.tuple ⟨[]⟩)) 43 (.tuple ⟨[]⟩)) 47 (.tuple ⟨[]⟩)) 43 (.tuple ⟨[]⟩)) 48 (.tuple ⟨[]⟩)) 43 (.tuple ⟨[]⟩)) 49 (.tuple ⟨[]⟩)) 43 (.tuple ⟨[]⟩)) 50 (.tuple ⟨[]⟩)) 43 (.tuple ⟨[]⟩)) 51 (.tuple ⟨[]⟩)) 43 (.tuple ⟨[]⟩)) 52 (.tuple ⟨[]⟩)) 38 (.bool true)) 53 (.tuple ⟨[]⟩)) 54 (.bool true)) 13 (a3 6)) 14 (i64 (Int.add z14 (Int.ofNat 1)))) 6 (i64 (Int.add z14 (Int.ofNat 1)))) H4)) (
 AsLen (a3 5) fun l15 =>
 AsInt .i64 (a3 7) fun z16 =>
 Cd (ltZ z16 (Int.ofNat l15)) (
 AsSlc (a3 5) fun p17 o18 l19 c20 =>
 AsCnt (a3 7) fun n21 =>
 Must (ltN n21 l19) (
 Ld H4 p17 (Nat.add o18 (Nat.mul n21 1)) fun v22 =>
 AsSlc (a3 0) fun p23 o24 l25 c26 =>
 AsCnt (a3 6) fun n27 =>
 Must (ltN n27 l25) (
 Ld H4 p23 (Nat.add o24 (Nat.mul n27 1)) fun v28 =>
 AsNat .u64 v22 fun n29 =>
 AsNat .u64 v28 fun n30 =>
 Cd (eqN n29 n30) (
 AsInt .i64 (a3 6) fun z31 =>
 InR (Int.add z31 (Int.ofNat 1)) (
 K .normal (upd (upd (upd (upd (upd (upd (upd (upd (upd (upd (upd (upd (upd (upd (upd (upd (upd (upd (upd (upd (upd (upd (upd (upd (upd (upd (upd (upd (upd (upd (upd (upd (upd (upd (upd (upd (upd (upd (upd (upd (upd a3 32 (a3 0)) 33 (a3 6)) 34 (ptr p6 (Nat.add o7 (Nat.mul n10 1)))) 35 v11) 36 (a3 1)) 37 (.bool (leN n13 n12))) 38 (.bool (leN n13 n12))) 38 (.bool false)) 39 (a3 7)) 38 (.bool false)) 40 (a3 5)) 38 (.bool false)) 41 (iN (l15))) 38 (.bool false)) 42 (.bool (ltZ z16 (Int.ofNat l15)))) 38 (.bool false)) 43 (.bool (ltZ z16 (Int.ofNat l15)))) 43 (.bool true)) 44 (a3 5)) 43 (.bool true)) 45 (a3 7)) 43 (.bool true)) 46 (ptr p17 (Nat.add o18 (Nat.mul n21 1)))) 43 (.bool true)) 47 v22) 43 (.bool true)) 48 (a3 0)) 43 (.bool true)) 49 (a3 6)) 43 (.bool true)) 50 (ptr p23 (Nat.add o24 (Nat.mul n27 1)))) 43 (.bool true)) 51 v28) 43 (.bool true)) 52 (.bool (eqN n29 n30))) 38 (.bool false)) 53 (.bool (eqN n29 n30))) 54 (.bool (eqN n29 n30))) 13 (a3 6)) 14 (i64 (Int.add z31 (Int.ofNat 1)))) 6 (i64 (Int.add z31 (Int.ofNat 1)))) H4)) (
 Nw H4 (mkRow 32 0 [(u64 (0))]) fun p32 H33 =>
 App Tryz.prog 36 36 H33 (a3 5) (.slice (some ⟨p32, 0, none⟩) 1 1) fun v34 H35 =>
 AsLen v34 fun l36 =>
 InR (Int.sub (Int.ofNat l36) (Int.ofNat 1)) (
 LoopC Tryz.prog con (lpAt Tryz.prog 135 2) (upd (upd (upd (upd (upd (upd (upd (upd (upd (upd (upd (upd (upd (upd (upd (upd (upd (upd (upd (upd (upd (upd (upd (upd (upd (upd (upd (upd (upd (upd (upd (upd (upd (upd (upd (upd (upd (upd (upd (upd (upd (upd (upd (upd (upd (upd a3 32 (a3 0)) 33 (a3 6)) 34 (ptr p6 (Nat.add o7 (Nat.mul n10 1)))) 35 v11) 36 (a3 1)) 37 (.bool (leN n13 n12))) 38 (.bool (leN n13 n12))) 38 (.bool false)) 39 (a3 7)) 38 (.bool false)) 40 (a3 5)) 38 (.bool false)) 41 (iN (l15))) 38 (.bool false)) 42 (.bool (ltZ z16 (Int.ofNat l15)))) 38 (.bool false)) 43 (.bool (ltZ z16 (Int.ofNat l15)))) 43 (.bool true)) 44 (a3 5)) 43 (.bool true)) 45 (a3 7)) 43 (.bool true)) 46 (ptr p17 (Nat.add o18 (Nat.mul n21 1)))) 43 (.bool true)) 47 v22) 43 (.bool true)) 48 (a3 0)) 43 (.bool true)) 49 (a3 6)) 43 (.bool true)) 50 (ptr p23 (Nat.add o24 (Nat.mul n27 1)))) 43 (.bool true)) 51 v28) 43 (.bool true)) 52 (.bool (eqN n29 n30))) 38 (.bool false)) 53 (.bool (eqN n29 n30))) 54 (.bool (eqN n29 n30))) 55 (a3 5)) 56 (.slice (some ⟨p32, 0, none⟩) 1 1)) 57 v34) 5 v34) 58 v34) 59 (iN (l36))) 60 (i64 (Int.sub (Int.ofNat l36) (Int.ofNat 1)))) 8 (i64 (Int.sub (Int.ofNat l36) (Int.ofNat 1)))) H35 (fun e => ceP e
 (fun a37 H38 =>
 AsSlc (a37 0) fun p40 o41 l42 c43 =>
 AsCnt (a37 6) fun n44 =>
 Must (ltN n44 l42) (
 Ld H38 p40 (Nat.add o41 (Nat.mul n44 1)) fun v45 =>
 AsSlc (a37 5) fun p46 o47 l48 c49 =>
 AsCnt (a37 7) fun n50 =>
 Must (ltN n50 l48) (
 Sc v45 (St H38 p46 (Nat.add o47 (Nat.mul n50 1)) [v45] fun H51 =>
 AsInt .i64 (a37 6) fun z52 =>
 InR (Int.add z52 (Int.ofNat 1)) (
 K .normal (upd (upd (upd (upd (upd (upd (upd (upd (upd (upd a37 74 (a37 5)) 75 (a37 7)) 76 (a37 0)) 77 (a37 6)) 78 (ptr p40 (Nat.add o41 (Nat.mul n44 1)))) 79 v45) 80 (ptr p46 (Nat.add o47 (Nat.mul n50 1)))) 13 (a37 6)) 14 (i64 (Int.add z52 (Int.ofNat 1)))) 6 (i64 (Int.add z52 (Int.ofNat 1)))) H51)))))
 (fun i39 => fun a37 H38 =>
 Cd (eqN i39 4) (
 AsSlc (a37 0) fun p53 o54 l55 c56 =>
 AsCnt (a37 6) fun n57 =>
 Must (ltN n57 l55) (
 Ld H38 p53 (Nat.add o54 (Nat.mul n57 1)) fun v58 =>
 AsSlc (a37 5) fun p59 o60 l61 c62 =>
 AsCnt (a37 7) fun n63 =>
 Must (ltN n63 l61) (
 Sc v58 (St H38 p59 (Nat.add o60 (Nat.mul n63 1)) [v58] fun H64 =>
 AsInt .i64 (a37 6) fun z65 =>
 InR (Int.add z65 (Int.ofNat 1)) (
 K .normal (upd (upd (upd (upd (upd (upd (upd (upd (upd (upd a37 74 (a37 5)) 75 (a37 7)) 76 (a37 0)) 77 (a37 6)) 78 (ptr p53 (Nat.add o54 (Nat.mul n57 1)))) 79 v58) 80 (ptr p59 (Nat.add o60 (Nat.mul n63 1)))) 13 (a37 6)) 14 (i64 (Int.add z65 (Int.ofNat 1)))) 6 (i64 (Int.add z65 (Int.ofNat 1)))) H64))))) (
 Cd (eqN i39 1) (
 AsInt .i64 (a37 6) fun z66 =>
 InR (Int.add z66 (Int.ofNat 1)) (
 K .normal (upd (upd (upd a37 13 (a37 6)) 14 (i64 (Int.add z66 (Int.ofNat 1)))) 6 (i64 (Int.add z66 (Int.ofNat 1)))) H38)) (
 K (.exit i39) a37 H38)))
 (fun a37 H38 =>
 K .ret a37 H38))))))) (
 Nw H4 (mkRow 32 0 [(u64 (0))]) fun p67 H68 =>
 App Tryz.prog 36 36 H68 (a3 5) (.slice (some ⟨p67, 0, none⟩) 1 1) fun v69 H70 =>
 AsLen v69 fun l71 =>
 InR (Int.sub (Int.ofNat l71) (Int.ofNat 1)) (
 LoopC Tryz.prog con (lpAt Tryz.prog 135 2) (upd (upd (upd (upd (upd (upd (upd (upd (upd (upd (upd (upd (upd (upd (upd (upd (upd (upd (upd (upd (upd (upd (upd (upd (upd (upd (upd (upd (upd (upd (upd (upd (upd (upd (upd (upd (upd (upd (upd (upd (upd (upd (upd (upd (upd (upd a3 32 (a3 0)) 33 (a3 6)) 34 (ptr p6 (Nat.add o7 (Nat.mul n10 1)))) 35 v11) 36 (a3 1)) 37 (.bool (leN n13 n12))) 38 (.bool (leN n13 n12))) 38 (.bool false)) 39 (a3 7)) 38 (.bool false)) 40 (a3 5)) 38 (.bool false)) 41 (iN (l15))) 38 (.bool false)) 42 (.bool (ltZ z16 (Int.ofNat l15)))) 38 (.bool false)) 43 (.bool (ltZ z16 (Int.ofNat l15)))) 43 (.bool false)) 44 (.tuple ⟨[]⟩)) 43 (.bool false)) 45 (.tuple ⟨[]⟩)) 43 (.bool false)) 46 (.tuple ⟨[]⟩)) 43 (.bool false)) 47 (.tuple ⟨[]⟩)) 43 (.bool false)) 48 (.tuple ⟨[]⟩)) 43 (.bool false)) 49 (.tuple ⟨[]⟩)) 43 (.bool false)) 50 (.tuple ⟨[]⟩)) 43 (.bool false)) 51 (.tuple ⟨[]⟩)) 43 (.bool false)) 52 (.tuple ⟨[]⟩)) 38 (.bool false)) 53 (.bool false)) 54 (.bool false)) 55 (a3 5)) 56 (.slice (some ⟨p67, 0, none⟩) 1 1)) 57 v69) 5 v69) 58 v69) 59 (iN (l71))) 60 (i64 (Int.sub (Int.ofNat l71) (Int.ofNat 1)))) 8 (i64 (Int.sub (Int.ofNat l71) (Int.ofNat 1)))) H70 (fun e => ceP e
 (fun a72 H73 =>
 AsSlc (a72 0) fun p75 o76 l77 c78 =>
 AsCnt (a72 6) fun n79 =>
 Must (ltN n79 l77) (
 Ld H73 p75 (Nat.add o76 (Nat.mul n79 1)) fun v80 =>
 AsSlc (a72 5) fun p81 o82 l83 c84 =>
 AsCnt (a72 7) fun n85 =>
 Must (ltN n85 l83) (
 Sc v80 (St H73 p81 (Nat.add o82 (Nat.mul n85 1)) [v80] fun H86 =>
 AsInt .i64 (a72 6) fun z87 =>
 InR (Int.add z87 (Int.ofNat 1)) (
 K .normal (upd (upd (upd (upd (upd (upd (upd (upd (upd (upd a72 74 (a72 5)) 75 (a72 7)) 76 (a72 0)) 77 (a72 6)) 78 (ptr p75 (Nat.add o76 (Nat.mul n79 1)))) 79 v80) 80 (ptr p81 (Nat.add o82 (Nat.mul n85 1)))) 13 (a72 6)) 14 (i64 (Int.add z87 (Int.ofNat 1)))) 6 (i64 (Int.add z87 (Int.ofNat 1)))) H86)))))
 (fun i74 => fun a72 H73 =>
 Cd (eqN i74 4) (
 AsSlc (a72 0) fun p88 o89 l90 c91 =>
 AsCnt (a72 6) fun n92 =>
 Must (ltN n92 l90) (
 Ld H73 p88 (Nat.add o89 (Nat.mul n92 1)) fun v93 =>
 AsSlc (a72 5) fun p94 o95 l96 c97 =>
 AsCnt (a72 7) fun n98 =>
 Must (ltN n98 l96) (
 Sc v93 (St H73 p94 (Nat.add o95 (Nat.mul n98 1)) [v93] fun H99 =>
 AsInt .i64 (a72 6) fun z100 =>
 InR (Int.add z100 (Int.ofNat 1)) (
 K .normal (upd (upd (upd (upd (upd (upd (upd (upd (upd (upd a72 74 (a72 5)) 75 (a72 7)) 76 (a72 0)) 77 (a72 6)) 78 (ptr p88 (Nat.add o89 (Nat.mul n92 1)))) 79 v93) 80 (ptr p94 (Nat.add o95 (Nat.mul n98 1)))) 13 (a72 6)) 14 (i64 (Int.add z100 (Int.ofNat 1)))) 6 (i64 (Int.add z100 (Int.ofNat 1)))) H99))))) (
 Cd (eqN i74 1) (
 AsInt .i64 (a72 6) fun z101 =>
 InR (Int.add z101 (Int.ofNat 1)) (
 K .normal (upd (upd (upd a72 13 (a72 6)) 14 (i64 (Int.add z101 (Int.ofNat 1)))) 6 (i64 (Int.add z101 (Int.ofNat 1)))) H73)) (
 K (.exit i74) a72 H73)))
 (fun a72 H73 =>
 K .ret a72 H73)))))))
 (fun i5 => fun a3 H4 =>
 Cd (eqN i5 2) (
 AsSlc (a3 0) fun p102 o103 l104 c105 =>
 AsCnt (a3 6) fun n106 =>
 Must (ltN n106 l104) (
 Ld H4 p102 (Nat.add o103 (Nat.mul n106 1)) fun v107 =>
 AsNat .u64 v107 fun n108 =>
 AsNat .u64 (a3 1) fun n109 =>
 Cd (leN n109 n108) (
 AsInt .i64 (a3 6) fun z110 =>
 InR (Int.add z110 (Int.ofNat 1)) (
 K .normal (upd (upd (upd (upd (upd (upd (upd (upd (upd (upd (upd (upd (upd (upd (upd (upd (upd (upd (upd (upd (upd (upd (upd (upd (upd (upd (upd (upd (upd (upd (upd (upd (upd (upd (upd (upd (upd (upd (upd (upd (upd a3 32 (a3 0)) 33 (a3 6)) 34 (ptr p102 (Nat.add o103 (Nat.mul n106 1)))) 35 v107) 36 (a3 1)) 37 (.bool (leN n109 n108))) 38 (.bool (leN n109 n108))) 38 (.bool true)) 39 (.tuple ⟨[]⟩)) 38 (.bool true)) 40 (.tuple ⟨[]⟩)) 38 (.bool true)) 41 (.tuple ⟨[]⟩)) 38 (.bool true)) 42 (.tuple ⟨[]⟩)) 38 (.bool true)) 43 (.tuple ⟨[]⟩)) 43 (.tuple ⟨[]⟩)) 44 (.tuple ⟨[]⟩)) 43 (.tuple ⟨[]⟩)) 45 (.tuple ⟨[]⟩)) 43 (.tuple ⟨[]⟩)) 46 (.tuple ⟨[]⟩)) 43 (.tuple ⟨[]⟩)) 47 (.tuple ⟨[]⟩)) 43 (.tuple ⟨[]⟩)) 48 (.tuple ⟨[]⟩)) 43 (.tuple ⟨[]⟩)) 49 (.tuple ⟨[]⟩)) 43 (.tuple ⟨[]⟩)) 50 (.tuple ⟨[]⟩)) 43 (.tuple ⟨[]⟩)) 51 (.tuple ⟨[]⟩)) 43 (.tuple ⟨[]⟩)) 52 (.tuple ⟨[]⟩)) 38 (.bool true)) 53 (.tuple ⟨[]⟩)) 54 (.bool true)) 13 (a3 6)) 14 (i64 (Int.add z110 (Int.ofNat 1)))) 6 (i64 (Int.add z110 (Int.ofNat 1)))) H4)) (
 AsLen (a3 5) fun l111 =>
 AsInt .i64 (a3 7) fun z112 =>
 Cd (ltZ z112 (Int.ofNat l111)) (
 AsSlc (a3 5) fun p113 o114 l115 c116 =>
 AsCnt (a3 7) fun n117 =>
 Must (ltN n117 l115) (
 Ld H4 p113 (Nat.add o114 (Nat.mul n117 1)) fun v118 =>
 AsSlc (a3 0) fun p119 o120 l121 c122 =>
 AsCnt (a3 6) fun n123 =>
 Must (ltN n123 l121) (
 Ld H4 p119 (Nat.add o120 (Nat.mul n123 1)) fun v124 =>
 AsNat .u64 v118 fun n125 =>
 AsNat .u64 v124 fun n126 =>
 Cd (eqN n125 n126) (
 AsInt .i64 (a3 6) fun z127 =>
 InR (Int.add z127 (Int.ofNat 1)) (
 K .normal (upd (upd (upd (upd (upd (upd (upd (upd (upd (upd (upd (upd (upd (upd (upd (upd (upd (upd (upd (upd (upd (upd (upd (upd (upd (upd (upd (upd (upd (upd (upd (upd (upd (upd (upd (upd (upd (upd (upd (upd (upd a3 32 (a3 0)) 33 (a3 6)) 34 (ptr p102 (Nat.add o103 (Nat.mul n106 1)))) 35 v107) 36 (a3 1)) 37 (.bool (leN n109 n108))) 38 (.bool (leN n109 n108))) 38 (.bool false)) 39 (a3 7)) 38 (.bool false)) 40 (a3 5)) 38 (.bool false)) 41 (iN (l111))) 38 (.bool false)) 42 (.bool (ltZ z112 (Int.ofNat l111)))) 38 (.bool false)) 43 (.bool (ltZ z112 (Int.ofNat l111)))) 43 (.bool true)) 44 (a3 5)) 43 (.bool true)) 45 (a3 7)) 43 (.bool true)) 46 (ptr p113 (Nat.add o114 (Nat.mul n117 1)))) 43 (.bool true)) 47 v118) 43 (.bool true)) 48 (a3 0)) 43 (.bool true)) 49 (a3 6)) 43 (.bool true)) 50 (ptr p119 (Nat.add o120 (Nat.mul n123 1)))) 43 (.bool true)) 51 v124) 43 (.bool true)) 52 (.bool (eqN n125 n126))) 38 (.bool false)) 53 (.bool (eqN n125 n126))) 54 (.bool (eqN n125 n126))) 13 (a3 6)) 14 (i64 (Int.add z127 (Int.ofNat 1)))) 6 (i64 (Int.add z127 (Int.ofNat 1)))) H4)) (
 Nw H4 (mkRow 32 0 [(u64 (0))]) fun p128 H129 =>
 App Tryz.prog 36 36 H129 (a3 5) (.slice (some ⟨p128, 0, none⟩) 1 1) fun v130 H131 =>
 AsLen v130 fun l132 =>
 InR (Int.sub (Int.ofNat l132) (Int.ofNat 1)) (
 LoopC Tryz.prog con (lpAt Tryz.prog 135 2) (upd (upd (upd (upd (upd (upd (upd (upd (upd (upd (upd (upd (upd (upd (upd (upd (upd (upd (upd (upd (upd (upd (upd (upd (upd (upd (upd (upd (upd (upd (upd (upd (upd (upd (upd (upd (upd (upd (upd (upd (upd (upd (upd (upd (upd (upd a3 32 (a3 0)) 33 (a3 6)) 34 (ptr p102 (Nat.add o103 (Nat.mul n106 1)))) 35 v107) 36 (a3 1)) 37 (.bool (leN n109 n108))) 38 (.bool (leN n109 n108))) 38 (.bool false)) 39 (a3 7)) 38 (.bool false)) 40 (a3 5)) 38 (.bool false)) 41 (iN (l111))) 38 (.bool false)) 42 (.bool (ltZ z112 (Int.ofNat l111)))) 38 (.bool false)) 43 (.bool (ltZ z112 (Int.ofNat l111)))) 43 (.bool true)) 44 (a3 5)) 43 (.bool true)) 45 (a3 7)) 43 (.bool true)) 46 (ptr p113 (Nat.add o114 (Nat.mul n117 1)))) 43 (.bool true)) 47 v118) 43 (.bool true)) 48 (a3 0)) 43 (.bool true)) 49 (a3 6)) 43 (.bool true)) 50 (ptr p119 (Nat.add o120 (Nat.mul n123 1)))) 43 (.bool true)) 51 v124) 43 (.bool true)) 52 (.bool (eqN n125 n126))) 38 (.bool false)) 53 (.bool (eqN n125 n126))) 54 (.bool (eqN n125 n126))) 55 (a3 5)) 56 (.slice (some ⟨p128, 0, none⟩) 1 1)) 57 v130) 5 v130) 58 v130) 59 (iN (l132))) 60 (i64 (Int.sub (Int.ofNat l132) (Int.ofNat 1)))) 8 (i64 (Int.sub (Int.ofNat l132) (Int.ofNat 1)))) H131 (fun e => ceP e
 (fun a133 H134 =>
 AsSlc (a133 0) fun p136 o137 l138 c139 =>
 AsCnt (a133 6) fun n140 =>
 Must (ltN n140 l138) (
 Ld H134 p136 (Nat.add o137 (Nat.mul n140 1)) fun v141 =>
 AsSlc (a133 5) fun p142 o143 l144 c145 =>
 AsCnt (a133 7) fun n146 =>
 Must (ltN n146 l144) (
 Sc v141 (St H134 p142 (Nat.add o143 (Nat.mul n146 1)) [v141] fun H147 =>
 AsInt .i64 (a133 6) fun z148 =>
 InR (Int.add z148 (Int.ofNat 1)) (
 K .normal (upd (upd (upd (upd (upd (upd (upd (upd (upd (upd a133 74 (a133 5)) 75 (a133 7)) 76 (a133 0)) 77 (a133 6)) 78 (ptr p136 (Nat.add o137 (Nat.mul n140 1)))) 79 v141) 80 (ptr p142 (Nat.add o143 (Nat.mul n146 1)))) 13 (a133 6)) 14 (i64 (Int.add z148 (Int.ofNat 1)))) 6 (i64 (Int.add z148 (Int.ofNat 1)))) H147)))))
 (fun i135 => fun a133 H134 =>
 Cd (eqN i135 4) (
 AsSlc (a133 0) fun p149 o150 l151 c152 =>
 AsCnt (a133 6) fun n153 =>
 Must (ltN n153 l151) (
 Ld H134 p149 (Nat.add o150 (Nat.mul n153 1)) fun v154 =>
 AsSlc (a133 5) fun p155 o156 l157 c158 =>
 AsCnt (a133 7) fun n159 =>
 Must (ltN n159 l157) (
 Sc v154 (St H134 p155 (Nat.add o156 (Nat.mul n159 1)) [v154] fun H160 =>
 AsInt .i64 (a133 6) fun z161 =>
 InR (Int.add z161 (Int.ofNat 1)) (
 K .normal (upd (upd (upd (upd (upd (upd (upd (upd (upd (upd a133 74 (a133 5)) 75 (a133 7)) 76 (a133 0)) 77 (a133 6)) 78 (ptr p149 (Nat.add o150 (Nat.mul n153 1)))) 79 v154) 80 (ptr p155 (Nat.add o156 (Nat.mul n159 1)))) 13 (a133 6)) 14 (i64 (Int.add z161 (Int.ofNat 1)))) 6 (i64 (Int.add z161 (Int.ofNat 1)))) H160))))) (
 Cd (eqN i135 1) (
 AsInt .i64 (a133 6) fun z162 =>
 InR (Int.add z162 (Int.ofNat 1)) (
 K .normal (upd (upd (upd a133 13 (a133 6)) 14 (i64 (Int.add z162 (Int.ofNat 1)))) 6 (i64 (Int.add z162 (Int.ofNat 1)))) H134)) (
 K (.exit i135) a133 H134)))
 (fun a133 H134 =>
 K .ret a133 H134))))))) (
 Nw H4 (mkRow 32 0 [(u64 (0))]) fun p163 H164 =>
 App Tryz.prog 36 36 H164 (a3 5) (.slice (some ⟨p163, 0, none⟩) 1 1) fun v165 H166 =>
 AsLen v165 fun l167 =>
 InR (Int.sub (Int.ofNat l167) (Int.ofNat 1)) (
 LoopC Tryz.prog con (lpAt Tryz.prog 135 2) (upd (upd (upd (upd (upd (upd (upd (upd (upd (upd (upd (upd (upd (upd (upd (upd (upd (upd (upd (upd (upd (upd (upd (upd (upd (upd (upd (upd (upd (upd (upd (upd (upd (upd (upd (upd (upd (upd (upd (upd (upd (upd (upd (upd (upd (upd a3 32 (a3 0)) 33 (a3 6)) 34 (ptr p102 (Nat.add o103 (Nat.mul n106 1)))) 35 v107) 36 (a3 1)) 37 (.bool (leN n109 n108))) 38 (.bool (leN n109 n108))) 38 (.bool false)) 39 (a3 7)) 38 (.bool false)) 40 (a3 5)) 38 (.bool false)) 41 (iN (l111))) 38 (.bool false)) 42 (.bool (ltZ z112 (Int.ofNat l111)))) 38 (.bool false)) 43 (.bool (ltZ z112 (Int.ofNat l111)))) 43 (.bool false)) 44 (.tuple ⟨[]⟩)) 43 (.bool false)) 45 (.tuple ⟨[]⟩)) 43 (.bool false)) 46 (.tuple ⟨[]⟩)) 43 (.bool false)) 47 (.tuple ⟨[]⟩)) 43 (.bool false)) 48 (.tuple ⟨[]⟩)) 43 (.bool false)) 49 (.tuple ⟨[]⟩)) 43 (.bool false)) 50 (.tuple ⟨[]⟩)) 43 (.bool false)) 51 (.tuple ⟨[]⟩)) 43 (.bool false)) 52 (.tuple ⟨[]⟩)) 38 (.bool false)) 53 (.bool false)) 54 (.bool false)) 55 (a3 5)) 56 (.slice (some ⟨p163, 0, none⟩) 1 1)) 57 v165) 5 v165) 58 v165) 59 (iN (l167))) 60 (i64 (Int.sub (Int.ofNat l167) (Int.ofNat 1)))) 8 (i64 (Int.sub (Int.ofNat l167) (Int.ofNat 1)))) H166 (fun e => ceP e
 (fun a168 H169 =>
 AsSlc (a168 0) fun p171 o172 l173 c174 =>
 AsCnt (a168 6) fun n175 =>
 Must (ltN n175 l173) (
 Ld H169 p171 (Nat.add o172 (Nat.mul n175 1)) fun v176 =>
 AsSlc (a168 5) fun p177 o178 l179 c180 =>
 AsCnt (a168 7) fun n181 =>
 Must (ltN n181 l179) (
 Sc v176 (St H169 p177 (Nat.add o178 (Nat.mul n181 1)) [v176] fun H182 =>
 AsInt .i64 (a168 6) fun z183 =>
 InR (Int.add z183 (Int.ofNat 1)) (
 K .normal (upd (upd (upd (upd (upd (upd (upd (upd (upd (upd a168 74 (a168 5)) 75 (a168 7)) 76 (a168 0)) 77 (a168 6)) 78 (ptr p171 (Nat.add o172 (Nat.mul n175 1)))) 79 v176) 80 (ptr p177 (Nat.add o178 (Nat.mul n181 1)))) 13 (a168 6)) 14 (i64 (Int.add z183 (Int.ofNat 1)))) 6 (i64 (Int.add z183 (Int.ofNat 1)))) H182)))))
 (fun i170 => fun a168 H169 =>
 Cd (eqN i170 4) (
 AsSlc (a168 0) fun p184 o185 l186 c187 =>
 AsCnt (a168 6) fun n188 =>
 Must (ltN n188 l186) (
 Ld H169 p184 (Nat.add o185 (Nat.mul n188 1)) fun v189 =>
 AsSlc (a168 5) fun p190 o191 l192 c193 =>
 AsCnt (a168 7) fun n194 =>
 Must (ltN n194 l192) (
 Sc v189 (St H169 p190 (Nat.add o191 (Nat.mul n194 1)) [v189] fun H195 =>
 AsInt .i64 (a168 6) fun z196 =>
 InR (Int.add z196 (Int.ofNat 1)) (
 K .normal (upd (upd (upd (upd (upd (upd (upd (upd (upd (upd a168 74 (a168 5)) 75 (a168 7)) 76 (a168 0)) 77 (a168 6)) 78 (ptr p184 (Nat.add o185 (Nat.mul n188 1)))) 79 v189) 80 (ptr p190 (Nat.add o191 (Nat.mul n194 1)))) 13 (a168 6)) 14 (i64 (Int.add z196 (Int.ofNat 1)))) 6 (i64 (Int.add z196 (Int.ofNat 1)))) H195))))) (
 Cd (eqN i170 1) (
 AsInt .i64 (a168 6) fun z197 =>
 InR (Int.add z197 (Int.ofNat 1)) (
 K .normal (upd (upd (upd a168 13 (a168 6)) 14 (i64 (Int.add z197 (Int.ofNat 1)))) 6 (i64 (Int.add z197 (Int.ofNat 1)))) H169)) (
 K (.exit i170) a168 H169)))
 (fun a168 H169 =>
 K .ret a168 H169))))))) (
 Cd (eqN i5 1) (
 AsInt .i64 (a3 6) fun z198 =>
 InR (Int.add z198 (Int.ofNat 1)) (
 K .normal (upd (upd (upd a3 13 (a3 6)) 14 (i64 (Int.add z198 (Int.ofNat 1)))) 6 (i64 (Int.add z198 (Int.ofNat 1)))) H4)) (
 K (.exit i5) a3 H4)))
 (fun a3 H4 =>
 K .ret a3 H4))) (
 K (.exit 0) (upd (upd (upd (upd a 9 (a 6)) 10 (a 0)) 11 (iN (l1))) 12 (.bool (ltZ z2 (Int.ofNat l1)))) H)) := by kernel_rfl
theorem rRisingB_W (con : CallT) (a : TF) (H : CH) (K : KX) : codeW (lpAt Tryz.prog 135 1) Tryz.prog con a H K =
 (AsLen (a 5) fun l1 =>
 AsInt .i64 (a 7) fun z2 =>
 Cd (ltZ z2 (Int.ofNat l1)) (
 AsSlc (a 5) fun p3 o4 l5 c6 =>
 AsCnt (a 7) fun n7 =>
 Must (ltN n7 l5) (
 Ld H p3 (Nat.add o4 (Nat.mul n7 1)) fun v8 =>
 AsSlc (a 0) fun p9 o10 l11 c12 =>
 AsCnt (a 6) fun n13 =>
 Must (ltN n13 l11) (
 Ld H p9 (Nat.add o10 (Nat.mul n13 1)) fun v14 =>
 AsNat .u64 v8 fun n15 =>
 AsNat .u64 v14 fun n16 =>
 Cd (ltN n15 n16) (
 AsInt .i64 (a 7) fun z17 =>
 InR (Int.add z17 (Int.ofNat 1)) (
 K .normal (upd (upd (upd (upd (upd (upd (upd (upd (upd (upd (upd (upd (upd (upd (upd (upd (upd (upd (upd (upd (upd (upd (upd (upd (upd (upd (upd a 15 (a 7)) 16 (a 5)) 17 (iN (l1))) 18 (.bool (ltZ z2 (Int.ofNat l1)))) 19 (.bool (ltZ z2 (Int.ofNat l1)))) 19 (.bool true)) 20 (a 5)) 19 (.bool true)) 21 (a 7)) 19 (.bool true)) 22 (ptr p3 (Nat.add o4 (Nat.mul n7 1)))) 19 (.bool true)) 23 v8) 19 (.bool true)) 24 (a 0)) 19 (.bool true)) 25 (a 6)) 19 (.bool true)) 26 (ptr p9 (Nat.add o10 (Nat.mul n13 1)))) 19 (.bool true)) 27 v14) 19 (.bool true)) 28 (.bool (ltN n15 n16))) 29 (.bool (ltN n15 n16))) 30 (a 7)) 31 (i64 (Int.add z17 (Int.ofNat 1)))) 7 (i64 (Int.add z17 (Int.ofNat 1)))) H)) (
 K (.exit 2) (upd (upd (upd (upd (upd (upd (upd (upd (upd (upd (upd (upd (upd (upd (upd (upd (upd (upd (upd (upd (upd (upd (upd (upd a 15 (a 7)) 16 (a 5)) 17 (iN (l1))) 18 (.bool (ltZ z2 (Int.ofNat l1)))) 19 (.bool (ltZ z2 (Int.ofNat l1)))) 19 (.bool true)) 20 (a 5)) 19 (.bool true)) 21 (a 7)) 19 (.bool true)) 22 (ptr p3 (Nat.add o4 (Nat.mul n7 1)))) 19 (.bool true)) 23 v8) 19 (.bool true)) 24 (a 0)) 19 (.bool true)) 25 (a 6)) 19 (.bool true)) 26 (ptr p9 (Nat.add o10 (Nat.mul n13 1)))) 19 (.bool true)) 27 v14) 19 (.bool true)) 28 (.bool (ltN n15 n16))) 29 (.bool (ltN n15 n16))) H)))) (
 K (.exit 2) (upd (upd (upd (upd (upd (upd (upd (upd (upd (upd (upd (upd (upd (upd (upd (upd (upd (upd (upd (upd (upd (upd (upd (upd a 15 (a 7)) 16 (a 5)) 17 (iN (l1))) 18 (.bool (ltZ z2 (Int.ofNat l1)))) 19 (.bool (ltZ z2 (Int.ofNat l1)))) 19 (.bool false)) 20 (.tuple ⟨[]⟩)) 19 (.bool false)) 21 (.tuple ⟨[]⟩)) 19 (.bool false)) 22 (.tuple ⟨[]⟩)) 19 (.bool false)) 23 (.tuple ⟨[]⟩)) 19 (.bool false)) 24 (.tuple ⟨[]⟩)) 19 (.bool false)) 25 (.tuple ⟨[]⟩)) 19 (.bool false)) 26 (.tuple ⟨[]⟩)) 19 (.bool false)) 27 (.tuple ⟨[]⟩)) 19 (.bool false)) 28 (.tuple ⟨[]⟩)) 29 (.bool false)) H)) := by kernel_rfl
theorem rRisingC_W (con : CallT) (a : TF) (H : CH) (K : KX) : codeW (lpAt Tryz.prog 135 2) Tryz.prog con a H K =
 (AsInt .i64 (a 8) fun z1 =>
 AsInt .i64 (a 7) fun z2 =>
 Cd (ltZ z2 z1) (
 AsInt .i64 (a 8) fun z3 =>
 InR (Int.sub z3 (Int.ofNat 1)) (
 AsSlc (a 5) fun p4 o5 l6 c7 =>
 AsCnt (i64 (Int.sub z3 (Int.ofNat 1))) fun n8 =>
 Must (ltN n8 l6) (
 Ld H p4 (Nat.add o5 (Nat.mul n8 1)) fun v9 =>
 AsSlc (a 5) fun p10 o11 l12 c13 =>
 AsCnt (a 8) fun n14 =>
 Must (ltN n14 l12) (
 Sc v9 (St H p10 (Nat.add o11 (Nat.mul n14 1)) [v9] fun H15 =>
 AsInt .i64 (a 8) fun z16 =>
 InR (Int.sub z16 (Int.ofNat 1)) (
 K .normal (upd (upd (upd (upd (upd (upd (upd (upd (upd (upd (upd (upd (upd (upd a 61 (a 8)) 62 (a 7)) 63 (.bool (ltZ z2 z1))) 66 (a 5)) 67 (a 8)) 68 (a 5)) 69 (a 8)) 70 (i64 (Int.sub z3 (Int.ofNat 1)))) 71 (ptr p4 (Nat.add o5 (Nat.mul n8 1)))) 72 v9) 73 (ptr p10 (Nat.add o11 (Nat.mul n14 1)))) 64 (a 8)) 65 (i64 (Int.sub z16 (Int.ofNat 1)))) 8 (i64 (Int.sub z16 (Int.ofNat 1)))) H15)))))) (
 K (.exit 4) (upd (upd (upd a 61 (a 8)) 62 (a 7)) 63 (.bool (ltZ z2 z1))) H)) := by kernel_rfl
theorem scanStepL_W (con : CallT) (a : TF) (H : CH) (K : KX) : codeW (lpAt Tryz.prog 70 0) Tryz.prog con a H K =
 (AsInt .i64 (a 107) fun z1 =>
 AsInt .i64 (a 106) fun z2 =>
 Cd (ltZ z1 z2) (
 AsSlc (a 105) fun p3 o4 l5 c6 =>
 AsCnt (a 107) fun n7 =>
 Must (ltN n7 l5) (
 Ld H p3 (Nat.add o4 (Nat.mul n7 1)) fun v8 =>
 NotNil Tryz.prog (a 0) (
 AsPtr (a 0) fun p9 o10 =>
 Ld H p9 (Nat.add (Nat.add o10 6) 0) fun v11 =>
 AsNat .u64 v8 fun n12 =>
 AsNat .u64 v11 fun n13 =>
 Cd (ltN n12 n13) (
 NotNil Tryz.prog (a 0) (
 AsPtr (a 0) fun p14 o15 =>
 Ld H p14 (Nat.add (Nat.add o15 6) 1) fun v16 =>
 Sc v8 (Nw H (mkRow 32 0 [v8]) fun p17 H18 =>
 App Tryz.prog 36 36 H18 v16 (.slice (some ⟨p17, 0, none⟩) 1 1) fun v19 H20 =>
 NotNil Tryz.prog (a 0) (
 AsPtr (a 0) fun p21 o22 =>
 Sc v19 (St H20 p21 (Nat.add (Nat.add o22 6) 1) [v19] fun H23 =>
 AsInt .i64 (a 107) fun z24 =>
 InR (Int.add z24 (Int.ofNat 1)) (
 K .normal (upd (upd (upd (upd (upd (upd (upd (upd (upd (upd (upd (upd (upd (upd (upd (upd (upd (upd (upd (upd (upd (upd (upd (upd (upd a 108 (.bool (ltZ z1 z2))) 109 (ptr p3 (Nat.add o4 (Nat.mul n7 1)))) 110 v8) 7 v8) 111 v8) 112 (a 0)) 113 (a 0)) 114 (ptr p9 (Nat.add o10 6))) 115 (ptr p9 (Nat.add (Nat.add o10 6) 0))) 116 v11) 117 (.bool (ltN n12 n13))) 118 (a 0)) 119 (a 0)) 120 (a 0)) 121 (ptr p14 (Nat.add o15 6))) 122 (ptr p14 (Nat.add (Nat.add o15 6) 1))) 123 v16) 124 v8) 125 (.slice (some ⟨p17, 0, none⟩) 1 1)) 126 v19) 127 (a 0)) 128 (ptr p21 (Nat.add o22 6))) 129 (ptr p21 (Nat.add (Nat.add o22 6) 1))) 130 (i64 (Int.add z24 (Int.ofNat 1)))) 107 (i64 (Int.add z24 (Int.ofNat 1)))) H23)))))) (
 AsInt .i64 (a 107) fun z25 =>
 InR (Int.add z25 (Int.ofNat 1)) (
 K .normal (upd (upd (upd (upd (upd (upd (upd (upd (upd (upd (upd (upd (upd a 108 (.bool (ltZ z1 z2))) 109 (ptr p3 (Nat.add o4 (Nat.mul n7 1)))) 110 v8) 7 v8) 111 v8) 112 (a 0)) 113 (a 0)) 114 (ptr p9 (Nat.add o10 6))) 115 (ptr p9 (Nat.add (Nat.add o10 6) 0))) 116 v11) 117 (.bool (ltN n12 n13))) 130 (i64 (Int.add z25 (Int.ofNat 1)))) 107 (i64 (Int.add z25 (Int.ofNat 1)))) H))))) (
 K (.exit 1) (upd a 108 (.bool (ltZ z1 z2))) H)) := by kernel_rfl
end Go.Proofs.YtipbbnoepphdkaaGreat

