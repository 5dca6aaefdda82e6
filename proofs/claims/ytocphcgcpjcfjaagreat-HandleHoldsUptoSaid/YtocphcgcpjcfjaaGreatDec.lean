/- What some functions' texts ask for, step by step, each checked by the kernel. No conditions. -/
import Derived.Test.YtocphcgcpjcfjaaGreatProg
import Derived.Test.YtocphcgcpjcfjaaGreatCmE
set_option linter.unusedVariables false
set_option linter.unusedSimpArgs false

/- What some functions' texts ask for, step by step, each checked by the kernel. No conditions. -/
set_option linter.unusedVariables false
set_option maxRecDepth 100000
namespace Go.Proofs.YtocphcgcpjcfjaaGreat
open Go Go.CM
theorem arenaNew_W (con : CallT) (z : Int) (b : Bool) (H : CH) (K : KP) : funW Tryz.prog con 35 [i64 z, .bool b] H K =
 (Cd (ltZ z (Int.ofNat 128)) (
 K (.tuple ⟨[(.pointer none), (iN (2))]⟩) H) (
 Cd (ltZ (Int.ofNat 4194304) z) (
 K (.tuple ⟨[(.pointer none), (iN (2))]⟩) H) (
 Cd b (
 MkS Tryz.prog H 173 (i64 z) (i64 z) fun v1 H2 =>
 Sc v1 (Nw H2 (mkRow 180 0 [v1, (iN (0))]) fun p3 H4 =>
 Call1 Tryz.prog con 81 [(ptr p3 1), (iN (1))] H4 fun v5 H6 =>
 Nw H6 (mkRow 128 0 [(.iface 172 (ptr p3 0)), (.bool true), (snil)]) fun p7 H8 =>
 K (.tuple ⟨[(ptr p7 0), (iN (0))]⟩) H8)) (
 MkS Tryz.prog H 39 (i64 z) (i64 z) fun v9 H10 =>
 Sc v9 (Nw H10 (mkRow 184 0 [v9, (iN (1))]) fun p11 H12 =>
 Nw H12 (mkRow 128 0 [(.iface 182 (ptr p11 0)), (.bool false), (snil)]) fun p13 H14 =>
 K (.tuple ⟨[(ptr p13 0), (iN (0))]⟩) H14))))) := by kernel_rfl
theorem memView_W (con : CallT) (m : Nat) (z : Int) (H : CH) (K : KP) : funW Tryz.prog con 17 [ptr m 0, i64 z] H K =
 (Nw H (mkRow 135 0 [(ptr m 0), (i64 z), (iN (0))]) fun p1 H2 =>
 K (ptr p1 0) H2) := by kernel_rfl
theorem viewStore_W (con : CallT) (p a x : Nat) (H : CH) (K : KP) : funW Tryz.prog con 66 [ptr p 0, u64 (a), u64 (x)] H K =
 (Ld H p 0 fun v1 =>
 Call1 Tryz.prog con 43 [v1, (u64 (a))] H fun v2 H3 =>
 AsBool v2 fun b4 =>
 Cd b4 (
 Ld H3 p 0 fun v5 =>
 NotNil Tryz.prog v5 (
 AsPtr v5 fun p6 o7 =>
 Ld H3 p6 (Nat.add o7 0) fun v8 =>
 Mth Tryz.prog con v8 "shutter/arena.store" [(u64 (a)), (u64 (x))] H3 fun v9 H10 =>
 Call1 Tryz.prog con 82 [(ptr p 0), (.agg ⟨[(iN (0)), (u8 (2)), (u64 (a)), (u64 (x)), (u64 (0)), (snil), (u64 (0)), (.bool false)]⟩)] H10 fun v11 H12 =>
 K unit H12)) (
 Call1 Tryz.prog con 82 [(ptr p 0), (.agg ⟨[(iN (0)), (u8 (2)), (u64 (a)), (u64 (x)), (u64 (0)), (snil), (u64 (0)), (.bool false)]⟩)] H3 fun v13 H14 =>
 K unit H14)) := by kernel_rfl
theorem viewLoad_W (con : CallT) (p a : Nat) (H : CH) (K : KP) : funW Tryz.prog con 105 [ptr p 0, u64 (a)] H K =
 (Ld H p 0 fun v1 =>
 Call1 Tryz.prog con 13 [v1, (u64 (a))] H fun v2 H3 =>
 Sc v2 (Call1 Tryz.prog con 82 [(ptr p 0), (.agg ⟨[(iN (0)), (u8 (1)), (u64 (a)), (u64 (0)), (u64 (0)), (snil), v2, (.bool false)]⟩)] H3 fun v4 H5 =>
 K v2 H5)) := by kernel_rfl
theorem memPeek_W (con : CallT) (m a : Nat) (H : CH) (K : KP) : funW Tryz.prog con 13 [ptr m 0, u64 (a)] H K =
 (Call1 Tryz.prog con 43 [(ptr m 0), (u64 (a))] H fun v1 H2 =>
 AsBool v1 fun b3 =>
 Cd (notB b3) (
 K (u64 (0)) H2) (
 Ld H2 m 0 fun v4 =>
 Mth Tryz.prog con v4 "shutter/arena.load" [(u64 (a))] H2 fun v5 H6 =>
 K v5 H6)) := by kernel_rfl
theorem memHas_W (con : CallT) (m a : Nat) (H : CH) (K : KP) : funW Tryz.prog con 43 [ptr m 0, u64 (a)] H K =
 (Ld H m 0 fun v1 =>
 Mth Tryz.prog con v1 "shutter/arena.size" [] H fun v2 H3 =>
 AsInt .i64 v2 fun z4 =>
 Must (cvOk .i64 z4) (
 K (.bool (ltN a (wrapN .u64 z4))) H3)) := by kernel_rfl
theorem viewNote_W (con : CallT) (p : Nat) (c0 c1 c2 c3 c4 c5 c6 c7 : Value) (H : CH) (K : KP) : funW Tryz.prog con 82 [ptr p 0, .agg ⟨[c0, c1, c2, c3, c4, c5, c6, c7]⟩] H K =
 (Nw H (mkRow 188 0 [c0, c1, c2, c3, c4, c5, c6, c7]) fun p1 H2 =>
 Ld H2 p 2 fun v3 =>
 AsInt .i64 v3 fun z4 =>
 InR (Int.add z4 (Int.ofNat 1)) (
 St H2 p 2 [(i64 (Int.add z4 (Int.ofNat 1)))] fun H5 =>
 Ld H5 p 0 fun v6 =>
 NotNil Tryz.prog v6 (
 AsPtr v6 fun p7 o8 =>
 Ld H5 p7 (Nat.add o8 1) fun v9 =>
 AsBool v9 fun b10 =>
 Cd (notB b10) (
 Ld H5 p 1 fun v11 =>
 Sc v11 (St H5 p1 0 [v11] fun H12 =>
 Ld H12 p 0 fun v13 =>
 Ld H12 p 0 fun v14 =>
 NotNil Tryz.prog v14 (
 AsPtr v14 fun p15 o16 =>
 Ld H12 p15 (Nat.add o16 2) fun v17 =>
 Ld H12 p1 0 fun v18 =>
 Ld H12 p1 1 fun v19 =>
 Ld H12 p1 2 fun v20 =>
 Ld H12 p1 3 fun v21 =>
 Ld H12 p1 4 fun v22 =>
 Ld H12 p1 5 fun v23 =>
 Ld H12 p1 6 fun v24 =>
 Ld H12 p1 7 fun v25 =>
 Nw H12 (mkRow 188 0 [v18, v19, v20, v21, v22, v23, v24, v25]) fun p26 H27 =>
 App Tryz.prog 126 126 H27 v17 (.slice (some ⟨p26, 0, none⟩) 1 1) fun v28 H29 =>
 NotNil Tryz.prog v13 (
 AsPtr v13 fun p30 o31 =>
 Sc v28 (St H29 p30 (Nat.add o31 2) [v28] fun H32 =>
 Ld H12 p15 (Nat.add o16 2) fun v33 =>
 Same v17 v33 (
 Ld H27 p15 (Nat.add o16 2) fun v34 =>
 Same v17 v34 (
 Ld H12 p 0 fun v35 =>
 Same v14 v35 (
 Ld H27 p 0 fun v36 =>
 Same v14 v36 (
 Ld H12 p 0 fun v37 =>
 Same v13 v37 (
 Ld H27 p 0 fun v38 =>
 Same v13 v38 (
 Ld H29 p 0 fun v39 =>
 Same v13 v39 (
 K unit H32)))))))))))) (
 K unit H5)))) := by kernel_rfl
theorem memTrace_W (con : CallT) (m : Nat) (H : CH) (K : KP) : funW Tryz.prog con 76 [ptr m 0] H K =
 (Ld H m 2 fun v1 =>
 Call1 Tryz.prog con 98 [v1] H fun v2 H3 =>
 AsLen v2 fun l4 =>
 LoopC Tryz.prog con (lpAt Tryz.prog 76 0) (upd (upd (upd (upd (upd (upd (upd (upd (upd (upd (upd (upd (upd (fun _ => undV) 0 (ptr m 0)) 2 (snil)) 5 (ptr m 0)) 6 (.bool false)) 7 (ptr m 0)) 8 (ptr m 0)) 9 (ptr m 2)) 10 v1) 11 v2) 3 v2) 12 v2) 13 (iN (l4))) 14 (iN (0))) H3 (fun e => ceP e
 (fun a5 H6 =>
 K (a5 3) H6)
 (fun i7 => fun a5 H6 =>
 Cd (eqN i7 0) (
 K (a5 3) H6) (
 False))
 (fun a5 H6 =>
 K (a5 2) H6))) := by kernel_rfl
theorem viewCas_W (con : CallT) (p a x y : Nat) (H : CH) (K : KP) : funW Tryz.prog con 110 [ptr p 0, u64 (a), u64 (x), u64 (y)] H K =
 (Ld H p 0 fun v1 =>
 Call1 Tryz.prog con 43 [v1, (u64 (a))] H fun v2 H3 =>
 AsWant v2 (False) fun b4 =>
 Cd b4 (
 Ld H3 p 0 fun v5 =>
 NotNil Tryz.prog v5 (
 AsPtr v5 fun p6 o7 =>
 Ld H3 p6 (Nat.add o7 0) fun v8 =>
 Mth Tryz.prog con v8 "shutter/arena.cas" [(u64 (a)), (u64 (x)), (u64 (y))] H3 fun v9 H10 =>
 Sc v9 (Call1 Tryz.prog con 82 [(ptr p 0), (.agg ⟨[(iN (0)), (u8 (3)), (u64 (a)), (u64 (x)), (u64 (y)), (snil), (u64 (0)), v9]⟩)] H10 fun v11 H12 =>
 K v9 H12))) (
 Call1 Tryz.prog con 82 [(ptr p 0), (.agg ⟨[(iN (0)), (u8 (3)), (u64 (a)), (u64 (x)), (u64 (y)), (snil), (u64 (0)), (.bool false)]⟩)] H3 fun v13 H14 =>
 K (.bool false) H14)) := by kernel_rfl
theorem viewAlloc_W (con : CallT) (p : Nat) (v : Value) (H : CH) (K : KP) : funW Tryz.prog con 36 [ptr p 0, v] H K =
 (AsLen v fun l1 =>
 Cd (ltZ (Int.ofNat 0) (Int.ofNat l1)) (
 Ld H p 0 fun v2 =>
 NotNil Tryz.prog v2 (
 AsPtr v2 fun p3 o4 =>
 Ld H p3 (Nat.add o4 0) fun v5 =>
 Mth Tryz.prog con v5 "shutter/arena.alloc" [v] H fun v6 H7 =>
 Call1 Tryz.prog con 45 [v] H7 fun v8 H9 =>
 Sc v6 (Sc v8 (Call1 Tryz.prog con 82 [(ptr p 0), (.agg ⟨[(iN (0)), (u8 (5)), v6, (u64 (0)), (u64 (0)), v8, (u64 (0)), (.bool false)]⟩)] H9 fun v10 H11 =>
 K v6 H11)))) (
 Call1 Tryz.prog con 45 [v] H fun v12 H13 =>
 Sc v12 (Call1 Tryz.prog con 82 [(ptr p 0), (.agg ⟨[(iN (0)), (u8 (5)), (u64 (0)), (u64 (0)), (u64 (0)), v12, (u64 (0)), (.bool false)]⟩)] H13 fun v14 H15 =>
 K (u64 (0)) H15))) := by kernel_rfl
theorem plainAlloc_W (con : CallT) (p : Nat) (v : Value) (H : CH) (K : KP) : funW Tryz.prog con 188 [ptr p 0, v] H K =
 (AsLen v fun l1 =>
 Ld H p 0 fun v2 =>
 AsLen v2 fun l3 =>
 Ld H p 1 fun v4 =>
 AsInt .i64 v4 fun z5 =>
 InR (Int.sub (Int.ofNat l3) z5) (
 Cd (ltZ (Int.sub (Int.ofNat l3) z5) (Int.ofNat l1)) (
 K (u64 (0)) H) (
 Ld H p 1 fun v6 =>
 Ld H p 1 fun v7 =>
 Ld H p 0 fun v8 =>
 Slc Tryz.prog H 39 v8 (some v6) none none fun v9 =>
 Cpy Tryz.prog 39 H v9 v fun v10 H11 =>
 AsInt .i64 v7 fun z12 =>
 AsInt .i64 v10 fun z13 =>
 InR (Int.add z12 z13) (
 St H11 p 1 [(i64 (Int.add z12 z13))] fun H14 =>
 Ld H p 1 fun v15 =>
 Same v7 v15 (
 Ld H11 p 1 fun v16 =>
 Same v7 v16 (
 AsInt .i64 v6 fun z17 =>
 Must (cvOk .i64 z17) (
 K (u64 ((wrapN .u64 z17))) H14))))))) := by kernel_rfl
theorem plainCas_W (con : CallT) (p a x y : Nat) (H : CH) (K : KP) : funW Tryz.prog con 189 [ptr p 0, u64 (a), u64 (x), u64 (y)] H K =
 (Ld H p 0 fun v1 =>
 AsSlc v1 fun p2 o3 l4 c5 =>
 Must (ltN a l4) (
 Ld H p2 (Nat.add o3 (Nat.mul a 1)) fun v6 =>
 AsNat .u64 v6 fun n7 =>
 Cd (notB (eqN n7 x)) (
 K (.bool false) H) (
 Ld H p 0 fun v8 =>
 AsSlc v8 fun p9 o10 l11 c12 =>
 Must (ltN a l11) (
 St H p9 (Nat.add o10 (Nat.mul a 1)) [(u64 (y))] fun H13 =>
 K (.bool true) H13)))) := by kernel_rfl
theorem plainLoad_W (con : CallT) (p a : Nat) (H : CH) (K : KP) : funW Tryz.prog con 191 [ptr p 0, u64 (a)] H K =
 (Ld H p 0 fun v1 =>
 AsSlc v1 fun p2 o3 l4 c5 =>
 Must (ltN a l4) (
 Ld H p2 (Nat.add o3 (Nat.mul a 1)) fun v6 =>
 K v6 H)) := by kernel_rfl
theorem plainSize_W (con : CallT) (p : Nat) (H : CH) (K : KP) : funW Tryz.prog con 193 [ptr p 0] H K =
 (Ld H p 0 fun v1 =>
 AsLen v1 fun l2 =>
 K (iN (l2)) H) := by kernel_rfl
theorem plainStore_W (con : CallT) (p a x : Nat) (H : CH) (K : KP) : funW Tryz.prog con 194 [ptr p 0, u64 (a), u64 (x)] H K =
 (Ld H p 0 fun v1 =>
 AsSlc v1 fun p2 o3 l4 c5 =>
 Must (ltN a l4) (
 St H p2 (Nat.add o3 (Nat.mul a 1)) [(u64 (x))] fun H6 =>
 K unit H6)) := by kernel_rfl
theorem cloneN_W (con : CallT) (v : Value) (H : CH) (K : KP) : funW Tryz.prog con 45 [v] H K =
 (IsNil .slc v fun b1 =>
 Cd b1 (
 K (snil) H) (
 Nw H (mkRow 22 0 []) fun p2 H3 =>
 App Tryz.prog 39 39 H3 (.slice (some ⟨p2, 0, none⟩) 0 0) v fun v4 H5 =>
 K v4 H5)) := by kernel_rfl
theorem cloneA_W (con : CallT) (v : Value) (H : CH) (K : KP) : funW Tryz.prog con 98 [v] H K =
 (IsNil .slc v fun b1 =>
 Cd b1 (
 K (snil) H) (
 Nw H (mkRow 188 0 []) fun p2 H3 =>
 App Tryz.prog 126 126 H3 (.slice (some ⟨p2, 0, none⟩) 0 0) v fun v4 H5 =>
 K v4 H5)) := by kernel_rfl
theorem refNew_W (con : CallT) (z : Int) (b : Bool) (H : CH) (K : KP) : funW Tryz.prog con 69 [i64 z, .bool b] H K =
 (Cd (ltZ z (Int.ofNat 128)) (
 K (.tuple ⟨[(.pointer none), (iN (2))]⟩) H) (
 Cd (ltZ (Int.ofNat 4194304) z) (
 K (.tuple ⟨[(.pointer none), (iN (2))]⟩) H) (
 MkS Tryz.prog H 39 (i64 z) (i64 z) fun v1 H2 =>
 Sc v1 (Nw H2 (mkRow 152 0 [v1, (iN (1)), (snil), (.bool b)]) fun p3 H4 =>
 K (.tuple ⟨[(ptr p3 0), (iN (0))]⟩) H4)))) := by kernel_rfl
theorem refStore_W (con : CallT) (p a x : Nat) (t : Int) (H : CH) (K : KP) : funW Tryz.prog con 70 [ptr p 0, i64 t, u64 (a), u64 (x)] H K =
 (Call1 Tryz.prog con 88 [(ptr p 0), (u64 (a)), (u64 (x))] H fun v1 H2 =>
 Call1 Tryz.prog con 89 [(ptr p 0), (.agg ⟨[(i64 t), (u8 (2)), (u64 (a)), (u64 (x)), (u64 (0)), (snil), (u64 (0)), (.bool false)]⟩)] H2 fun v3 H4 =>
 K unit H4) := by kernel_rfl
theorem refLoad_W (con : CallT) (p a : Nat) (t : Int) (H : CH) (K : KP) : funW Tryz.prog con 117 [ptr p 0, i64 t, u64 (a)] H K =
 (Call1 Tryz.prog con 96 [(ptr p 0), (u64 (a))] H fun v1 H2 =>
 Sc v1 (Call1 Tryz.prog con 89 [(ptr p 0), (.agg ⟨[(i64 t), (u8 (1)), (u64 (a)), (u64 (0)), (u64 (0)), (snil), v1, (.bool false)]⟩)] H2 fun v3 H4 =>
 K v1 H4)) := by kernel_rfl
theorem refPeek_W (con : CallT) (p a : Nat) (H : CH) (K : KP) : funW Tryz.prog con 96 [ptr p 0, u64 (a)] H K =
 (Ld H p 0 fun v1 =>
 AsLen v1 fun l2 =>
 Must (cvOk .i64 (Int.ofNat l2)) (
 Cd (leN (wrapN .u64 (Int.ofNat l2)) a) (
 K (u64 (0)) H) (
 Ld H p 0 fun v3 =>
 AsSlc v3 fun p4 o5 l6 c7 =>
 Must (ltN a l6) (
 Ld H p4 (Nat.add o5 (Nat.mul a 1)) fun v8 =>
 K v8 H)))) := by kernel_rfl
theorem refSet_W (con : CallT) (p a x : Nat) (H : CH) (K : KP) : funW Tryz.prog con 88 [ptr p 0, u64 (a), u64 (x)] H K =
 (Ld H p 0 fun v1 =>
 AsLen v1 fun l2 =>
 Must (cvOk .i64 (Int.ofNat l2)) (
 Cd (ltN a (wrapN .u64 (Int.ofNat l2))) (
 Ld H p 0 fun v3 =>
 AsSlc v3 fun p4 o5 l6 c7 =>
 Must (ltN a l6) (
 St H p4 (Nat.add o5 (Nat.mul a 1)) [(u64 (x))] fun H8 =>
 K unit H8)) (
 K unit H))) := by kernel_rfl
theorem refNote_W (con : CallT) (p : Nat) (c0 c1 c2 c3 c4 c5 c6 c7 : Value) (H : CH) (K : KP) : funW Tryz.prog con 89 [ptr p 0, .agg ⟨[c0, c1, c2, c3, c4, c5, c6, c7]⟩] H K =
 (Nw H (mkRow 188 0 [c0, c1, c2, c3, c4, c5, c6, c7]) fun p1 H2 =>
 Ld H2 p 3 fun v3 =>
 AsBool v3 fun b4 =>
 Cd (notB b4) (
 Ld H2 p 2 fun v5 =>
 Ld H2 p1 0 fun v6 =>
 Ld H2 p1 1 fun v7 =>
 Ld H2 p1 2 fun v8 =>
 Ld H2 p1 3 fun v9 =>
 Ld H2 p1 4 fun v10 =>
 Ld H2 p1 5 fun v11 =>
 Ld H2 p1 6 fun v12 =>
 Ld H2 p1 7 fun v13 =>
 Nw H2 (mkRow 188 0 [v6, v7, v8, v9, v10, v11, v12, v13]) fun p14 H15 =>
 App Tryz.prog 126 126 H15 v5 (.slice (some ⟨p14, 0, none⟩) 1 1) fun v16 H17 =>
 Sc v16 (St H17 p 2 [v16] fun H18 =>
 Ld H2 p 2 fun v19 =>
 Same v5 v19 (
 Ld H15 p 2 fun v20 =>
 Same v5 v20 (
 K unit H18)))) (
 K unit H2)) := by kernel_rfl
theorem refAlloc_W (con : CallT) (p : Nat) (t : Int) (v : Value) (H : CH) (K : KP) : funW Tryz.prog con 90 [ptr p 0, i64 t, v] H K =
 (AsLen v fun l1 =>
 Cd (ltZ (Int.ofNat 0) (Int.ofNat l1)) (
 AsLen v fun l2 =>
 Call1 Tryz.prog con 112 [(ptr p 0)] H fun v3 H4 =>
 AsInt .i64 v3 fun z5 =>
 Cd (leZ (Int.ofNat l2) z5) (
 Ld H4 p 1 fun v6 =>
 Ld H4 p 1 fun v7 =>
 AsLen v fun l8 =>
 AsInt .i64 v7 fun z9 =>
 InR (Int.add z9 (Int.ofNat l8)) (
 St H4 p 1 [(i64 (Int.add z9 (Int.ofNat l8)))] fun H10 =>
 LoopC Tryz.prog con (lpAt Tryz.prog 90 0) (upd (upd (upd (upd (upd (upd (upd (upd (upd (upd (upd (upd (upd (upd (upd (upd (upd (upd (upd (upd (upd (upd (upd (upd (upd (upd (upd (upd (upd (upd (upd (upd (upd (upd (upd (upd (upd (fun _ => undV) 2 v) 1 (i64 t)) 0 (ptr p 0)) 6 (u64 (0))) 10 (ptr p 0)) 11 (.bool false)) 7 (iN (0))) 12 v) 13 (iN (l1))) 14 (.bool (ltZ (Int.ofNat 0) (Int.ofNat l1)))) 15 (.bool (ltZ (Int.ofNat 0) (Int.ofNat l1)))) 15 (.bool true)) 16 v) 15 (.bool true)) 17 (iN (l2))) 15 (.bool true)) 18 (ptr p 0)) 15 (.bool true)) 19 v3) 15 (.bool true)) 20 (.bool (leZ (Int.ofNat l2) z5))) 21 (.bool (leZ (Int.ofNat l2) z5))) 22 (ptr p 0)) 23 (ptr p 0)) 24 (ptr p 1)) 25 v6) 7 v6) 26 (ptr p 0)) 27 (ptr p 0)) 28 (ptr p 1)) 29 v7) 30 v) 31 (iN (l8))) 32 (i64 (Int.add z9 (Int.ofNat l8)))) 33 (ptr p 0)) 34 (ptr p 1)) 8 (iN (0))) H10 (fun e => ceP e
 (fun a11 H12 =>
 App Tryz.prog 39 39 H12 (snil) (a11 2) fun v14 H15 =>
 AsInt .i64 (a11 7) fun z16 =>
 Must (cvOk .i64 z16) (
 Sc (a11 1) (Sc v14 (Call1 Tryz.prog con 89 [(a11 0), (.agg ⟨[(a11 1), (u8 (5)), (u64 ((wrapN .u64 z16))), (u64 (0)), (u64 (0)), v14, (u64 (0)), (.bool false)]⟩)] H15 fun v17 H18 =>
 AsInt .i64 (a11 7) fun z19 =>
 Must (cvOk .i64 z19) (
 K (u64 ((wrapN .u64 z19))) H18)))))
 (fun i13 => fun a11 H12 =>
 Cd (eqN i13 0) (
 App Tryz.prog 39 39 H12 (snil) (a11 2) fun v20 H21 =>
 AsInt .i64 (a11 7) fun z22 =>
 Must (cvOk .i64 z22) (
 Sc (a11 1) (Sc v20 (Call1 Tryz.prog con 89 [(a11 0), (.agg ⟨[(a11 1), (u8 (5)), (u64 ((wrapN .u64 z22))), (u64 (0)), (u64 (0)), v20, (u64 (0)), (.bool false)]⟩)] H21 fun v23 H24 =>
 AsInt .i64 (a11 7) fun z25 =>
 Must (cvOk .i64 z25) (
 K (u64 ((wrapN .u64 z25))) H24))))) (
 False))
 (fun a11 H12 =>
 K (a11 6) H12)))) (
 App Tryz.prog 39 39 H4 (snil) v fun v26 H27 =>
 Must (cvOk .i64 (Int.ofNat 0)) (
 Sc v26 (Call1 Tryz.prog con 89 [(ptr p 0), (.agg ⟨[(i64 t), (u8 (5)), (u64 ((wrapN .u64 (Int.ofNat 0)))), (u64 (0)), (u64 (0)), v26, (u64 (0)), (.bool false)]⟩)] H27 fun v28 H29 =>
 Must (cvOk .i64 (Int.ofNat 0)) (
 K (u64 ((wrapN .u64 (Int.ofNat 0)))) H29))))) (
 App Tryz.prog 39 39 H (snil) v fun v30 H31 =>
 Must (cvOk .i64 (Int.ofNat 0)) (
 Sc v30 (Call1 Tryz.prog con 89 [(ptr p 0), (.agg ⟨[(i64 t), (u8 (5)), (u64 ((wrapN .u64 (Int.ofNat 0)))), (u64 (0)), (u64 (0)), v30, (u64 (0)), (.bool false)]⟩)] H31 fun v32 H33 =>
 Must (cvOk .i64 (Int.ofNat 0)) (
 K (u64 ((wrapN .u64 (Int.ofNat 0)))) H33))))) := by kernel_rfl
theorem refLeft_W (con : CallT) (p : Nat) (H : CH) (K : KP) : funW Tryz.prog con 112 [ptr p 0] H K =
 (Ld H p 0 fun v1 =>
 AsLen v1 fun l2 =>
 Ld H p 1 fun v3 =>
 AsInt .i64 v3 fun z4 =>
 InR (Int.sub (Int.ofNat l2) z4) (
 K (i64 (Int.sub (Int.ofNat l2) z4)) H)) := by kernel_rfl
end Go.Proofs.YtocphcgcpjcfjaaGreat

/- What some functions' texts ask for, step by step, each checked by the kernel. No conditions. -/
set_option linter.unusedVariables false
set_option maxRecDepth 100000
namespace Go.Proofs.YtocphcgcpjcfjaaGreat
open Go Go.CM
theorem memTraceL_W (con : CallT) (a : TF) (H : CH) (K : KX) : codeW (lpAt Tryz.prog 76 0) Tryz.prog con a H K =
 (AsInt .i64 (a 14) fun z1 =>
 AsInt .i64 (a 13) fun z2 =>
 Cd (ltZ z1 z2) (
 AsSlc (a 3) fun p3 o4 l5 c6 =>
 AsCnt (a 14) fun n7 =>
 Must (ltN n7 l5) (
 Ld H p3 (Nat.add (Nat.add o4 (Nat.mul n7 8)) 5) fun v8 =>
 Call1 Tryz.prog con 45 [v8] H fun v9 H10 =>
 AsSlc (a 3) fun p11 o12 l13 c14 =>
 AsCnt (a 14) fun n15 =>
 Must (ltN n15 l13) (
 Sc v9 (St H10 p11 (Nat.add (Nat.add o12 (Nat.mul n15 8)) 5) [v9] fun H16 =>
 AsInt .i64 (a 14) fun z17 =>
 InR (Int.add z17 (Int.ofNat 1)) (
 K .normal (upd (upd (upd (upd (upd (upd (upd (upd (upd (upd (upd (upd (upd (upd (upd a 15 (.bool (ltZ z1 z2))) 16 (a 14)) 4 (a 14)) 17 (a 3)) 18 (a 14)) 19 (a 3)) 20 (a 14)) 21 (ptr p3 (Nat.add o4 (Nat.mul n7 8)))) 22 (ptr p3 (Nat.add (Nat.add o4 (Nat.mul n7 8)) 5))) 23 v8) 24 v9) 25 (ptr p11 (Nat.add o12 (Nat.mul n15 8)))) 26 (ptr p11 (Nat.add (Nat.add o12 (Nat.mul n15 8)) 5))) 27 (i64 (Int.add z17 (Int.ofNat 1)))) 14 (i64 (Int.add z17 (Int.ofNat 1)))) H16))))) (
 K (.exit 0) (upd a 15 (.bool (ltZ z1 z2))) H)) := by kernel_rfl
theorem refAllocL_W (con : CallT) (a : TF) (H : CH) (K : KX) : codeW (lpAt Tryz.prog 90 0) Tryz.prog con a H K =
 (AsLen (a 2) fun l1 =>
 AsInt .i64 (a 8) fun z2 =>
 Cd (ltZ z2 (Int.ofNat l1)) (
 NotNil Tryz.prog (a 0) (
 AsPtr (a 0) fun p3 o4 =>
 Ld H p3 (Nat.add o4 0) fun v5 =>
 AsInt .i64 (a 7) fun z6 =>
 AsInt .i64 (a 8) fun z7 =>
 InR (Int.add z6 z7) (
 AsSlc (a 2) fun p8 o9 l10 c11 =>
 AsCnt (a 8) fun n12 =>
 Must (ltN n12 l10) (
 Ld H p8 (Nat.add o9 (Nat.mul n12 1)) fun v13 =>
 AsSlc v5 fun p14 o15 l16 c17 =>
 AsCnt (i64 (Int.add z6 z7)) fun n18 =>
 Must (ltN n18 l16) (
 Sc v13 (St H p14 (Nat.add o15 (Nat.mul n18 1)) [v13] fun H19 =>
 AsInt .i64 (a 8) fun z20 =>
 InR (Int.add z20 (Int.ofNat 1)) (
 K .normal (upd (upd (upd (upd (upd (upd (upd (upd (upd (upd (upd (upd (upd (upd (upd (upd (upd (upd (upd a 35 (a 8)) 36 (a 2)) 37 (iN (l1))) 38 (.bool (ltZ z2 (Int.ofNat l1)))) 41 (a 0)) 42 (a 0)) 43 (ptr p3 (Nat.add o4 0))) 44 v5) 45 (a 7)) 46 (a 8)) 47 (i64 (Int.add z6 z7))) 48 (a 2)) 49 (a 8)) 50 (ptr p8 (Nat.add o9 (Nat.mul n12 1)))) 51 v13) 52 (ptr p14 (Nat.add o15 (Nat.mul n18 1)))) 39 (a 8)) 40 (i64 (Int.add z20 (Int.ofNat 1)))) 8 (i64 (Int.add z20 (Int.ofNat 1)))) H19))))))) (
 K (.exit 0) (upd (upd (upd (upd a 35 (a 8)) 36 (a 2)) 37 (iN (l1))) 38 (.bool (ltZ z2 (Int.ofNat l1)))) H)) := by kernel_rfl
end Go.Proofs.YtocphcgcpjcfjaaGreat

/- What some functions' texts ask for, step by step, each checked by the kernel. No conditions. -/
set_option linter.unusedVariables false
set_option maxRecDepth 100000
namespace Go.Proofs.YtocphcgcpjcfjaaGreat
open Go Go.CM
theorem refCas_W (con : CallT) (p a x y : Nat) (t : Int) (H : CH) (K : KP) : funW Tryz.prog con 140 [ptr p 0, i64 t, u64 (a), u64 (x), u64 (y)] H K =
 (Ld H p 0 fun v1 =>
 AsLen v1 fun l2 =>
 Must (cvOk .i64 (Int.ofNat l2)) (
 Cd (ltN a (wrapN .u64 (Int.ofNat l2))) (
 Ld H p 0 fun v3 =>
 AsSlc v3 fun p4 o5 l6 c7 =>
 Must (ltN a l6) (
 Ld H p4 (Nat.add o5 (Nat.mul a 1)) fun v8 =>
 AsNat .u64 v8 fun n9 =>
 Cd (eqN n9 x) (
 Call1 Tryz.prog con 88 [(ptr p 0), (u64 (a)), (u64 (y))] H fun v10 H11 =>
 Call1 Tryz.prog con 89 [(ptr p 0), (.agg ⟨[(i64 t), (u8 (3)), (u64 (a)), (u64 (x)), (u64 (y)), (snil), (u64 (0)), (.bool (eqN n9 x))]⟩)] H11 fun v12 H13 =>
 K (.bool (eqN n9 x)) H13) (
 Call1 Tryz.prog con 89 [(ptr p 0), (.agg ⟨[(i64 t), (u8 (3)), (u64 (a)), (u64 (x)), (u64 (y)), (snil), (u64 (0)), (.bool (eqN n9 x))]⟩)] H fun v14 H15 =>
 K (.bool (eqN n9 x)) H15))) (
 Call1 Tryz.prog con 89 [(ptr p 0), (.agg ⟨[(i64 t), (u8 (3)), (u64 (a)), (u64 (x)), (u64 (y)), (snil), (u64 (0)), (.bool false)]⟩)] H fun v16 H17 =>
 K (.bool false) H17))) := by kernel_rfl
end Go.Proofs.YtocphcgcpjcfjaaGreat

/- What some functions' texts ask for, step by step, each checked by the kernel. No conditions. -/
set_option linter.unusedVariables false
set_option maxRecDepth 100000
namespace Go.Proofs.YtocphcgcpjcfjaaGreat
open Go Go.CM
theorem wordPack_W (con : CallT) (c0 c1 c2 : Nat) (H : CH) (K : KP) : funW Tryz.prog con 137 [.agg ⟨[u8 c0, u64 c1, u64 c2]⟩] H K =
 (Nw H (mkRow 157 0 [(u8 (c0)), (u64 (c1)), (u64 (c2))]) fun p1 H2 =>
 Ld H2 p1 0 fun v3 =>
 AsNat .u8 v3 fun n4 =>
 Cd (ltN 3 n4) (
 K (.tuple ⟨[(u64 (0)), (iN (2))]⟩) H2) (
 Ld H2 p1 1 fun v5 =>
 AsNat .u64 v5 fun n6 =>
 Cd (leN 1048576 n6) (
 K (.tuple ⟨[(u64 (0)), (iN (2))]⟩) H2) (
 Ld H2 p1 2 fun v7 =>
 AsNat .u64 v7 fun n8 =>
 Cd (ltN 1099511627776 n8) (
 K (.tuple ⟨[(u64 (0)), (iN (2))]⟩) H2) (
 Ld H2 p1 0 fun v9 =>
 AsNat .u8 v9 fun n10 =>
 Must (ltN n10 256) (
 Ld H2 p1 1 fun v11 =>
 AsNat .u64 v11 fun n12 =>
 CInt .or .u64 (Int.ofNat n10) (Int.ofNat (Nat.mod (Nat.mul n12 4) 18446744073709551616)) fun v13 =>
 Ld H2 p1 2 fun v14 =>
 AsNat .u64 v14 fun n15 =>
 AsNat .u64 v13 fun n16 =>
 CInt .or .u64 (Int.ofNat n16) (Int.ofNat (Nat.mod (Nat.mul n15 4194304) 18446744073709551616)) fun v17 =>
 K (.tuple ⟨[v17, (iN (0))]⟩) H2))))) := by kernel_rfl
theorem wordUnpack_W (con : CallT) (w : Nat) (H : CH) (K : KP) : funW Tryz.prog con 100 [u64 w] H K =
 (Nw H (mkRow 157 0 [(u8 (0)), (u64 (0)), (u64 (0))]) fun p1 H2 =>
 CInt .and .u64 (Int.ofNat w) (Int.ofNat 3) fun v3 =>
 AsNat .u64 v3 fun n4 =>
 CInt .and .u64 (Int.ofNat (Nat.div w 4)) (Int.ofNat 1048575) fun v5 =>
 Sc v5 (St H2 p1 0 [(u8 ((Nat.mod n4 256))), v5, (u64 ((Nat.div w 4194304)))] fun H6 =>
 Ld H6 p1 0 fun v7 =>
 Ld H6 p1 1 fun v8 =>
 Ld H6 p1 2 fun v9 =>
 K (.agg ⟨[v7, v8, v9]⟩) H6)) := by kernel_rfl
theorem wordHandle_W (con : CallT) (z : Int) (g : Nat) (H : CH) (K : KP) : funW Tryz.prog con 78 [i64 z, u64 g] H K =
 (Cd (ltZ z (Int.ofNat 0)) (
 K (.tuple ⟨[(u64 (0)), (iN (2))]⟩) H) (
 Cd (leZ (Int.ofNat 256) z) (
 K (.tuple ⟨[(u64 (0)), (iN (2))]⟩) H) (
 Cd (leN 1048576 g) (
 K (.tuple ⟨[(u64 (0)), (iN (2))]⟩) H) (
 Must (cvOk .i64 z) (
 K (.tuple ⟨[(u64 ((Nat.mod (Nat.add (Nat.mod (Nat.add (wrapN .u64 z) 1) 18446744073709551616) (Nat.mod (Nat.mul 65536 g) 18446744073709551616)) 18446744073709551616))), (iN (0))]⟩) H))))) := by kernel_rfl
theorem wordUnhandle_W (con : CallT) (h : Nat) (H : CH) (K : KP) : funW Tryz.prog con 104 [u64 h] H K =
 (InR (Int.sub (IntKind.wrap .i64 (Int.ofNat (Nat.mod h 65536))) (Int.ofNat 1)) (
 Call1 Tryz.prog con 78 [(i64 (Int.sub (IntKind.wrap .i64 (Int.ofNat (Nat.mod h 65536))) (Int.ofNat 1))), (u64 ((Nat.mod (Nat.div h 65536) 18446744073709551616)))] H fun v1 H2 =>
 AsTup v1 fun l3 =>
 Nth l3 0 fun v4 =>
 AsTup v1 fun l5 =>
 Nth l5 1 fun v6 =>
 AsInt .i64 v6 fun z7 =>
 Cd (notB (eqZ z7 (Int.ofNat 0))) (
 K (.tuple ⟨[(iN (0)), (u64 (0)), (iN (33))]⟩) H2) (
 AsNat .u64 v4 fun n8 =>
 Cd (notB (eqN n8 h)) (
 K (.tuple ⟨[(iN (0)), (u64 (0)), (iN (33))]⟩) H2) (
 K (.tuple ⟨[(i64 (Int.sub (IntKind.wrap .i64 (Int.ofNat (Nat.mod h 65536))) (Int.ofNat 1))), (u64 ((Nat.mod (Nat.div h 65536) 18446744073709551616))), (iN (0))]⟩) H2)))) := by kernel_rfl
theorem annCount_W (con : CallT) (xa xb : Nat) (z : Int) (xd : Nat) (H : CH) (K : KP) : funW Tryz.prog con 99 [.agg ⟨[u64 xa, u64 xb, i64 z, u64 xd]⟩] H K =
 (Nw H (mkRow 29 0 [(u64 (xa)), (u64 (xb)), (i64 z), (u64 (xd))]) fun p1 H2 =>
 Ld H2 p1 2 fun v3 =>
 AsInt .i64 v3 fun z4 =>
 Cd (ltZ (Int.ofNat 256) z4) (
 K (iN (256)) H2) (
 Cd (ltZ (Int.ofNat 0) z4) (
 K (i64 z4) H2) (
 K (iN (0)) H2))) := by kernel_rfl
theorem annCell_W (con : CallT) (xa xb : Nat) (z : Int) (xd : Nat) (i : Int) (H : CH) (K : KP) : funW Tryz.prog con 101 [.agg ⟨[u64 xa, u64 xb, i64 z, u64 xd]⟩, i64 i] H K =
 (Nw H (mkRow 29 0 [(u64 (xa)), (u64 (xb)), (i64 z), (u64 (xd))]) fun p1 H2 =>
 Ld H2 p1 1 fun v3 =>
 Must (cvOk .i64 i) (
 AsNat .u64 v3 fun n4 =>
 K (u64 ((Nat.mod (Nat.add n4 (wrapN .u64 i)) 18446744073709551616))) H2)) := by kernel_rfl
theorem annPack_W (con : CallT) (c0 c1 c2 : Nat) (H : CH) (K : KP) : funW Tryz.prog con 111 [.agg ⟨[u8 c0, u64 c1, u64 c2]⟩] H K =
 (Nw H (mkRow 157 0 [(u8 (c0)), (u64 (c1)), (u64 (c2))]) fun p1 H2 =>
 Ld H2 p1 0 fun v3 =>
 Ld H2 p1 1 fun v4 =>
 AsNat .u64 v4 fun n5 =>
 Sc v3 (Call1 Tryz.prog con 137 [(.agg ⟨[v3, (u64 ((Nat.mod n5 1048576))), (u64 (0))]⟩)] H2 fun v6 H7 =>
 AsTup v6 fun l8 =>
 Nth l8 0 fun v9 =>
 AsTup v6 fun l10 =>
 Nth l10 1 fun v11 =>
 Call1 Tryz.prog con 137 [(.agg ⟨[(u8 (0)), (u64 (0)), (u64 (1))]⟩)] H7 fun v12 H13 =>
 AsTup v12 fun l14 =>
 Nth l14 0 fun v15 =>
 AsTup v12 fun l16 =>
 Nth l16 1 fun v17 =>
 Ld H13 p1 2 fun v18 =>
 AsNat .u64 v15 fun n19 =>
 AsNat .u64 v18 fun n20 =>
 AsNat .u64 v9 fun n21 =>
 K (u64 ((Nat.mod (Nat.add n21 (Nat.mod (Nat.mul n19 n20) 18446744073709551616)) 18446744073709551616))) H13)) := by kernel_rfl
theorem annSteps_W (con : CallT)  (H : CH) (K : KP) : funW Tryz.prog con 107 [] H K =
 (Nw H (mkRow 235 0 [.nilFunc, .nilFunc, .nilFunc, .nilFunc, .nilFunc, .nilFunc, .nilFunc, .nilFunc]) fun p1 H2 =>
 St H2 p1 0 [(.func (.func 129) ⟨[]⟩ ⟨[]⟩), (.func (.func 130) ⟨[]⟩ ⟨[]⟩), (.func (.func 131) ⟨[]⟩ ⟨[]⟩), (.func (.func 132) ⟨[]⟩ ⟨[]⟩), (.func (.func 133) ⟨[]⟩ ⟨[]⟩), (.func (.func 134) ⟨[]⟩ ⟨[]⟩), (.func (.func 135) ⟨[]⟩ ⟨[]⟩), (.func (.func 136) ⟨[]⟩ ⟨[]⟩)] fun H3 =>
 Ld H3 p1 0 fun v4 =>
 Ld H3 p1 1 fun v5 =>
 Ld H3 p1 2 fun v6 =>
 Ld H3 p1 3 fun v7 =>
 Ld H3 p1 4 fun v8 =>
 Ld H3 p1 5 fun v9 =>
 Ld H3 p1 6 fun v10 =>
 Ld H3 p1 7 fun v11 =>
 K (.agg ⟨[v4, v5, v6, v7, v8, v9, v10, v11]⟩) H3) := by kernel_rfl
theorem newSnap_W (con : CallT) (xa xb : Nat) (z : Int) (xd : Nat) (H : CH) (K : KP) : funW Tryz.prog con 38 [.agg ⟨[u64 xa, u64 xb, i64 z, u64 xd]⟩] H K =
 (Nw H (mkRow 29 0 [(u64 (xa)), (u64 (xb)), (i64 z), (u64 (xd))]) fun p1 H2 =>
 Ld H2 p1 0 fun v3 =>
 Ld H2 p1 1 fun v4 =>
 Ld H2 p1 2 fun v5 =>
 Ld H2 p1 3 fun v6 =>
 Nw H2 (mkRow 167 0 [v3, v4, v5, v6, (iN (0)), (iN (0)), (u64 (0)), (u64 (0)), (u64 (0)), (u8 (0)), (u64 (0)), (u64 (0)), (iN (0))]) fun p7 H8 =>
 K (ptr p7 0) H8) := by kernel_rfl
theorem snapStep_W (con : CallT) (p q : Nat) (H : CH) (K : KP) : funW Tryz.prog con 84 [ptr p 0, ptr q 0] H K =
 (Ld H p 4 fun v1 =>
 AsInt .i64 v1 fun z2 =>
 Cd (notB (eqZ z2 (Int.ofNat 8))) (
 Call1 Tryz.prog con 107 [] H fun v3 H4 =>
 Ld H4 p 4 fun v5 =>
 OpN Tryz.prog H4 (upd (upd (upd (upd (upd (upd (upd (upd (upd (upd (upd (upd (upd (upd (upd (upd (fun _ => undV) 1 (ptr q 0)) 0 (ptr p 0)) 4 (.bool false)) 5 (ptr p 0)) 6 (.bool false)) 7 (ptr p 0)) 8 (ptr p 0)) 9 (ptr p 4)) 10 v1) 11 (.bool (notB (eqZ z2 (Int.ofNat 8))))) 12 (ptr p 0)) 13 v3) 14 (ptr p 0)) 15 (ptr p 0)) 16 (ptr p 4)) 17 v5) (.index 235 (.tmp 13) (.tmp 17)) fun v6 H7 =>
 AsFn v6 fun g8 l9 l10 =>
 Must (isFunT Tryz.prog g8) (
 Call1 Tryz.prog con g8 (appF l9 ((ptr p 0) :: (ptr q 0) :: l10)) H7 fun v11 H12 =>
 Sc v11 (St H12 p 4 [v11] fun H13 =>
 Ld H p 4 fun v14 =>
 Same v5 v14 (
 Ld H7 p 4 fun v15 =>
 Same v5 v15 (
 Ld H13 p 4 fun v16 =>
 AsInt .i64 v16 fun z17 =>
 K (.bool (eqZ z17 (Int.ofNat 8))) H13))))) (
 Ld H p 4 fun v18 =>
 AsInt .i64 v18 fun z19 =>
 K (.bool (eqZ z19 (Int.ofNat 8))) H)) := by kernel_rfl
theorem snapSlot_W (con : CallT) (p : Nat) (H : CH) (K : KP) : funW Tryz.prog con 149 [ptr p 0] H K =
 (Ld H p 0 fun v1 =>
 Ld H p 1 fun v2 =>
 Ld H p 2 fun v3 =>
 Ld H p 3 fun v4 =>
 Ld H p 5 fun v5 =>
 Call1 Tryz.prog con 101 [(.agg ⟨[v1, v2, v3, v4]⟩), v5] H fun v6 H7 =>
 K v6 H7) := by kernel_rfl
theorem snapOn_W (con : CallT) (p : Nat) (H : CH) (K : KP) : funW Tryz.prog con 150 [ptr p 0] H K =
 (Ld H p 5 fun v1 =>
 AsInt .i64 v1 fun z2 =>
 InR (Int.add z2 (Int.ofNat 1)) (
 St H p 5 [(i64 (Int.add z2 (Int.ofNat 1)))] fun H3 =>
 Ld H3 p 5 fun v4 =>
 Ld H3 p 0 fun v5 =>
 Ld H3 p 1 fun v6 =>
 Ld H3 p 2 fun v7 =>
 Ld H3 p 3 fun v8 =>
 Call1 Tryz.prog con 99 [(.agg ⟨[v5, v6, v7, v8]⟩)] H3 fun v9 H10 =>
 AsInt .i64 v4 fun z11 =>
 AsInt .i64 v9 fun z12 =>
 Ld H3 p 5 fun v13 =>
 Same v4 v13 (
 Ld H10 p 5 fun v14 =>
 Same v4 v14 (
 Cd (ltZ z11 z12) (
 K (iN (0)) H10) (
 St H10 p 12 [(iN (32))] fun H15 =>
 K (iN (8)) H15))))) := by kernel_rfl
theorem snapSeek_W (con : CallT) (p q : Nat) (H : CH) (K : KP) : funW Tryz.prog con 129 [ptr p 0, ptr q 0] H K =
 (Ld H p 0 fun v1 =>
 Ld H p 1 fun v2 =>
 Ld H p 2 fun v3 =>
 Ld H p 3 fun v4 =>
 Call1 Tryz.prog con 99 [(.agg ⟨[v1, v2, v3, v4]⟩)] H fun v5 H6 =>
 AsInt .i64 v5 fun z7 =>
 Cd (eqZ z7 (Int.ofNat 0)) (
 St H6 p 12 [(iN (32))] fun H8 =>
 K (iN (8)) H8) (
 Call1 Tryz.prog con 149 [(ptr p 0)] H6 fun v9 H10 =>
 Call1 Tryz.prog con 105 [(ptr q 0), v9] H10 fun v11 H12 =>
 Sc v11 (St H12 p 6 [v11] fun H13 =>
 Ld H13 p 6 fun v14 =>
 Call1 Tryz.prog con 100 [v14] H13 fun v15 H16 =>
 Nw H16 (mkRow 157 0 [(u8 (0)), (u64 (0)), (u64 (0))]) fun p17 H18 =>
 AsAgg v15 fun l19 =>
 Must (eqN (lenF l19) 3) (
 Nth l19 0 fun v20 =>
 Nth l19 1 fun v21 =>
 Nth l19 2 fun v22 =>
 St H18 p17 0 [v20, v21, v22] fun H23 =>
 Ld H23 p17 0 fun v24 =>
 AsNat .u8 v24 fun n25 =>
 Cd (notB (eqN n25 0)) (
 Call1 Tryz.prog con 150 [(ptr p 0)] H23 fun v26 H27 =>
 K v26 H27) (
 Ld H23 p17 1 fun v28 =>
 AsNat .u64 v28 fun n29 =>
 Cd (leN 1048575 n29) (
 Call1 Tryz.prog con 150 [(ptr p 0)] H23 fun v30 H31 =>
 K v30 H31) (
 Ld H23 p17 1 fun v32 =>
 Sc v32 (St H23 p 7 [v32] fun H33 =>
 K (iN (1)) H33))))))) := by kernel_rfl
theorem snapClaim_W (con : CallT) (p q : Nat) (H : CH) (K : KP) : funW Tryz.prog con 130 [ptr p 0, ptr q 0] H K =
 (Call1 Tryz.prog con 149 [(ptr p 0)] H fun v1 H2 =>
 Ld H2 p 6 fun v3 =>
 Ld H2 p 7 fun v4 =>
 Sc v4 (Call1 Tryz.prog con 111 [(.agg ⟨[(u8 (1)), v4, (u64 (0))]⟩)] H2 fun v5 H6 =>
 Call1 Tryz.prog con 110 [(ptr q 0), v1, v3, v5] H6 fun v7 H8 =>
 AsBool v7 fun b9 =>
 Ld H p 7 fun v10 =>
 Same v4 v10 (
 Ld H2 p 7 fun v11 =>
 Same v4 v11 (
 Ld H p 6 fun v12 =>
 Same v3 v12 (
 Ld H2 p 6 fun v13 =>
 Same v3 v13 (
 Ld H6 p 6 fun v14 =>
 Same v3 v14 (
 Cd (notB b9) (
 Call1 Tryz.prog con 150 [(ptr p 0)] H8 fun v15 H16 =>
 K v15 H16) (
 K (iN (2)) H8)))))))) := by kernel_rfl
theorem snapLook_W (con : CallT) (p q : Nat) (H : CH) (K : KP) : funW Tryz.prog con 131 [ptr p 0, ptr q 0] H K =
 (Ld H p 0 fun v1 =>
 Call1 Tryz.prog con 105 [(ptr q 0), v1] H fun v2 H3 =>
 Sc v2 (St H3 p 8 [v2] fun H4 =>
 K (iN (3)) H4)) := by kernel_rfl
theorem snapTell_W (con : CallT) (p q : Nat) (H : CH) (K : KP) : funW Tryz.prog con 132 [ptr p 0, ptr q 0] H K =
 (Call1 Tryz.prog con 149 [(ptr p 0)] H fun v1 H2 =>
 Ld H2 p 7 fun v3 =>
 Ld H2 p 8 fun v4 =>
 Sc v3 (Sc v4 (Call1 Tryz.prog con 111 [(.agg ⟨[(u8 (2)), v3, v4]⟩)] H2 fun v5 H6 =>
 Call1 Tryz.prog con 66 [(ptr q 0), v1, v5] H6 fun v7 H8 =>
 Ld H p 8 fun v9 =>
 Same v4 v9 (
 Ld H2 p 8 fun v10 =>
 Same v4 v10 (
 Ld H p 7 fun v11 =>
 Same v3 v11 (
 Ld H2 p 7 fun v12 =>
 Same v3 v12 (
 K (iN (4)) H8))))))) := by kernel_rfl
theorem snapClock_W (con : CallT) (p q : Nat) (H : CH) (K : KP) : funW Tryz.prog con 133 [ptr p 0, ptr q 0] H K =
 (Ld H p 0 fun v1 =>
 Call1 Tryz.prog con 105 [(ptr q 0), v1] H fun v2 H3 =>
 Sc v2 (St H3 p 8 [v2] fun H4 =>
 Ld H4 p 8 fun v5 =>
 Ld H4 p 3 fun v6 =>
 AsNat .u64 v5 fun n7 =>
 AsNat .u64 v6 fun n8 =>
 Cd (leN n8 n7) (
 K (iN (7)) H4) (
 K (iN (5)) H4))) := by kernel_rfl
theorem snapTurn_W (con : CallT) (p q : Nat) (H : CH) (K : KP) : funW Tryz.prog con 134 [ptr p 0, ptr q 0] H K =
 (Ld H p 0 fun v1 =>
 Ld H p 8 fun v2 =>
 Ld H p 8 fun v3 =>
 AsNat .u64 v3 fun n4 =>
 Call1 Tryz.prog con 110 [(ptr q 0), v1, v2, (u64 ((Nat.mod (Nat.add n4 1) 18446744073709551616)))] H fun v5 H6 =>
 K (iN (6)) H6) := by kernel_rfl
theorem snapHold_W (con : CallT) (p q : Nat) (H : CH) (K : KP) : funW Tryz.prog con 135 [ptr p 0, ptr q 0] H K =
 (Ld H p 7 fun v1 =>
 Ld H p 8 fun v2 =>
 Sc v1 (Sc v2 (St H p 9 [(u8 (3)), v1, v2] fun H3 =>
 Call1 Tryz.prog con 149 [(ptr p 0)] H3 fun v4 H5 =>
 Ld H5 p 9 fun v6 =>
 Ld H5 p 10 fun v7 =>
 Ld H5 p 11 fun v8 =>
 Call1 Tryz.prog con 111 [(.agg ⟨[v6, v7, v8]⟩)] H5 fun v9 H10 =>
 Call1 Tryz.prog con 66 [(ptr q 0), v4, v9] H10 fun v11 H12 =>
 Ld H3 p 9 fun v13 =>
 Ld H3 p 10 fun v14 =>
 Ld H3 p 11 fun v15 =>
 Same (.agg ⟨[v6, v7, v8]⟩) (.agg ⟨[v13, v14, v15]⟩) (
 Ld H5 p 9 fun v16 =>
 Ld H5 p 10 fun v17 =>
 Ld H5 p 11 fun v18 =>
 Same (.agg ⟨[v6, v7, v8]⟩) (.agg ⟨[v16, v17, v18]⟩) (
 K (iN (8)) H12))))) := by kernel_rfl
theorem snapGive_W (con : CallT) (p q : Nat) (H : CH) (K : KP) : funW Tryz.prog con 136 [ptr p 0, ptr q 0] H K =
 (Call1 Tryz.prog con 149 [(ptr p 0)] H fun v1 H2 =>
 Ld H2 p 7 fun v3 =>
 Sc v3 (Call1 Tryz.prog con 111 [(.agg ⟨[(u8 (0)), v3, (u64 (0))]⟩)] H2 fun v4 H5 =>
 Call1 Tryz.prog con 66 [(ptr q 0), v1, v4] H5 fun v6 H7 =>
 Ld H p 7 fun v8 =>
 Same v3 v8 (
 Ld H2 p 7 fun v9 =>
 Same v3 v9 (
 St H7 p 12 [(iN (31))] fun H10 =>
 K (iN (8)) H10)))) := by kernel_rfl
theorem snapHandle_W (con : CallT) (p : Nat) (H : CH) (K : KP) : funW Tryz.prog con 30 [ptr p 0] H K =
 (Ld H p 9 fun v1 =>
 Ld H p 10 fun v2 =>
 Ld H p 11 fun v3 =>
 OpN Tryz.prog H (upd (upd (upd (upd (upd (upd (upd (upd (upd (upd (upd (upd (upd (upd (upd (upd (fun _ => undV) 0 (ptr p 0)) 2 (u64 (0))) 5 (ptr p 0)) 6 (.bool false)) 7 (.bool false)) 7 (.bool false)) 8 (ptr p 0)) 7 (.bool false)) 9 (ptr p 0)) 7 (.bool false)) 10 (ptr p 9)) 7 (.bool false)) 11 (.agg ⟨[v1, v2, v3]⟩)) 7 (.bool false)) 12 (.agg ⟨[(u8 (0)), (u64 (0)), (u64 (0))]⟩)) 7 (.bool false)) (.binOp .eql 157 (.tmp 11) (.tmp 12) 157) fun v4 H5 =>
 AsBool v4 fun b6 =>
 Cd b6 (
 K (u64 (0)) H5) (
 Ld H5 p 5 fun v7 =>
 Ld H5 p 7 fun v8 =>
 Call1 Tryz.prog con 78 [v7, v8] H5 fun v9 H10 =>
 AsTup v9 fun l11 =>
 Nth l11 0 fun v12 =>
 AsTup v9 fun l13 =>
 Nth l13 1 fun v14 =>
 K v12 H10)) := by kernel_rfl
theorem snapStamp_W (con : CallT) (p : Nat) (H : CH) (K : KP) : funW Tryz.prog con 31 [ptr p 0] H K =
 (Ld H p 11 fun v1 =>
 K v1 H) := by kernel_rfl
theorem snapErrno_W (con : CallT) (p : Nat) (H : CH) (K : KP) : funW Tryz.prog con 29 [ptr p 0] H K =
 (Ld H p 12 fun v1 =>
 K v1 H) := by kernel_rfl
theorem newLet_W (con : CallT) (xa xb : Nat) (z : Int) (xd h : Nat) (H : CH) (K : KP) : funW Tryz.prog con 83 [.agg ⟨[u64 xa, u64 xb, i64 z, u64 xd]⟩, u64 h] H K =
 (Nw H (mkRow 29 0 [(u64 (xa)), (u64 (xb)), (i64 z), (u64 (xd))]) fun p1 H2 =>
 Ld H2 p1 0 fun v3 =>
 Ld H2 p1 1 fun v4 =>
 Ld H2 p1 2 fun v5 =>
 Ld H2 p1 3 fun v6 =>
 Nw H2 (mkRow 169 0 [v3, v4, v5, v6, (u64 (h)), (u64 (0)), (u64 (0)), (u64 (0)), (.bool false), (.bool false), (iN (0))]) fun p7 H8 =>
 K (ptr p7 0) H8) := by kernel_rfl
theorem letEnd_W (con : CallT) (p : Nat) (b : Bool) (H : CH) (K : KP) : funW Tryz.prog con 109 [ptr p 0, .bool b] H K =
 (St H p 9 [(.bool true)] fun H1 =>
 Cd (notB b) (
 St H1 p 10 [(iN (33))] fun H2 =>
 K (.bool true) H2) (
 K (.bool true) H1)) := by kernel_rfl
theorem letStep_W (con : CallT) (p q : Nat) (H : CH) (K : KP) : funW Tryz.prog con 86 [ptr p 0, ptr q 0] H K =
 (Ld H p 9 fun v1 =>
 AsBool v1 fun b2 =>
 Cd b2 (
 K (.bool true) H) (
 Ld H p 8 fun v3 =>
 AsBool v3 fun b4 =>
 Cd b4 (
 Ld H p 5 fun v5 =>
 Ld H p 6 fun v6 =>
 Ld H p 7 fun v7 =>
 AsNat .u64 v7 fun n8 =>
 Call1 Tryz.prog con 111 [(.agg ⟨[(u8 (0)), (u64 ((Nat.mod (Nat.add n8 1) 18446744073709551616))), (u64 (0))]⟩)] H fun v9 H10 =>
 Call1 Tryz.prog con 110 [(ptr q 0), v5, v6, v9] H10 fun v11 H12 =>
 Call1 Tryz.prog con 109 [(ptr p 0), v11] H12 fun v13 H14 =>
 Ld H p 6 fun v15 =>
 Same v6 v15 (
 Ld H10 p 6 fun v16 =>
 Same v6 v16 (
 Ld H p 5 fun v17 =>
 Same v5 v17 (
 Ld H10 p 5 fun v18 =>
 Same v5 v18 (
 K v13 H14))))) (
 Ld H p 4 fun v19 =>
 Call1 Tryz.prog con 104 [v19] H fun v20 H21 =>
 AsTup v20 fun l22 =>
 Nth l22 0 fun v23 =>
 AsTup v20 fun l24 =>
 Nth l24 1 fun v25 =>
 AsTup v20 fun l26 =>
 Nth l26 2 fun v27 =>
 AsInt .i64 v27 fun z28 =>
 Cd (notB (eqZ z28 (Int.ofNat 0))) (
 Call1 Tryz.prog con 109 [(ptr p 0), (.bool false)] H21 fun v29 H30 =>
 K v29 H30) (
 Ld H21 p 0 fun v31 =>
 Ld H21 p 1 fun v32 =>
 Ld H21 p 2 fun v33 =>
 Ld H21 p 3 fun v34 =>
 Call1 Tryz.prog con 99 [(.agg ⟨[v31, v32, v33, v34]⟩)] H21 fun v35 H36 =>
 AsInt .i64 v23 fun z37 =>
 AsInt .i64 v35 fun z38 =>
 Cd (leZ z38 z37) (
 Call1 Tryz.prog con 109 [(ptr p 0), (.bool false)] H36 fun v39 H40 =>
 K v39 H40) (
 Ld H36 p 0 fun v41 =>
 Ld H36 p 1 fun v42 =>
 Ld H36 p 2 fun v43 =>
 Ld H36 p 3 fun v44 =>
 Call1 Tryz.prog con 101 [(.agg ⟨[v41, v42, v43, v44]⟩), v23] H36 fun v45 H46 =>
 St H46 p 8 [(.bool true)] fun H47 =>
 Sc v25 (St H47 p 7 [v25] fun H48 =>
 Sc v45 (St H48 p 5 [v45] fun H49 =>
 Ld H49 p 5 fun v50 =>
 Call1 Tryz.prog con 105 [(ptr q 0), v50] H49 fun v51 H52 =>
 Sc v51 (St H52 p 6 [v51] fun H53 =>
 Ld H53 p 6 fun v54 =>
 Call1 Tryz.prog con 100 [v54] H53 fun v55 H56 =>
 Nw H56 (mkRow 157 0 [(u8 (0)), (u64 (0)), (u64 (0))]) fun p57 H58 =>
 AsAgg v55 fun l59 =>
 Must (eqN (lenF l59) 3) (
 Nth l59 0 fun v60 =>
 Nth l59 1 fun v61 =>
 Nth l59 2 fun v62 =>
 St H58 p57 0 [v60, v61, v62] fun H63 =>
 Ld H63 p57 0 fun v64 =>
 Ld H63 p57 1 fun v65 =>
 Ld H63 p57 2 fun v66 =>
 Ld H63 p57 2 fun v67 =>
 Sc v25 (Sc v67 (OpN Tryz.prog H63 (upd (upd (upd (upd (upd (upd (upd (upd (upd (upd (upd (upd (upd (upd (upd (upd (upd (upd (upd (upd (upd (upd (upd (upd (upd (upd (upd (upd (upd (upd (upd (upd (upd (upd (upd (upd (upd (upd (upd (upd (upd (upd (upd (upd (upd (upd (upd (upd (upd (upd (upd (upd (upd (upd (upd (upd (upd (upd (upd (upd (upd (upd (upd (upd (upd (upd (upd (upd (upd (upd (upd (upd (upd (upd (upd (upd (upd (upd (upd (upd (upd (upd (upd (upd (upd (fun _ => undV) 1 (ptr q 0)) 0 (ptr p 0)) 4 (.bool false)) 9 (ptr p 0)) 10 (.bool false)) 11 (.bool false)) 11 (.bool false)) 12 (ptr p 0)) 11 (.bool false)) 13 (ptr p 0)) 11 (.bool false)) 14 (ptr p 9)) 11 (.bool false)) 15 v1) 16 v1) 17 (ptr p 0)) 18 (ptr p 0)) 19 (ptr p 8)) 20 v3) 41 (ptr p 0)) 42 (ptr p 0)) 43 (ptr p 4)) 44 v19) 45 v20) 40 v20) 46 v23) 47 v25) 48 v27) 5 v23) 6 v25) 7 v27) 49 v27) 50 (.bool (notB (eqZ z28 (Int.ofNat 0))))) 51 (.bool (notB (eqZ z28 (Int.ofNat 0))))) 51 (.bool false)) 52 v23) 51 (.bool false)) 53 (ptr p 0)) 51 (.bool false)) 54 (ptr p 0)) 51 (.bool false)) 55 (ptr p 0)) 51 (.bool false)) 56 (.agg ⟨[v31, v32, v33, v34]⟩)) 51 (.bool false)) 57 v35) 51 (.bool false)) 58 (.bool (leZ z38 z37))) 59 (.bool (leZ z38 z37))) 62 (ptr p 0)) 63 (ptr p 0)) 64 (ptr p 0)) 65 v25) 66 (ptr p 0)) 67 (ptr p 0)) 68 (ptr p 0)) 69 (.agg ⟨[v41, v42, v43, v44]⟩)) 70 v23) 71 v45) 72 (ptr p 0)) 73 (ptr p 8)) 74 (ptr p 0)) 75 (ptr p 7)) 76 (ptr p 0)) 77 (ptr p 5)) 78 (ptr p 0)) 79 (ptr q 0)) 80 (ptr p 0)) 81 (ptr p 0)) 82 (ptr p 5)) 83 v50) 84 v51) 85 (ptr p 0)) 86 (ptr p 6)) 87 (ptr p 0)) 88 (ptr p 0)) 89 (ptr p 6)) 90 v54) 91 v55) 8 (ptr p57 0)) 92 (.agg ⟨[v64, v65, v66]⟩)) 93 v25) 94 (ptr p57 2)) 95 v67) 96 (.agg ⟨[(u8 (3)), v25, v67]⟩)) (.binOp .neq 157 (.tmp 92) (.tmp 96) 157) fun v68 H69 =>
 AsBool v68 fun b70 =>
 Cd b70 (
 Call1 Tryz.prog con 109 [(ptr p 0), (.bool false)] H69 fun v71 H72 =>
 K v71 H72) (
 K (.bool false) H69)))))))))))) := by kernel_rfl
theorem letErrno_W (con : CallT) (p : Nat) (H : CH) (K : KP) : funW Tryz.prog con 32 [ptr p 0] H K =
 (Ld H p 10 fun v1 =>
 K v1 H) := by kernel_rfl
theorem annSlots_W (con : CallT) (m xa xb : Nat) (z : Int) (xd : Nat) (H : CH) (K : KP) : funW Tryz.prog con 77 [ptr m 0, .agg ⟨[u64 xa, u64 xb, i64 z, u64 xd]⟩] H K =
 (Nw H (mkRow 29 0 [(u64 (xa)), (u64 (xb)), (i64 z), (u64 (xd))]) fun p1 H2 =>
 Ld H2 p1 0 fun v3 =>
 Ld H2 p1 1 fun v4 =>
 Ld H2 p1 2 fun v5 =>
 Ld H2 p1 3 fun v6 =>
 Call1 Tryz.prog con 99 [(.agg ⟨[v3, v4, v5, v6]⟩)] H2 fun v7 H8 =>
 LoopC Tryz.prog con (lpAt Tryz.prog 77 0) (upd (upd (upd (upd (upd (upd (upd (upd (upd (upd (fun _ => undV) 1 (.agg ⟨[(u64 (xa)), (u64 (xb)), (i64 z), (u64 (xd))]⟩)) 0 (ptr m 0)) 3 (ptr p1 0)) 4 (snil)) 7 (ptr m 0)) 8 (.bool false)) 5 (snil)) 9 (.agg ⟨[v3, v4, v5, v6]⟩)) 10 v7) 11 (iN (0))) H8 (fun e => ceP e
 (fun a9 H10 =>
 K (a9 5) H10)
 (fun i11 => fun a9 H10 =>
 Cd (eqN i11 0) (
 K (a9 5) H10) (
 False))
 (fun a9 H10 =>
 K (a9 4) H10))) := by kernel_rfl
theorem annMake_W (con : CallT) (q cam : Nat) (n : Int) (most : Nat) (H : CH) (K : KP) : funW Tryz.prog con 37 [ptr q 0, u64 cam, i64 n, u64 most] H K =
 (Nw H (mkRow 29 0 [(u64 (0)), (u64 (0)), (iN (0)), (u64 (0))]) fun p1 H2 =>
 Cd (ltZ n (Int.ofNat 1)) (
 St H2 p1 0 [(u64 (0)), (u64 (0)), (iN (0)), (u64 (0))] fun H3 =>
 Ld H3 p1 0 fun v4 =>
 Ld H3 p1 1 fun v5 =>
 Ld H3 p1 2 fun v6 =>
 Ld H3 p1 3 fun v7 =>
 K (.tuple ⟨[(.agg ⟨[v4, v5, v6, v7]⟩), (iN (2))]⟩) H3) (
 Cd (ltZ (Int.ofNat 256) n) (
 St H2 p1 0 [(u64 (0)), (u64 (0)), (iN (0)), (u64 (0))] fun H8 =>
 Ld H8 p1 0 fun v9 =>
 Ld H8 p1 1 fun v10 =>
 Ld H8 p1 2 fun v11 =>
 Ld H8 p1 3 fun v12 =>
 K (.tuple ⟨[(.agg ⟨[v9, v10, v11, v12]⟩), (iN (2))]⟩) H8) (
 Cd (ltN most 1) (
 St H2 p1 0 [(u64 (0)), (u64 (0)), (iN (0)), (u64 (0))] fun H13 =>
 Ld H13 p1 0 fun v14 =>
 Ld H13 p1 1 fun v15 =>
 Ld H13 p1 2 fun v16 =>
 Ld H13 p1 3 fun v17 =>
 K (.tuple ⟨[(.agg ⟨[v14, v15, v16, v17]⟩), (iN (2))]⟩) H13) (
 Cd (ltN 1099511627776 most) (
 St H2 p1 0 [(u64 (0)), (u64 (0)), (iN (0)), (u64 (0))] fun H18 =>
 Ld H18 p1 0 fun v19 =>
 Ld H18 p1 1 fun v20 =>
 Ld H18 p1 2 fun v21 =>
 Ld H18 p1 3 fun v22 =>
 K (.tuple ⟨[(.agg ⟨[v19, v20, v21, v22]⟩), (iN (2))]⟩) H18) (
 MkS Tryz.prog H2 39 (i64 n) (i64 n) fun v23 H24 =>
 Call1 Tryz.prog con 36 [(ptr q 0), v23] H24 fun v25 H26 =>
 AsNat .u64 v25 fun n27 =>
 Cd (eqN n27 0) (
 St H26 p1 0 [(u64 (0)), (u64 (0)), (iN (0)), (u64 (0))] fun H28 =>
 Ld H28 p1 0 fun v29 =>
 Ld H28 p1 1 fun v30 =>
 Ld H28 p1 2 fun v31 =>
 Ld H28 p1 3 fun v32 =>
 K (.tuple ⟨[(.agg ⟨[v29, v30, v31, v32]⟩), (iN (30))]⟩) H28) (
 Sc v25 (St H26 p1 0 [(u64 (cam)), v25, (i64 n), (u64 (most))] fun H33 =>
 Ld H33 p1 0 fun v34 =>
 Ld H33 p1 1 fun v35 =>
 Ld H33 p1 2 fun v36 =>
 Ld H33 p1 3 fun v37 =>
 K (.tuple ⟨[(.agg ⟨[v34, v35, v36, v37]⟩), (iN (0))]⟩) H33))))))) := by kernel_rfl
theorem rWord_W (con : CallT) (c0 c1 c2 : Nat) (H : CH) (K : KP) : funW Tryz.prog con 151 [.agg ⟨[u8 c0, u64 c1, u64 c2]⟩] H K =
 (Nw H (mkRow 157 0 [(u8 (c0)), (u64 (c1)), (u64 (c2))]) fun p1 H2 =>
 Ld H2 p1 0 fun v3 =>
 AsNat .u8 v3 fun n4 =>
 Must (ltN n4 256) (
 Ld H2 p1 1 fun v5 =>
 AsNat .u64 v5 fun n6 =>
 Ld H2 p1 2 fun v7 =>
 AsNat .u64 v7 fun n8 =>
 K (u64 ((Nat.mod (Nat.add (Nat.mod (Nat.add (Nat.mod n4 4) (Nat.mod (Nat.mul 4 (Nat.mod n6 1048576)) 18446744073709551616)) 18446744073709551616) (Nat.mod (Nat.mul (Nat.mod (Nat.mul n8 4) 18446744073709551616) 1048576) 18446744073709551616)) 18446744073709551616))) H2)) := by kernel_rfl
theorem rUnpack_W (con : CallT) (w : Nat) (H : CH) (K : KP) : funW Tryz.prog con 95 [u64 w] H K =
 (Nw H (mkRow 157 0 [(u8 (0)), (u64 (0)), (u64 (0))]) fun p1 H2 =>
 St H2 p1 0 [(u8 ((Nat.mod (Nat.mod w 4) 256))), (u64 ((Nat.mod (Nat.mod (Nat.div w 4) 18446744073709551616) 1048576))), (u64 ((Nat.mod (Nat.div (Nat.mod (Nat.div w 4) 18446744073709551616) 1048576) 18446744073709551616)))] fun H3 =>
 Ld H3 p1 0 fun v4 =>
 Ld H3 p1 1 fun v5 =>
 Ld H3 p1 2 fun v6 =>
 K (.agg ⟨[v4, v5, v6]⟩) H3) := by kernel_rfl
theorem rHandle_W (con : CallT) (z : Int) (g : Nat) (H : CH) (K : KP) : funW Tryz.prog con 97 [i64 z, u64 g] H K =
 (Cd (ltZ z (Int.ofNat 0)) (
 K (.tuple ⟨[(u64 (0)), (iN (2))]⟩) H) (
 Cd (leZ (Int.ofNat 256) z) (
 K (.tuple ⟨[(u64 (0)), (iN (2))]⟩) H) (
 Cd (leN 1048576 g) (
 K (.tuple ⟨[(u64 (0)), (iN (2))]⟩) H) (
 Must (cvOk .i64 z) (
 K (.tuple ⟨[(u64 ((Nat.mod (Nat.add (Nat.mod (Nat.add (wrapN .u64 z) 1) 18446744073709551616) (Nat.mod (Nat.mul g 65536) 18446744073709551616)) 18446744073709551616))), (iN (0))]⟩) H))))) := by kernel_rfl
theorem rUnhandle_W (con : CallT) (h : Nat) (H : CH) (K : KP) : funW Tryz.prog con 20 [u64 h] H K =
 (Cd (ltN (Nat.mod h 65536) 1) (
 K (.tuple ⟨[(iN (0)), (u64 (0)), (iN (33))]⟩) H) (
 Cd (ltN 256 (Nat.mod h 65536)) (
 K (.tuple ⟨[(iN (0)), (u64 (0)), (iN (33))]⟩) H) (
 Cd (leN 1048576 (Nat.mod (Nat.div h 65536) 18446744073709551616)) (
 K (.tuple ⟨[(iN (0)), (u64 (0)), (iN (33))]⟩) H) (
 InR (Int.sub (IntKind.wrap .i64 (Int.ofNat (Nat.mod h 65536))) (Int.ofNat 1)) (
 K (.tuple ⟨[(i64 (Int.sub (IntKind.wrap .i64 (Int.ofNat (Nat.mod h 65536))) (Int.ofNat 1))), (u64 ((Nat.mod (Nat.div h 65536) 18446744073709551616))), (iN (0))]⟩) H))))) := by kernel_rfl
theorem rCount_W (con : CallT) (xa xb : Nat) (z : Int) (xd : Nat) (H : CH) (K : KP) : funW Tryz.prog con 138 [.agg ⟨[u64 xa, u64 xb, i64 z, u64 xd]⟩] H K =
 (Nw H (mkRow 29 0 [(u64 (xa)), (u64 (xb)), (i64 z), (u64 (xd))]) fun p1 H2 =>
 Ld H2 p1 2 fun v3 =>
 AsInt .i64 v3 fun z4 =>
 Cd (ltZ z4 (Int.ofNat 0)) (
 K (iN (0)) H2) (
 Ld H2 p1 2 fun v5 =>
 AsInt .i64 v5 fun z6 =>
 Cd (ltZ (Int.ofNat 256) z6) (
 K (iN (256)) H2) (
 Ld H2 p1 2 fun v7 =>
 K v7 H2))) := by kernel_rfl
theorem rWord13_W (con : CallT) (c0 c1 c2 : Nat) (H : CH) (K : KP) : funW Tryz.prog con 141 [u8 c0, u64 c1, u64 c2] H K =
 (Call1 Tryz.prog con 151 [(.agg ⟨[(u8 (c0)), (u64 (c1)), (u64 (c2))]⟩)] H fun v1 H2 =>
 K v1 H2) := by kernel_rfl
theorem rSnapOn_W (con : CallT) (p o : Nat) (H : CH) (K : KP) : funW Tryz.prog con 139 [ptr p o] H K =
 (Ld H p (Nat.add o 5) fun v1 =>
 AsInt .i64 v1 fun z2 =>
 InR (Int.add z2 (Int.ofNat 1)) (
 St H p (Nat.add o 5) [(i64 (Int.add z2 (Int.ofNat 1)))] fun H3 =>
 St H3 p (Nat.add o 0) [(iN (0))] fun H4 =>
 Ld H4 p (Nat.add o 5) fun v5 =>
 Ld H4 p (Nat.add (Nat.add o 1) 0) fun v6 =>
 Ld H4 p (Nat.add (Nat.add o 1) 1) fun v7 =>
 Ld H4 p (Nat.add (Nat.add o 1) 2) fun v8 =>
 Ld H4 p (Nat.add (Nat.add o 1) 3) fun v9 =>
 Call1 Tryz.prog con 138 [(.agg ⟨[v6, v7, v8, v9]⟩)] H4 fun v10 H11 =>
 AsInt .i64 v5 fun z12 =>
 AsInt .i64 v10 fun z13 =>
 Ld H4 p (Nat.add o 5) fun v14 =>
 Same v5 v14 (
 Ld H11 p (Nat.add o 5) fun v15 =>
 Same v5 v15 (
 Cd (leZ z13 z12) (
 St H11 p (Nat.add o 11) [(iN (32))] fun H16 =>
 St H16 p (Nat.add o 0) [(iN (9))] fun H17 =>
 K unit H17) (
 K unit H11))))) := by kernel_rfl
theorem rSnapStep_W (con : CallT) (p o m : Nat) (t : Int) (H : CH) (K : KP) : funW Tryz.prog con 113 [ptr p o, ptr m 0, i64 t] H K =
 (Ld H p (Nat.add (Nat.add o 1) 1) fun v1 =>
 Ld H p (Nat.add o 5) fun v2 =>
 AsInt .i64 v2 fun z3 =>
 Must (cvOk .i64 z3) (
 AsNat .u64 v1 fun n4 =>
 Ld H p (Nat.add o 0) fun v5 =>
 AsInt .i64 v5 fun z6 =>
 Cd (eqZ z6 (Int.ofNat 0)) (
 Ld H p (Nat.add (Nat.add o 1) 0) fun v7 =>
 Ld H p (Nat.add (Nat.add o 1) 1) fun v8 =>
 Ld H p (Nat.add (Nat.add o 1) 2) fun v9 =>
 Ld H p (Nat.add (Nat.add o 1) 3) fun v10 =>
 Call1 Tryz.prog con 138 [(.agg ⟨[v7, v8, v9, v10]⟩)] H fun v11 H12 =>
 AsInt .i64 v11 fun z13 =>
 Cd (eqZ z13 (Int.ofNat 0)) (
 St H12 p (Nat.add o 11) [(iN (32))] fun H14 =>
 St H14 p (Nat.add o 0) [(iN (9))] fun H15 =>
 K (.bool true) H15) (
 Call1 Tryz.prog con 117 [(ptr m 0), (i64 t), (u64 ((Nat.mod (Nat.add n4 (wrapN .u64 z3)) 18446744073709551616)))] H12 fun v16 H17 =>
 Sc v16 (St H17 p (Nat.add o 6) [v16] fun H18 =>
 Ld H18 p (Nat.add o 6) fun v19 =>
 Call1 Tryz.prog con 95 [v19] H18 fun v20 H21 =>
 Nw H21 (mkRow 157 0 [(u8 (0)), (u64 (0)), (u64 (0))]) fun p22 H23 =>
 AsAgg v20 fun l24 =>
 Must (eqN (lenF l24) 3) (
 Nth l24 0 fun v25 =>
 Nth l24 1 fun v26 =>
 Nth l24 2 fun v27 =>
 St H23 p22 0 [v25, v26, v27] fun H28 =>
 Ld H28 p22 1 fun v29 =>
 Sc v29 (St H28 p (Nat.add o 7) [v29] fun H30 =>
 St H30 p (Nat.add o 0) [(iN (1))] fun H31 =>
 Ld H31 p22 0 fun v32 =>
 AsNat .u8 v32 fun n33 =>
 Cd (notB (eqN n33 0)) (
 Call1 Tryz.prog con 139 [(ptr p o)] H31 fun v34 H35 =>
 Ld H35 p (Nat.add o 0) fun v36 =>
 AsInt .i64 v36 fun z37 =>
 K (.bool (eqZ z37 (Int.ofNat 9))) H35) (
 Ld H31 p22 1 fun v38 =>
 AsNat .u64 v38 fun n39 =>
 Cd (leN 1048575 n39) (
 Call1 Tryz.prog con 139 [(ptr p o)] H31 fun v40 H41 =>
 Ld H41 p (Nat.add o 0) fun v42 =>
 AsInt .i64 v42 fun z43 =>
 K (.bool (eqZ z43 (Int.ofNat 9))) H41) (
 Ld H31 p (Nat.add o 0) fun v44 =>
 AsInt .i64 v44 fun z45 =>
 K (.bool (eqZ z45 (Int.ofNat 9))) H31))))))) (
 AsInt .i64 v5 fun z46 =>
 Cd (eqZ z46 (Int.ofNat 1)) (
 Ld H p (Nat.add o 6) fun v47 =>
 Ld H p (Nat.add o 7) fun v48 =>
 Call1 Tryz.prog con 141 [(u8 (1)), v48, (u64 (0))] H fun v49 H50 =>
 Call1 Tryz.prog con 140 [(ptr m 0), (i64 t), (u64 ((Nat.mod (Nat.add n4 (wrapN .u64 z3)) 18446744073709551616))), v47, v49] H50 fun v51 H52 =>
 Ld H p (Nat.add o 6) fun v53 =>
 Same v47 v53 (
 Ld H50 p (Nat.add o 6) fun v54 =>
 Same v47 v54 (
 AsBool v51 fun b55 =>
 Cd b55 (
 St H52 p (Nat.add o 0) [(iN (2))] fun H56 =>
 Ld H56 p (Nat.add o 0) fun v57 =>
 AsInt .i64 v57 fun z58 =>
 K (.bool (eqZ z58 (Int.ofNat 9))) H56) (
 Call1 Tryz.prog con 139 [(ptr p o)] H52 fun v59 H60 =>
 Ld H60 p (Nat.add o 0) fun v61 =>
 AsInt .i64 v61 fun z62 =>
 K (.bool (eqZ z62 (Int.ofNat 9))) H60)))) (
 AsInt .i64 v5 fun z63 =>
 Cd (eqZ z63 (Int.ofNat 2)) (
 Ld H p (Nat.add (Nat.add o 1) 0) fun v64 =>
 Call1 Tryz.prog con 117 [(ptr m 0), (i64 t), v64] H fun v65 H66 =>
 Sc v65 (St H66 p (Nat.add o 8) [v65] fun H67 =>
 St H67 p (Nat.add o 0) [(iN (3))] fun H68 =>
 Ld H68 p (Nat.add o 0) fun v69 =>
 AsInt .i64 v69 fun z70 =>
 K (.bool (eqZ z70 (Int.ofNat 9))) H68)) (
 AsInt .i64 v5 fun z71 =>
 Cd (eqZ z71 (Int.ofNat 3)) (
 Ld H p (Nat.add o 7) fun v72 =>
 Ld H p (Nat.add o 8) fun v73 =>
 Call1 Tryz.prog con 141 [(u8 (2)), v72, v73] H fun v74 H75 =>
 Call1 Tryz.prog con 70 [(ptr m 0), (i64 t), (u64 ((Nat.mod (Nat.add n4 (wrapN .u64 z3)) 18446744073709551616))), v74] H75 fun v76 H77 =>
 St H77 p (Nat.add o 0) [(iN (4))] fun H78 =>
 Ld H78 p (Nat.add o 0) fun v79 =>
 AsInt .i64 v79 fun z80 =>
 K (.bool (eqZ z80 (Int.ofNat 9))) H78) (
 AsInt .i64 v5 fun z81 =>
 Cd (eqZ z81 (Int.ofNat 4)) (
 Ld H p (Nat.add (Nat.add o 1) 0) fun v82 =>
 Call1 Tryz.prog con 117 [(ptr m 0), (i64 t), v82] H fun v83 H84 =>
 Sc v83 (St H84 p (Nat.add o 8) [v83] fun H85 =>
 St H85 p (Nat.add o 0) [(iN (6))] fun H86 =>
 Ld H86 p (Nat.add o 8) fun v87 =>
 Ld H86 p (Nat.add (Nat.add o 1) 3) fun v88 =>
 AsNat .u64 v87 fun n89 =>
 AsNat .u64 v88 fun n90 =>
 Cd (leN n90 n89) (
 St H86 p (Nat.add o 0) [(iN (5))] fun H91 =>
 Ld H91 p (Nat.add o 0) fun v92 =>
 AsInt .i64 v92 fun z93 =>
 K (.bool (eqZ z93 (Int.ofNat 9))) H91) (
 Ld H86 p (Nat.add o 0) fun v94 =>
 AsInt .i64 v94 fun z95 =>
 K (.bool (eqZ z95 (Int.ofNat 9))) H86))) (
 AsInt .i64 v5 fun z96 =>
 Cd (eqZ z96 (Int.ofNat 5)) (
 Ld H p (Nat.add o 7) fun v97 =>
 Call1 Tryz.prog con 141 [(u8 (0)), v97, (u64 (0))] H fun v98 H99 =>
 Call1 Tryz.prog con 70 [(ptr m 0), (i64 t), (u64 ((Nat.mod (Nat.add n4 (wrapN .u64 z3)) 18446744073709551616))), v98] H99 fun v100 H101 =>
 St H101 p (Nat.add o 11) [(iN (31))] fun H102 =>
 St H102 p (Nat.add o 0) [(iN (9))] fun H103 =>
 Ld H103 p (Nat.add o 0) fun v104 =>
 AsInt .i64 v104 fun z105 =>
 K (.bool (eqZ z105 (Int.ofNat 9))) H103) (
 AsInt .i64 v5 fun z106 =>
 Cd (eqZ z106 (Int.ofNat 6)) (
 Ld H p (Nat.add (Nat.add o 1) 0) fun v107 =>
 Ld H p (Nat.add o 8) fun v108 =>
 Ld H p (Nat.add o 8) fun v109 =>
 AsNat .u64 v109 fun n110 =>
 Call1 Tryz.prog con 140 [(ptr m 0), (i64 t), v107, v108, (u64 ((Nat.mod (Nat.add n110 1) 18446744073709551616)))] H fun v111 H112 =>
 St H112 p (Nat.add o 0) [(iN (7))] fun H113 =>
 Ld H113 p (Nat.add o 0) fun v114 =>
 AsInt .i64 v114 fun z115 =>
 K (.bool (eqZ z115 (Int.ofNat 9))) H113) (
 AsInt .i64 v5 fun z116 =>
 Cd (eqZ z116 (Int.ofNat 7)) (
 Ld H p (Nat.add o 7) fun v117 =>
 Ld H p (Nat.add o 8) fun v118 =>
 Call1 Tryz.prog con 141 [(u8 (3)), v117, v118] H fun v119 H120 =>
 Call1 Tryz.prog con 70 [(ptr m 0), (i64 t), (u64 ((Nat.mod (Nat.add n4 (wrapN .u64 z3)) 18446744073709551616))), v119] H120 fun v121 H122 =>
 Ld H122 p (Nat.add o 5) fun v123 =>
 AsInt .i64 v123 fun z124 =>
 Must (cvOk .i64 z124) (
 Ld H122 p (Nat.add o 7) fun v125 =>
 AsNat .u64 v125 fun n126 =>
 St H122 p (Nat.add o 9) [(u64 ((Nat.mod (Nat.add (Nat.mod (Nat.add (wrapN .u64 z124) 1) 18446744073709551616) (Nat.mod (Nat.mul n126 65536) 18446744073709551616)) 18446744073709551616)))] fun H127 =>
 Ld H127 p (Nat.add o 8) fun v128 =>
 Sc v128 (St H127 p (Nat.add o 10) [v128] fun H129 =>
 St H129 p (Nat.add o 0) [(iN (9))] fun H130 =>
 Ld H130 p (Nat.add o 0) fun v131 =>
 AsInt .i64 v131 fun z132 =>
 K (.bool (eqZ z132 (Int.ofNat 9))) H130))) (
 Ld H p (Nat.add o 0) fun v133 =>
 AsInt .i64 v133 fun z134 =>
 K (.bool (eqZ z134 (Int.ofNat 9))) H)))))))))) := by kernel_rfl
theorem rLetStep_W (con : CallT) (p o m : Nat) (t : Int) (H : CH) (K : KP) : funW Tryz.prog con 115 [ptr p o, ptr m 0, i64 t] H K =
 (Ld H p (Nat.add o 0) fun v1 =>
 AsInt .i64 v1 fun z2 =>
 Cd (eqZ z2 (Int.ofNat 0)) (
 Ld H p (Nat.add o 5) fun v3 =>
 Call1 Tryz.prog con 20 [v3] H fun v4 H5 =>
 AsTup v4 fun l6 =>
 Nth l6 0 fun v7 =>
 AsTup v4 fun l8 =>
 Nth l8 1 fun v9 =>
 AsTup v4 fun l10 =>
 Nth l10 2 fun v11 =>
 AsInt .i64 v11 fun z12 =>
 Cd (notB (eqZ z12 (Int.ofNat 0))) (
 St H5 p (Nat.add o 9) [(iN (33))] fun H13 =>
 St H13 p (Nat.add o 0) [(iN (2))] fun H14 =>
 K (.bool true) H14) (
 Ld H5 p (Nat.add (Nat.add o 1) 0) fun v15 =>
 Ld H5 p (Nat.add (Nat.add o 1) 1) fun v16 =>
 Ld H5 p (Nat.add (Nat.add o 1) 2) fun v17 =>
 Ld H5 p (Nat.add (Nat.add o 1) 3) fun v18 =>
 Call1 Tryz.prog con 138 [(.agg ⟨[v15, v16, v17, v18]⟩)] H5 fun v19 H20 =>
 AsInt .i64 v7 fun z21 =>
 AsInt .i64 v19 fun z22 =>
 Cd (leZ z22 z21) (
 St H20 p (Nat.add o 9) [(iN (33))] fun H23 =>
 St H23 p (Nat.add o 0) [(iN (2))] fun H24 =>
 K (.bool true) H24) (
 Sc v9 (St H20 p (Nat.add o 7) [v9] fun H25 =>
 Ld H25 p (Nat.add (Nat.add o 1) 1) fun v26 =>
 AsInt .i64 v7 fun z27 =>
 Must (cvOk .i64 z27) (
 AsNat .u64 v26 fun n28 =>
 St H25 p (Nat.add o 8) [(u64 ((Nat.mod (Nat.add n28 (wrapN .u64 z27)) 18446744073709551616)))] fun H29 =>
 Ld H29 p (Nat.add o 8) fun v30 =>
 Call1 Tryz.prog con 117 [(ptr m 0), (i64 t), v30] H29 fun v31 H32 =>
 Sc v31 (St H32 p (Nat.add o 6) [v31] fun H33 =>
 Ld H33 p (Nat.add o 6) fun v34 =>
 Call1 Tryz.prog con 95 [v34] H33 fun v35 H36 =>
 Nw H36 (mkRow 157 0 [(u8 (0)), (u64 (0)), (u64 (0))]) fun p37 H38 =>
 AsAgg v35 fun l39 =>
 Must (eqN (lenF l39) 3) (
 Nth l39 0 fun v40 =>
 Nth l39 1 fun v41 =>
 Nth l39 2 fun v42 =>
 St H38 p37 0 [v40, v41, v42] fun H43 =>
 St H43 p (Nat.add o 0) [(iN (1))] fun H44 =>
 Ld H44 p37 0 fun v45 =>
 AsNat .u8 v45 fun n46 =>
 Cd (notB (eqN n46 3)) (
 St H44 p (Nat.add o 9) [(iN (33))] fun H47 =>
 St H47 p (Nat.add o 0) [(iN (2))] fun H48 =>
 Ld H48 p (Nat.add o 0) fun v49 =>
 AsInt .i64 v49 fun z50 =>
 K (.bool (eqZ z50 (Int.ofNat 2))) H48) (
 Ld H44 p37 1 fun v51 =>
 AsNat .u64 v51 fun n52 =>
 AsNat .u64 v9 fun n53 =>
 Cd (notB (eqN n52 n53)) (
 St H44 p (Nat.add o 9) [(iN (33))] fun H54 =>
 St H54 p (Nat.add o 0) [(iN (2))] fun H55 =>
 Ld H55 p (Nat.add o 0) fun v56 =>
 AsInt .i64 v56 fun z57 =>
 K (.bool (eqZ z57 (Int.ofNat 2))) H55) (
 Ld H44 p (Nat.add o 0) fun v58 =>
 AsInt .i64 v58 fun z59 =>
 K (.bool (eqZ z59 (Int.ofNat 2))) H44))))))))) (
 AsInt .i64 v1 fun z60 =>
 Cd (eqZ z60 (Int.ofNat 1)) (
 Ld H p (Nat.add o 8) fun v61 =>
 Ld H p (Nat.add o 6) fun v62 =>
 Ld H p (Nat.add o 7) fun v63 =>
 AsNat .u64 v63 fun n64 =>
 Call1 Tryz.prog con 141 [(u8 (0)), (u64 ((Nat.mod (Nat.add n64 1) 18446744073709551616))), (u64 (0))] H fun v65 H66 =>
 Call1 Tryz.prog con 140 [(ptr m 0), (i64 t), v61, v62, v65] H66 fun v67 H68 =>
 AsBool v67 fun b69 =>
 Ld H p (Nat.add o 6) fun v70 =>
 Same v62 v70 (
 Ld H66 p (Nat.add o 6) fun v71 =>
 Same v62 v71 (
 Ld H p (Nat.add o 8) fun v72 =>
 Same v61 v72 (
 Ld H66 p (Nat.add o 8) fun v73 =>
 Same v61 v73 (
 Cd (notB b69) (
 St H68 p (Nat.add o 9) [(iN (33))] fun H74 =>
 St H74 p (Nat.add o 0) [(iN (2))] fun H75 =>
 Ld H75 p (Nat.add o 0) fun v76 =>
 AsInt .i64 v76 fun z77 =>
 K (.bool (eqZ z77 (Int.ofNat 2))) H75) (
 St H68 p (Nat.add o 0) [(iN (2))] fun H78 =>
 Ld H78 p (Nat.add o 0) fun v79 =>
 AsInt .i64 v79 fun z80 =>
 K (.bool (eqZ z80 (Int.ofNat 2))) H78)))))) (
 Ld H p (Nat.add o 0) fun v81 =>
 AsInt .i64 v81 fun z82 =>
 K (.bool (eqZ z82 (Int.ofNat 2))) H))) := by kernel_rfl
theorem rMake_W (con : CallT) (m : Nat) (t : Int) (cam : Nat) (n : Int) (most : Nat) (H : CH) (K : KP) : funW Tryz.prog con 71 [ptr m 0, i64 t, u64 cam, i64 n, u64 most] H K =
 (Nw H (mkRow 29 0 [(u64 (0)), (u64 (0)), (iN (0)), (u64 (0))]) fun p1 H2 =>
 Cd (ltZ n (Int.ofNat 1)) (
 St H2 p1 0 [(u64 (0)), (u64 (0)), (iN (0)), (u64 (0))] fun H3 =>
 Ld H3 p1 0 fun v4 =>
 Ld H3 p1 1 fun v5 =>
 Ld H3 p1 2 fun v6 =>
 Ld H3 p1 3 fun v7 =>
 K (.tuple ⟨[(.agg ⟨[v4, v5, v6, v7]⟩), (iN (2))]⟩) H3) (
 Cd (ltZ (Int.ofNat 256) n) (
 St H2 p1 0 [(u64 (0)), (u64 (0)), (iN (0)), (u64 (0))] fun H8 =>
 Ld H8 p1 0 fun v9 =>
 Ld H8 p1 1 fun v10 =>
 Ld H8 p1 2 fun v11 =>
 Ld H8 p1 3 fun v12 =>
 K (.tuple ⟨[(.agg ⟨[v9, v10, v11, v12]⟩), (iN (2))]⟩) H8) (
 Cd (ltN most 1) (
 St H2 p1 0 [(u64 (0)), (u64 (0)), (iN (0)), (u64 (0))] fun H13 =>
 Ld H13 p1 0 fun v14 =>
 Ld H13 p1 1 fun v15 =>
 Ld H13 p1 2 fun v16 =>
 Ld H13 p1 3 fun v17 =>
 K (.tuple ⟨[(.agg ⟨[v14, v15, v16, v17]⟩), (iN (2))]⟩) H13) (
 Cd (ltN 1099511627776 most) (
 St H2 p1 0 [(u64 (0)), (u64 (0)), (iN (0)), (u64 (0))] fun H18 =>
 Ld H18 p1 0 fun v19 =>
 Ld H18 p1 1 fun v20 =>
 Ld H18 p1 2 fun v21 =>
 Ld H18 p1 3 fun v22 =>
 K (.tuple ⟨[(.agg ⟨[v19, v20, v21, v22]⟩), (iN (2))]⟩) H18) (
 MkS Tryz.prog H2 39 (i64 n) (i64 n) fun v23 H24 =>
 Call1 Tryz.prog con 90 [(ptr m 0), (i64 t), v23] H24 fun v25 H26 =>
 AsNat .u64 v25 fun n27 =>
 Cd (eqN n27 0) (
 St H26 p1 0 [(u64 (0)), (u64 (0)), (iN (0)), (u64 (0))] fun H28 =>
 Ld H28 p1 0 fun v29 =>
 Ld H28 p1 1 fun v30 =>
 Ld H28 p1 2 fun v31 =>
 Ld H28 p1 3 fun v32 =>
 K (.tuple ⟨[(.agg ⟨[v29, v30, v31, v32]⟩), (iN (30))]⟩) H28) (
 Sc v25 (St H26 p1 0 [(u64 (cam)), v25, (i64 n), (u64 (most))] fun H33 =>
 Ld H33 p1 0 fun v34 =>
 Ld H33 p1 1 fun v35 =>
 Ld H33 p1 2 fun v36 =>
 Ld H33 p1 3 fun v37 =>
 K (.tuple ⟨[(.agg ⟨[v34, v35, v36, v37]⟩), (iN (0))]⟩) H33))))))) := by kernel_rfl
theorem rBegin13_W (con : CallT) (xa xb : Nat) (z : Int) (xd : Nat) (k : Int) (h : Nat) (v : Value) (H : CH) (K : KP) : funW Tryz.prog con 91 [.agg ⟨[u64 xa, u64 xb, i64 z, u64 xd]⟩, .agg ⟨[i64 k, u64 h]⟩, v] H K =
 (Nw H (mkRow 29 0 [(u64 (xa)), (u64 (xb)), (i64 z), (u64 (xd))]) fun p1 H2 =>
 Nw H2 (mkRow 45 0 [(i64 k), (u64 (h))]) fun p3 H4 =>
 Ld H4 p3 1 fun v5 =>
 Ld H4 p3 0 fun v6 =>
 AsInt .i64 v6 fun z7 =>
 Cd (ltZ z7 (Int.ofNat 0)) (
 Ld H4 p3 1 fun v8 =>
 AsLen v fun l9 =>
 Must (cvOk .i64 (Int.ofNat l9)) (
 AsNat .u64 v8 fun n10 =>
 Cd (ltN n10 (wrapN .u64 (Int.ofNat l9))) (
 Ld H4 p3 1 fun v11 =>
 AsSlc v fun p12 o13 l14 c15 =>
 AsCnt v11 fun n16 =>
 Must (ltN n16 l14) (
 Ld H4 p12 (Nat.add (Nat.add o13 (Nat.mul n16 6)) 0) fun v17 =>
 Ld H4 p3 0 fun v18 =>
 Ld H4 p1 0 fun v19 =>
 Ld H4 p1 1 fun v20 =>
 Ld H4 p1 2 fun v21 =>
 Ld H4 p1 3 fun v22 =>
 Ld H4 p1 0 fun v23 =>
 Ld H4 p1 1 fun v24 =>
 Ld H4 p1 2 fun v25 =>
 Ld H4 p1 3 fun v26 =>
 Sc v17 (Ld H4 p1 0 fun v27 =>
 Ld H4 p1 1 fun v28 =>
 Ld H4 p1 2 fun v29 =>
 Ld H4 p1 3 fun v30 =>
 Sc v18 (Nw H4 (mkRow 247 0 [v18, (iN (0)), v19, v20, v21, v22, (iN (0)), (u64 (0)), (u64 (0)), (u64 (0)), (u64 (0)), (u64 (0)), (iN (0)), (iN (0)), v23, v24, v25, v26, v17, (u64 (0)), (u64 (0)), (u64 (0)), (iN (0)), (iN (0)), v27, v28, v29, v30, (iN (0)), (u64 (0)), (snil), (u64 (0)), (snil), (u64 (0)), (u64 (0)), (iN (0)), (u64 (0)), (snil), (.bool false)]) fun p31 H32 =>
 K (ptr p31 0) H32)))) (
 Ld H4 p3 0 fun v33 =>
 Ld H4 p1 0 fun v34 =>
 Ld H4 p1 1 fun v35 =>
 Ld H4 p1 2 fun v36 =>
 Ld H4 p1 3 fun v37 =>
 Ld H4 p1 0 fun v38 =>
 Ld H4 p1 1 fun v39 =>
 Ld H4 p1 2 fun v40 =>
 Ld H4 p1 3 fun v41 =>
 Ld H4 p1 0 fun v42 =>
 Ld H4 p1 1 fun v43 =>
 Ld H4 p1 2 fun v44 =>
 Ld H4 p1 3 fun v45 =>
 Sc v33 (Nw H4 (mkRow 247 0 [v33, (iN (0)), v34, v35, v36, v37, (iN (0)), (u64 (0)), (u64 (0)), (u64 (0)), (u64 (0)), (u64 (0)), (iN (0)), (iN (0)), v38, v39, v40, v41, (u64 (0)), (u64 (0)), (u64 (0)), (u64 (0)), (iN (0)), (iN (0)), v42, v43, v44, v45, (iN (0)), (u64 (0)), (snil), (u64 (0)), (snil), (u64 (0)), (u64 (0)), (iN (0)), (u64 (0)), (snil), (.bool false)]) fun p46 H47 =>
 K (ptr p46 0) H47)))) (
 Ld H4 p3 0 fun v48 =>
 AsInt .i64 v48 fun z49 =>
 Cd (ltZ (Int.ofNat 2) z49) (
 Ld H4 p3 1 fun v50 =>
 AsLen v fun l51 =>
 Must (cvOk .i64 (Int.ofNat l51)) (
 AsNat .u64 v50 fun n52 =>
 Cd (ltN n52 (wrapN .u64 (Int.ofNat l51))) (
 Ld H4 p3 1 fun v53 =>
 AsSlc v fun p54 o55 l56 c57 =>
 AsCnt v53 fun n58 =>
 Must (ltN n58 l56) (
 Ld H4 p54 (Nat.add (Nat.add o55 (Nat.mul n58 6)) 0) fun v59 =>
 Ld H4 p3 0 fun v60 =>
 Ld H4 p1 0 fun v61 =>
 Ld H4 p1 1 fun v62 =>
 Ld H4 p1 2 fun v63 =>
 Ld H4 p1 3 fun v64 =>
 Ld H4 p1 0 fun v65 =>
 Ld H4 p1 1 fun v66 =>
 Ld H4 p1 2 fun v67 =>
 Ld H4 p1 3 fun v68 =>
 Sc v59 (Ld H4 p1 0 fun v69 =>
 Ld H4 p1 1 fun v70 =>
 Ld H4 p1 2 fun v71 =>
 Ld H4 p1 3 fun v72 =>
 Sc v60 (Nw H4 (mkRow 247 0 [v60, (iN (0)), v61, v62, v63, v64, (iN (0)), (u64 (0)), (u64 (0)), (u64 (0)), (u64 (0)), (u64 (0)), (iN (0)), (iN (0)), v65, v66, v67, v68, v59, (u64 (0)), (u64 (0)), (u64 (0)), (iN (0)), (iN (0)), v69, v70, v71, v72, (iN (0)), (u64 (0)), (snil), (u64 (0)), (snil), (u64 (0)), (u64 (0)), (iN (0)), (u64 (0)), (snil), (.bool false)]) fun p73 H74 =>
 K (ptr p73 0) H74)))) (
 Ld H4 p3 0 fun v75 =>
 Ld H4 p1 0 fun v76 =>
 Ld H4 p1 1 fun v77 =>
 Ld H4 p1 2 fun v78 =>
 Ld H4 p1 3 fun v79 =>
 Ld H4 p1 0 fun v80 =>
 Ld H4 p1 1 fun v81 =>
 Ld H4 p1 2 fun v82 =>
 Ld H4 p1 3 fun v83 =>
 Ld H4 p1 0 fun v84 =>
 Ld H4 p1 1 fun v85 =>
 Ld H4 p1 2 fun v86 =>
 Ld H4 p1 3 fun v87 =>
 Sc v75 (Nw H4 (mkRow 247 0 [v75, (iN (0)), v76, v77, v78, v79, (iN (0)), (u64 (0)), (u64 (0)), (u64 (0)), (u64 (0)), (u64 (0)), (iN (0)), (iN (0)), v80, v81, v82, v83, (u64 (0)), (u64 (0)), (u64 (0)), (u64 (0)), (iN (0)), (iN (0)), v84, v85, v86, v87, (iN (0)), (u64 (0)), (snil), (u64 (0)), (snil), (u64 (0)), (u64 (0)), (iN (0)), (u64 (0)), (snil), (.bool false)]) fun p88 H89 =>
 K (ptr p88 0) H89)))) (
 Ld H4 p3 0 fun v90 =>
 Ld H4 p1 0 fun v91 =>
 Ld H4 p1 1 fun v92 =>
 Ld H4 p1 2 fun v93 =>
 Ld H4 p1 3 fun v94 =>
 Ld H4 p1 0 fun v95 =>
 Ld H4 p1 1 fun v96 =>
 Ld H4 p1 2 fun v97 =>
 Ld H4 p1 3 fun v98 =>
 Sc v5 (Ld H4 p1 0 fun v99 =>
 Ld H4 p1 1 fun v100 =>
 Ld H4 p1 2 fun v101 =>
 Ld H4 p1 3 fun v102 =>
 Sc v90 (Nw H4 (mkRow 247 0 [v90, (iN (0)), v91, v92, v93, v94, (iN (0)), (u64 (0)), (u64 (0)), (u64 (0)), (u64 (0)), (u64 (0)), (iN (0)), (iN (0)), v95, v96, v97, v98, v5, (u64 (0)), (u64 (0)), (u64 (0)), (iN (0)), (iN (0)), v99, v100, v101, v102, (iN (0)), (u64 (0)), (snil), (u64 (0)), (snil), (u64 (0)), (u64 (0)), (iN (0)), (u64 (0)), (snil), (.bool false)]) fun p103 H104 =>
 K (ptr p103 0) H104))))) := by kernel_rfl
theorem rProcStep13_W (con : CallT) (p m : Nat) (t : Int) (H : CH) (K : KP) : funW Tryz.prog con 92 [ptr p 0, ptr m 0, i64 t] H K =
 (Ld H p 0 fun v1 =>
 AsInt .i64 v1 fun z2 =>
 Cd (eqZ z2 (Int.ofNat 0)) (
 Call1 Tryz.prog con 113 [(ptr p 1), (ptr m 0), (i64 t)] H fun v3 H4 =>
 Sc v3 (St H4 p 38 [v3] fun H5 =>
 Ld H5 p 10 fun v6 =>
 Ld H5 p 11 fun v7 =>
 Ld H5 p 12 fun v8 =>
 Sc v6 (St H5 p 33 [v6] fun H9 =>
 Sc v7 (St H9 p 34 [v7] fun H10 =>
 Sc v8 (St H10 p 35 [v8] fun H11 =>
 Ld H11 p 38 fun v12 =>
 K v12 H11))))) (
 AsInt .i64 v1 fun z13 =>
 Cd (eqZ z13 (Int.ofNat 2)) (
 Call1 Tryz.prog con 114 [(ptr p 23), (ptr m 0), (i64 t)] H fun v14 H15 =>
 Sc v14 (St H15 p 38 [v14] fun H16 =>
 Ld H16 p 31 fun v17 =>
 Ld H16 p 32 fun v18 =>
 St H16 p 36 [v17, v18] fun H19 =>
 Ld H19 p 38 fun v20 =>
 K v20 H19)) (
 Call1 Tryz.prog con 115 [(ptr p 13), (ptr m 0), (i64 t)] H fun v21 H22 =>
 Sc v21 (St H22 p 38 [v21] fun H23 =>
 Ld H23 p 22 fun v24 =>
 Sc v24 (St H23 p 35 [v24] fun H25 =>
 Ld H25 p 38 fun v26 =>
 K v26 H25))))) := by kernel_rfl
theorem sortU_W (con : CallT) (v : Value) (H : CH) (K : KP) : funW Tryz.prog con 79 [v] H K =
 (AsLen v fun l1 =>
 Must (cvOk .i64 (Int.ofNat l1)) (
 Call1 Tryz.prog con 103 [(u64 ((wrapN .u64 (Int.ofNat l1))))] H fun v2 H3 =>
 Call1 Tryz.prog con 102 [v, (iN (0)), (iN (l1)), v2] H3 fun v4 H5 =>
 K unit H5)) := by kernel_rfl
theorem annSlotsL_W (con : CallT) (a : TF) (H : CH) (K : KX) : codeW (lpAt Tryz.prog 77 0) Tryz.prog con a H K =
 (AsInt .i64 (a 11) fun z1 =>
 AsInt .i64 (a 10) fun z2 =>
 Cd (ltZ z1 z2) (
 AsPtr (a 3) fun p3 o4 =>
 Ld H p3 (Nat.add o4 0) fun v5 =>
 Ld H p3 (Nat.add o4 1) fun v6 =>
 Ld H p3 (Nat.add o4 2) fun v7 =>
 Ld H p3 (Nat.add o4 3) fun v8 =>
 Call1 Tryz.prog con 101 [(.agg ⟨[v5, v6, v7, v8]⟩), (a 11)] H fun v9 H10 =>
 Call1 Tryz.prog con 13 [(a 0), v9] H10 fun v11 H12 =>
 Call1 Tryz.prog con 100 [v11] H12 fun v13 H14 =>
 AsAgg v13 fun l15 =>
 Must (eqN (lenF l15) 3) (
 Nth l15 0 fun v16 =>
 Nth l15 1 fun v17 =>
 Nth l15 2 fun v18 =>
 Nw H14 (mkRow 157 0 [v16, v17, v18]) fun p19 H20 =>
 App Tryz.prog 153 153 H20 (a 5) (.slice (some ⟨p19, 0, none⟩) 1 1) fun v21 H22 =>
 AsInt .i64 (a 11) fun z23 =>
 InR (Int.add z23 (Int.ofNat 1)) (
 K .normal (upd (upd (upd (upd (upd (upd (upd (upd (upd (upd (upd (upd (upd (upd (upd a 12 (.bool (ltZ z1 z2))) 13 (a 11)) 6 (a 11)) 14 (a 5)) 15 (a 0)) 16 (.agg ⟨[v5, v6, v7, v8]⟩)) 17 (a 11)) 18 v9) 19 v11) 20 v13) 21 (.slice (some ⟨p19, 0, none⟩) 1 1)) 22 v21) 5 v21) 23 (i64 (Int.add z23 (Int.ofNat 1)))) 11 (i64 (Int.add z23 (Int.ofNat 1)))) H22))) (
 K (.exit 0) (upd a 12 (.bool (ltZ z1 z2))) H)) := by kernel_rfl
end Go.Proofs.YtocphcgcpjcfjaaGreat

/- What some functions' texts ask for, step by step, each checked by the kernel. No conditions. -/
set_option linter.unusedVariables false
set_option maxRecDepth 100000
namespace Go.Proofs.YtocphcgcpjcfjaaGreat
open Go Go.CM
theorem pdqSort_W (con : CallT) (v : Value) (a b l : Int) (H : CH) (K : KP) : funW Tryz.prog con 102 [v, i64 a, i64 b, i64 l] H K =
 (LoopC Tryz.prog con (lpAt Tryz.prog 102 0) (upd (upd (upd (upd (upd (upd (fun _ => undV) 3 (i64 l)) 2 (i64 b)) 1 (i64 a)) 0 v) 8 (.bool true)) 9 (.bool true)) H (fun e => ceP e
 (fun a1 H2 =>
 K unit H2)
 (fun i3 => fun a1 H2 =>
 Cd (eqN i3 0) (
 K unit H2) (
 False))
 (fun a1 H2 =>
 K unit H2))) := by kernel_rfl
theorem pdqA_W (con : CallT) (a : TF) (H : CH) (K : KX) : codeW (takeC 7 (blkC (lpAt Tryz.prog 102 0))) Tryz.prog con a H K =
 (AsInt .i64 (a 2) fun z1 =>
 AsInt .i64 (a 1) fun z2 =>
 InR (Int.sub z1 z2) (
 Cd (leZ (Int.sub z1 z2) (Int.ofNat 12)) (
 Call1 Tryz.prog con 118 [(a 0), (a 1), (a 2)] H fun v3 H4 =>
 K .ret (upd (upd (upd (upd (upd (upd (upd (upd (upd (upd a 19 (a 2)) 20 (a 1)) 21 (i64 (Int.sub z1 z2))) 10 (i64 (Int.sub z1 z2))) 22 (i64 (Int.sub z1 z2))) 23 (.bool (leZ (Int.sub z1 z2) (Int.ofNat 12)))) 24 (a 0)) 25 (a 1)) 26 (a 2)) 27 v3) H4) (
 AsInt .i64 (a 3) fun z5 =>
 Cd (eqZ z5 (Int.ofNat 0)) (
 Call1 Tryz.prog con 119 [(a 0), (a 1), (a 2)] H fun v6 H7 =>
 K .ret (upd (upd (upd (upd (upd (upd (upd (upd (upd (upd (upd (upd a 19 (a 2)) 20 (a 1)) 21 (i64 (Int.sub z1 z2))) 10 (i64 (Int.sub z1 z2))) 22 (i64 (Int.sub z1 z2))) 23 (.bool (leZ (Int.sub z1 z2) (Int.ofNat 12)))) 28 (a 3)) 29 (.bool (eqZ z5 (Int.ofNat 0)))) 30 (a 0)) 31 (a 1)) 32 (a 2)) 33 v6) H7) (
 AsBool (a 8) fun b8 =>
 Cd (notB b8) (
 Call1 Tryz.prog con 120 [(a 0), (a 1), (a 2)] H fun v9 H10 =>
 AsInt .i64 (a 3) fun z11 =>
 InR (Int.sub z11 (Int.ofNat 1)) (
 K .normal (upd (upd (upd (upd (upd (upd (upd (upd (upd (upd (upd (upd (upd (upd (upd (upd (upd a 19 (a 2)) 20 (a 1)) 21 (i64 (Int.sub z1 z2))) 10 (i64 (Int.sub z1 z2))) 22 (i64 (Int.sub z1 z2))) 23 (.bool (leZ (Int.sub z1 z2) (Int.ofNat 12)))) 28 (a 3)) 29 (.bool (eqZ z5 (Int.ofNat 0)))) 34 (a 8)) 35 (.bool (notB b8))) 36 (a 0)) 37 (a 1)) 38 (a 2)) 39 v9) 40 (a 3)) 41 (i64 (Int.sub z11 (Int.ofNat 1)))) 3 (i64 (Int.sub z11 (Int.ofNat 1)))) H10)) (
 K .normal (upd (upd (upd (upd (upd (upd (upd (upd (upd (upd a 19 (a 2)) 20 (a 1)) 21 (i64 (Int.sub z1 z2))) 10 (i64 (Int.sub z1 z2))) 22 (i64 (Int.sub z1 z2))) 23 (.bool (leZ (Int.sub z1 z2) (Int.ofNat 12)))) 28 (a 3)) 29 (.bool (eqZ z5 (Int.ofNat 0)))) 34 (a 8)) 35 (.bool (notB b8))) H))))) := by kernel_rfl
theorem pdqB_W (con : CallT) (a : TF) (H : CH) (K : KX) : codeW (sliceC 7 5 (blkC (lpAt Tryz.prog 102 0))) Tryz.prog con a H K =
 (Call1 Tryz.prog con 121 [(a 0), (a 1), (a 2)] H fun v1 H2 =>
 AsTup v1 fun l3 =>
 Nth l3 0 fun v4 =>
 AsTup v1 fun l5 =>
 Nth l5 1 fun v6 =>
 AsInt .i64 v6 fun z7 =>
 Bnd (upd (upd (upd (upd (upd (upd (upd (upd (upd (upd (upd a 43 (a 0)) 44 (a 1)) 45 (a 2)) 46 v1) 42 v1) 47 v4) 48 v6) 11 v4) 12 v6) 49 v6) 50 (.bool (eqZ z7 (Int.ofNat 2)))) fun s1 =>
Cd (eqZ z7 (Int.ofNat 2)) (
 Call1 Tryz.prog con 122 [(a 0), (a 1), (a 2)] H2 fun v8 H9 =>
 AsInt .i64 (a 2) fun z10 =>
 InR (Int.sub z10 (Int.ofNat 1)) (
 AsInt .i64 v4 fun z11 =>
 AsInt .i64 (a 1) fun z12 =>
 InR (Int.sub z11 z12) (
 InR (Int.sub (Int.sub z10 (Int.ofNat 1)) (Int.sub z11 z12)) (
 AsWant (a 8) (False) fun b13 =>
 Bnd (upd (upd (upd (upd (upd (upd (upd (upd (upd (upd (upd (upd (upd (upd s1 51 (a 0)) 52 (a 1)) 53 (a 2)) 54 v8) 55 (a 2)) 56 (i64 (Int.sub z10 (Int.ofNat 1)))) 57 v4) 58 (a 1)) 59 (i64 (Int.sub z11 z12))) 60 (i64 (Int.sub (Int.sub z10 (Int.ofNat 1)) (Int.sub z11 z12)))) 11 (i64 (Int.sub (Int.sub z10 (Int.ofNat 1)) (Int.sub z11 z12)))) 12 (iN (1))) 61 (a 8)) 62 (a 8)) fun s2 =>
Cd b13 (
 AsWant (a 9) (False) fun b14 =>
 Cd b14 (
 Call1 Tryz.prog con 123 [(a 0), (a 1), (a 2)] H9 fun v15 H16 =>
 AsBool v15 fun b17 =>
 Cd b17 (
 K .ret (upd (upd (upd (upd (upd (upd (upd (upd (upd (upd (upd (upd (upd s2 62 (.bool true)) 63 (a 9)) 64 (a 9)) 65 (a 9)) 65 (.bool true)) 66 (iN (1))) 65 (.bool true)) 67 (.bool true)) 68 (.bool true)) 69 (a 0)) 70 (a 1)) 71 (a 2)) 72 v15) H16) (
 K .normal (upd (upd (upd (upd (upd (upd (upd (upd (upd (upd (upd (upd (upd s2 62 (.bool true)) 63 (a 9)) 64 (a 9)) 65 (a 9)) 65 (.bool true)) 66 (iN (1))) 65 (.bool true)) 67 (.bool true)) 68 (.bool true)) 69 (a 0)) 70 (a 1)) 71 (a 2)) 72 v15) H16)) (
 K .normal (upd (Rz false 65 (upd (upd (upd (upd s2 62 (.bool true)) 63 (a 9)) 64 (a 9)) 65 (a 9)) 66 2) 68 (.bool false)) H9)) (
 K .normal (upd (Rz false 65 (upd (upd (upd (upd s2 62 (.bool false)) 63 unit) 64 (.bool false)) 65 (.bool false)) 66 2) 68 (.bool false)) H9))))) (
 AsWant (a 8) (False) fun b18 =>
 Cd b18 (
 AsWant (a 9) (False) fun b19 =>
 Cd b19 (
 AsInt .i64 v6 fun z20 =>
 Bnd (upd (upd (upd (upd (upd (upd (upd (upd (upd (upd (upd s1 61 (a 8)) 62 (a 8)) 62 (.bool true)) 63 (a 9)) 64 (a 9)) 65 (a 9)) 65 (.bool true)) 66 v6) 65 (.bool true)) 67 (.bool (eqZ z20 (Int.ofNat 1)))) 68 (.bool (eqZ z20 (Int.ofNat 1)))) fun s3 =>
Cd (eqZ z20 (Int.ofNat 1)) (
 Call1 Tryz.prog con 123 [(a 0), (a 1), (a 2)] H2 fun v21 H22 =>
 AsBool v21 fun b23 =>
 Cd b23 (
 K .ret (upd (upd (upd (upd s3 69 (a 0)) 70 (a 1)) 71 (a 2)) 72 v21) H22) (
 K .normal (upd (upd (upd (upd s3 69 (a 0)) 70 (a 1)) 71 (a 2)) 72 v21) H22)) (
 K .normal s3 H2)) (
 K .normal (upd (Rz false 65 (upd (upd (upd (upd (upd (upd s1 61 (a 8)) 62 (a 8)) 62 (.bool true)) 63 (a 9)) 64 (a 9)) 65 (a 9)) 66 2) 68 (.bool false)) H2)) (
 K .normal (upd (Rz false 65 (upd (upd (upd (upd (upd (upd s1 61 (a 8)) 62 (a 8)) 62 (.bool false)) 63 unit) 64 (.bool false)) 65 (.bool false)) 66 2) 68 (.bool false)) H2))) := by kernel_rfl
theorem pdqC_W (con : CallT) (a : TF) (H : CH) (K : KX) : codeW (sliceC 12 2 (blkC (lpAt Tryz.prog 102 0))) Tryz.prog con a H K =
 (AsInt .i64 (a 1) fun z1 =>
 Bnd (upd (upd (upd a 73 (a 1)) 74 (.bool (ltZ (Int.ofNat 0) z1))) 75 (.bool (ltZ (Int.ofNat 0) z1))) fun s1 =>
Cd (ltZ (Int.ofNat 0) z1) (
 AsInt .i64 (a 1) fun z2 =>
 InR (Int.sub z2 (Int.ofNat 1)) (
 AsSlc (a 0) fun p3 o4 l5 c6 =>
 AsCnt (i64 (Int.sub z2 (Int.ofNat 1))) fun n7 =>
 Must (ltN n7 l5) (
 Ld H p3 (Nat.add o4 (Nat.mul n7 1)) fun v8 =>
 AsSlc (a 0) fun p9 o10 l11 c12 =>
 AsCnt (a 11) fun n13 =>
 Must (ltN n13 l11) (
 Ld H p9 (Nat.add o10 (Nat.mul n13 1)) fun v14 =>
 Call1 Tryz.prog con 124 [v8, v14] H fun v15 H16 =>
 AsBool v15 fun b17 =>
 Bnd (upd (upd (upd (upd (upd (upd (upd (upd (upd (upd (upd (upd (upd (upd (upd (upd (upd (upd (upd (upd (upd (upd (upd s1 75 (.bool true)) 76 (a 0)) 75 (.bool true)) 77 (a 1)) 75 (.bool true)) 78 (i64 (Int.sub z2 (Int.ofNat 1)))) 75 (.bool true)) 79 (ptr p3 (Nat.add o4 (Nat.mul n7 1)))) 75 (.bool true)) 80 v8) 75 (.bool true)) 81 (a 0)) 75 (.bool true)) 82 (a 11)) 75 (.bool true)) 83 (ptr p9 (Nat.add o10 (Nat.mul n13 1)))) 75 (.bool true)) 84 v14) 75 (.bool true)) 85 v15) 75 (.bool true)) 86 (.bool (notB b17))) 87 (.bool (notB b17))) fun s2 =>
Cd (notB b17) (
 Call1 Tryz.prog con 125 [(a 0), (a 1), (a 2), (a 11)] H16 fun v18 H19 =>
 K (.exit 1) (upd (upd (upd (upd (upd (upd (upd (upd s2 88 (a 0)) 89 (a 1)) 90 (a 2)) 91 (a 11)) 92 v18) 13 v18) 93 v18) 1 v18) H19) (
 K .normal s2 H16))))) (
 K .normal (upd (Rz false 75 s1 76 11) 87 (.bool false)) H)) := by kernel_rfl
theorem pdqD_W (con : CallT) (a : TF) (H : CH) (K : KX) : codeW (dropC 14 (blkC (lpAt Tryz.prog 102 0))) Tryz.prog con a H K =
 (Call1 Tryz.prog con 126 [(a 0), (a 1), (a 2), (a 11)] H fun v1 H2 =>
 AsTup v1 fun l3 =>
 Nth l3 0 fun v4 =>
 AsTup v1 fun l5 =>
 Nth l5 1 fun v6 =>
 AsInt .i64 v4 fun z7 =>
 AsInt .i64 (a 1) fun z8 =>
 InR (Int.sub z7 z8) (
 AsInt .i64 (a 2) fun z9 =>
 AsInt .i64 v4 fun z10 =>
 InR (Int.sub z9 z10) (
 AsInt .i64 (a 10) fun z11 =>
 CInt .quo .i64 z11 (Int.ofNat 8) fun v12 =>
 Cd (ltZ (Int.sub z7 z8) (Int.sub z9 z10)) (
 AsInt .i64 v12 fun z13 =>
 Call1 Tryz.prog con 102 [(a 0), (a 1), v4, (a 3)] H2 fun v14 H15 =>
 AsInt .i64 v4 fun z16 =>
 InR (Int.add z16 (Int.ofNat 1)) (
 K .normal (upd (upd (upd (upd (upd (upd (upd (upd (upd (upd (upd (upd (upd (upd (upd (upd (upd (upd (upd (upd (upd (upd (upd (upd (upd (upd (upd (upd (upd (upd (upd (upd (upd (upd (upd (upd (upd (upd a 95 (a 0)) 96 (a 1)) 97 (a 2)) 98 (a 11)) 99 v1) 94 v1) 100 v4) 101 v6) 14 v4) 15 v6) 102 v6) 9 v6) 103 v4) 104 (a 1)) 105 (i64 (Int.sub z7 z8))) 106 (a 2)) 107 v4) 108 (i64 (Int.sub z9 z10))) 16 (i64 (Int.sub z7 z8))) 17 (i64 (Int.sub z9 z10))) 109 (a 10)) 110 v12) 18 v12) 111 (i64 (Int.sub z7 z8))) 112 (i64 (Int.sub z9 z10))) 113 (.bool (ltZ (Int.sub z7 z8) (Int.sub z9 z10)))) 114 (i64 (Int.sub z7 z8))) 115 v12) 116 (.bool (leZ z13 (Int.sub z7 z8)))) 8 (.bool (leZ z13 (Int.sub z7 z8)))) 117 (a 0)) 118 (a 1)) 119 v4) 120 (a 3)) 121 v14) 122 v4) 123 (i64 (Int.add z16 (Int.ofNat 1)))) 1 (i64 (Int.add z16 (Int.ofNat 1)))) H15)) (
 AsInt .i64 v12 fun z17 =>
 AsInt .i64 v4 fun z18 =>
 InR (Int.add z18 (Int.ofNat 1)) (
 Call1 Tryz.prog con 102 [(a 0), (i64 (Int.add z18 (Int.ofNat 1))), (a 2), (a 3)] H2 fun v19 H20 =>
 K .normal (upd (upd (upd (upd (upd (upd (upd (upd (upd (upd (upd (upd (upd (upd (upd (upd (upd (upd (upd (upd (upd (upd (upd (upd (upd (upd (upd (upd (upd (upd (upd (upd (upd (upd (upd (upd (upd (upd a 95 (a 0)) 96 (a 1)) 97 (a 2)) 98 (a 11)) 99 v1) 94 v1) 100 v4) 101 v6) 14 v4) 15 v6) 102 v6) 9 v6) 103 v4) 104 (a 1)) 105 (i64 (Int.sub z7 z8))) 106 (a 2)) 107 v4) 108 (i64 (Int.sub z9 z10))) 16 (i64 (Int.sub z7 z8))) 17 (i64 (Int.sub z9 z10))) 109 (a 10)) 110 v12) 18 v12) 111 (i64 (Int.sub z7 z8))) 112 (i64 (Int.sub z9 z10))) 113 (.bool (ltZ (Int.sub z7 z8) (Int.sub z9 z10)))) 124 (i64 (Int.sub z9 z10))) 125 v12) 126 (.bool (leZ z17 (Int.sub z9 z10)))) 8 (.bool (leZ z17 (Int.sub z9 z10)))) 127 (a 0)) 128 v4) 129 (i64 (Int.add z18 (Int.ofNat 1)))) 130 (a 2)) 131 (a 3)) 132 v19) 133 v4) 2 v4) H20))))) := by kernel_rfl
theorem bitsLen_W (con : CallT) (n : Nat) (H : CH) (K : KP) : funW Tryz.prog con 103 [u64 n] H K =
 (Call1 Tryz.prog con 128 [(u64 (n))] H fun v1 H2 =>
 K v1 H2) := by kernel_rfl
theorem insSort_W (con : CallT) (v : Value) (a b : Int) (H : CH) (K : KP) : funW Tryz.prog con 118 [v, i64 a, i64 b] H K =
 (InR (Int.add a (Int.ofNat 1)) (
 LoopC Tryz.prog con (lpAt Tryz.prog 118 0) (upd (upd (upd (upd (upd (upd (fun _ => undV) 2 (i64 b)) 1 (i64 a)) 0 v) 8 (i64 a)) 9 (i64 (Int.add a (Int.ofNat 1)))) 6 (i64 (Int.add a (Int.ofNat 1)))) H (fun e => ceP e
 (fun a1 H2 =>
 K unit H2)
 (fun i3 => fun a1 H2 =>
 Cd (eqN i3 0) (
 K unit H2) (
 False))
 (fun a1 H2 =>
 K unit H2)))) := by kernel_rfl
theorem insSortA_W (con : CallT) (a : TF) (H : CH) (K : KX) : codeW (lpAt Tryz.prog 118 0) Tryz.prog con a H K =
 (AsInt .i64 (a 6) fun z1 =>
 AsInt .i64 (a 2) fun z2 =>
 Cd (ltZ z1 z2) (
 LoopC Tryz.prog con (lpAt Tryz.prog 118 1) (upd (upd (upd (upd (upd a 10 (a 6)) 11 (a 2)) 12 (.bool (ltZ z1 z2))) 15 (a 6)) 7 (a 6)) H (fun e => ceP e
 (fun a3 H4 =>
 AsInt .i64 (a3 6) fun z6 =>
 InR (Int.add z6 (Int.ofNat 1)) (
 K .normal (upd (upd (upd a3 13 (a3 6)) 14 (i64 (Int.add z6 (Int.ofNat 1)))) 6 (i64 (Int.add z6 (Int.ofNat 1)))) H4))
 (fun i5 => fun a3 H4 =>
 Cd (eqN i5 2) (
 AsInt .i64 (a3 6) fun z7 =>
 InR (Int.add z7 (Int.ofNat 1)) (
 K .normal (upd (upd (upd a3 13 (a3 6)) 14 (i64 (Int.add z7 (Int.ofNat 1)))) 6 (i64 (Int.add z7 (Int.ofNat 1)))) H4)) (
 Cd (eqN i5 1) (
 AsInt .i64 (a3 6) fun z8 =>
 InR (Int.add z8 (Int.ofNat 1)) (
 K .normal (upd (upd (upd a3 13 (a3 6)) 14 (i64 (Int.add z8 (Int.ofNat 1)))) 6 (i64 (Int.add z8 (Int.ofNat 1)))) H4)) (
 K (.exit i5) a3 H4)))
 (fun a3 H4 =>
 K .ret a3 H4))) (
 K (.exit 0) (upd (upd (upd a 10 (a 6)) 11 (a 2)) 12 (.bool (ltZ z1 z2))) H)) := by kernel_rfl
theorem insSortB_W (con : CallT) (a : TF) (H : CH) (K : KX) : codeW (lpAt Tryz.prog 118 1) Tryz.prog con a H K =
 (AsInt .i64 (a 7) fun z1 =>
 AsInt .i64 (a 1) fun z2 =>
 Bnd (upd (upd (upd (upd a 16 (a 7)) 17 (a 1)) 18 (.bool (ltZ z2 z1))) 19 (.bool (ltZ z2 z1))) fun s1 =>
Cd (ltZ z2 z1) (
 AsSlc (a 0) fun p3 o4 l5 c6 =>
 AsCnt (a 7) fun n7 =>
 Must (ltN n7 l5) (
 Ld H p3 (Nat.add o4 (Nat.mul n7 1)) fun v8 =>
 AsInt .i64 (a 7) fun z9 =>
 InR (Int.sub z9 (Int.ofNat 1)) (
 AsSlc (a 0) fun p10 o11 l12 c13 =>
 AsCnt (i64 (Int.sub z9 (Int.ofNat 1))) fun n14 =>
 Must (ltN n14 l12) (
 Ld H p10 (Nat.add o11 (Nat.mul n14 1)) fun v15 =>
 Call1 Tryz.prog con 124 [v8, v15] H fun v16 H17 =>
 AsBool v16 fun b18 =>
 Bnd (upd (upd (upd (upd (upd (upd (upd (upd (upd (upd (upd (upd (upd (upd (upd (upd (upd (upd (upd (upd (upd s1 19 (.bool true)) 20 (a 0)) 19 (.bool true)) 21 (a 7)) 19 (.bool true)) 22 (ptr p3 (Nat.add o4 (Nat.mul n7 1)))) 19 (.bool true)) 23 v8) 19 (.bool true)) 24 (a 0)) 19 (.bool true)) 25 (a 7)) 19 (.bool true)) 26 (i64 (Int.sub z9 (Int.ofNat 1)))) 19 (.bool true)) 27 (ptr p10 (Nat.add o11 (Nat.mul n14 1)))) 19 (.bool true)) 28 v15) 19 (.bool true)) 29 v16) 30 v16) fun s2 =>
Cd b18 (
 AsInt .i64 (a 7) fun z19 =>
 InR (Int.sub z19 (Int.ofNat 1)) (
 AsInt .i64 (a 7) fun z20 =>
 InR (Int.sub z20 (Int.ofNat 1)) (
 AsSlc (a 0) fun p21 o22 l23 c24 =>
 AsCnt (i64 (Int.sub z20 (Int.ofNat 1))) fun n25 =>
 Must (ltN n25 l23) (
 Ld H17 p21 (Nat.add o22 (Nat.mul n25 1)) fun v26 =>
 AsSlc (a 0) fun p27 o28 l29 c30 =>
 AsCnt (a 7) fun n31 =>
 Must (ltN n31 l29) (
 Ld H17 p27 (Nat.add o28 (Nat.mul n31 1)) fun v32 =>
 AsSlc (a 0) fun p33 o34 l35 c36 =>
 AsCnt (a 7) fun n37 =>
 Must (ltN n37 l35) (
 Sc v26 (St H17 p33 (Nat.add o34 (Nat.mul n37 1)) [v26] fun H38 =>
 AsSlc (a 0) fun p39 o40 l41 c42 =>
 AsCnt (i64 (Int.sub z19 (Int.ofNat 1))) fun n43 =>
 Must (ltN n43 l41) (
 Sc v32 (St H38 p39 (Nat.add o40 (Nat.mul n43 1)) [v32] fun H44 =>
 AsInt .i64 (a 7) fun z45 =>
 InR (Int.sub z45 (Int.ofNat 1)) (
 K .normal (upd (upd (upd (upd (upd (upd (upd (upd (upd (upd (upd (upd (upd (upd (upd (upd (upd (upd (upd s2 33 (a 0)) 34 (a 7)) 35 (a 0)) 36 (a 7)) 37 (i64 (Int.sub z19 (Int.ofNat 1)))) 38 (a 0)) 39 (a 7)) 40 (i64 (Int.sub z20 (Int.ofNat 1)))) 41 (ptr p21 (Nat.add o22 (Nat.mul n25 1)))) 42 v26) 43 (a 0)) 44 (a 7)) 45 (ptr p27 (Nat.add o28 (Nat.mul n31 1)))) 46 v32) 47 (ptr p33 (Nat.add o34 (Nat.mul n37 1)))) 48 (ptr p39 (Nat.add o40 (Nat.mul n43 1)))) 31 (a 7)) 32 (i64 (Int.sub z45 (Int.ofNat 1)))) 7 (i64 (Int.sub z45 (Int.ofNat 1)))) H44)))))))))) (
 K (.exit 2) s2 H17))))) (
 K (.exit 2) (upd (Rz false 19 s1 20 10) 30 (.bool false)) H)) := by kernel_rfl
theorem heapSort_W (con : CallT) (v : Value) (a b : Int) (H : CH) (K : KP) : funW Tryz.prog con 119 [v, i64 a, i64 b] H K =
 (InR (Int.sub b a) (
 InR (Int.sub (Int.sub b a) (Int.ofNat 1)) (
 CInt .quo .i64 (Int.sub (Int.sub b a) (Int.ofNat 1)) (Int.ofNat 2) fun v1 =>
 LoopC Tryz.prog con (lpAt Tryz.prog 119 0) (upd (upd (upd (upd (upd (upd (upd (upd (upd (upd (upd (upd (upd (upd (fun _ => undV) 2 (i64 b)) 1 (i64 a)) 0 v) 11 (i64 a)) 6 (i64 a)) 7 (iN (0))) 12 (i64 b)) 13 (i64 a)) 14 (i64 (Int.sub b a))) 8 (i64 (Int.sub b a))) 15 (i64 (Int.sub b a))) 16 (i64 (Int.sub (Int.sub b a) (Int.ofNat 1)))) 17 v1) 9 v1) H (fun e => ceP e
 (fun a2 H3 =>
 AsInt .i64 (a2 8) fun z5 =>
 InR (Int.sub z5 (Int.ofNat 1)) (
 LoopC Tryz.prog con (lpAt Tryz.prog 119 1) (upd (upd (upd a2 27 (a2 8)) 28 (i64 (Int.sub z5 (Int.ofNat 1)))) 10 (i64 (Int.sub z5 (Int.ofNat 1)))) H3 (fun e => ceP e
 (fun a6 H7 =>
 K unit H7)
 (fun i8 => fun a6 H7 =>
 Cd (eqN i8 2) (
 K unit H7) (
 False))
 (fun a6 H7 =>
 K unit H7))))
 (fun i4 => fun a2 H3 =>
 Cd (eqN i4 0) (
 AsInt .i64 (a2 8) fun z9 =>
 InR (Int.sub z9 (Int.ofNat 1)) (
 LoopC Tryz.prog con (lpAt Tryz.prog 119 1) (upd (upd (upd a2 27 (a2 8)) 28 (i64 (Int.sub z9 (Int.ofNat 1)))) 10 (i64 (Int.sub z9 (Int.ofNat 1)))) H3 (fun e => ceP e
 (fun a10 H11 =>
 K unit H11)
 (fun i12 => fun a10 H11 =>
 Cd (eqN i12 2) (
 K unit H11) (
 False))
 (fun a10 H11 =>
 K unit H11)))) (
 False))
 (fun a2 H3 =>
 K unit H3))))) := by kernel_rfl
theorem heapSortA_W (con : CallT) (a : TF) (H : CH) (K : KX) : codeW (lpAt Tryz.prog 119 0) Tryz.prog con a H K =
 (AsInt .i64 (a 9) fun z1 =>
 Cd (leZ (Int.ofNat 0) z1) (
 Call1 Tryz.prog con 143 [(a 0), (a 9), (a 8), (a 6)] H fun v2 H3 =>
 AsInt .i64 (a 9) fun z4 =>
 InR (Int.sub z4 (Int.ofNat 1)) (
 K .normal (upd (upd (upd (upd (upd (upd (upd (upd (upd (upd a 18 (a 9)) 19 (.bool (leZ (Int.ofNat 0) z1))) 22 (a 0)) 23 (a 9)) 24 (a 8)) 25 (a 6)) 26 v2) 20 (a 9)) 21 (i64 (Int.sub z4 (Int.ofNat 1)))) 9 (i64 (Int.sub z4 (Int.ofNat 1)))) H3)) (
 K (.exit 0) (upd (upd a 18 (a 9)) 19 (.bool (leZ (Int.ofNat 0) z1))) H)) := by kernel_rfl
theorem heapSortB_W (con : CallT) (a : TF) (H : CH) (K : KX) : codeW (lpAt Tryz.prog 119 1) Tryz.prog con a H K =
 (AsInt .i64 (a 10) fun z1 =>
 Cd (leZ (Int.ofNat 0) z1) (
 AsInt .i64 (a 6) fun z2 =>
 AsInt .i64 (a 10) fun z3 =>
 InR (Int.add z2 z3) (
 AsInt .i64 (a 6) fun z4 =>
 AsInt .i64 (a 10) fun z5 =>
 InR (Int.add z4 z5) (
 AsSlc (a 0) fun p6 o7 l8 c9 =>
 AsCnt (i64 (Int.add z4 z5)) fun n10 =>
 Must (ltN n10 l8) (
 Ld H p6 (Nat.add o7 (Nat.mul n10 1)) fun v11 =>
 AsSlc (a 0) fun p12 o13 l14 c15 =>
 AsCnt (a 6) fun n16 =>
 Must (ltN n16 l14) (
 Ld H p12 (Nat.add o13 (Nat.mul n16 1)) fun v17 =>
 AsSlc (a 0) fun p18 o19 l20 c21 =>
 AsCnt (a 6) fun n22 =>
 Must (ltN n22 l20) (
 Sc v11 (St H p18 (Nat.add o19 (Nat.mul n22 1)) [v11] fun H23 =>
 AsSlc (a 0) fun p24 o25 l26 c27 =>
 AsCnt (i64 (Int.add z2 z3)) fun n28 =>
 Must (ltN n28 l26) (
 Sc v17 (St H23 p24 (Nat.add o25 (Nat.mul n28 1)) [v17] fun H29 =>
 Call1 Tryz.prog con 143 [(a 0), (a 7), (a 10), (a 6)] H29 fun v30 H31 =>
 AsInt .i64 (a 10) fun z32 =>
 InR (Int.sub z32 (Int.ofNat 1)) (
 K .normal (upd (upd (upd (upd (upd (upd (upd (upd (upd (upd (upd (upd (upd (upd (upd (upd (upd (upd (upd (upd (upd (upd (upd (upd (upd (upd (upd (upd a 29 (a 10)) 30 (.bool (leZ (Int.ofNat 0) z1))) 33 (a 0)) 34 (a 6)) 35 (a 0)) 36 (a 6)) 37 (a 10)) 38 (i64 (Int.add z2 z3))) 39 (a 0)) 40 (a 6)) 41 (a 10)) 42 (i64 (Int.add z4 z5))) 43 (ptr p6 (Nat.add o7 (Nat.mul n10 1)))) 44 v11) 45 (a 0)) 46 (a 6)) 47 (ptr p12 (Nat.add o13 (Nat.mul n16 1)))) 48 v17) 49 (ptr p18 (Nat.add o19 (Nat.mul n22 1)))) 50 (ptr p24 (Nat.add o25 (Nat.mul n28 1)))) 51 (a 0)) 52 (a 7)) 53 (a 10)) 54 (a 6)) 55 v30) 31 (a 10)) 32 (i64 (Int.sub z32 (Int.ofNat 1)))) 10 (i64 (Int.sub z32 (Int.ofNat 1)))) H31)))))))))) (
 K (.exit 2) (upd (upd a 29 (a 10)) 30 (.bool (leZ (Int.ofNat 0) z1))) H)) := by kernel_rfl
theorem siftDown_W (con : CallT) (v : Value) (a b c : Int) (H : CH) (K : KP) : funW Tryz.prog con 143 [v, i64 a, i64 b, i64 c] H K =
 (LoopC Tryz.prog con (lpAt Tryz.prog 143 0) (upd (upd (upd (upd (upd (upd (fun _ => undV) 3 (i64 c)) 2 (i64 b)) 1 (i64 a)) 0 v) 10 (i64 a)) 8 (i64 a)) H (fun e => ceP e
 (fun a1 H2 =>
 K unit H2)
 (fun i3 => fun a1 H2 =>
 Cd (eqN i3 0) (
 K unit H2) (
 False))
 (fun a1 H2 =>
 K unit H2))) := by kernel_rfl
theorem breakPat_W (con : CallT) (v : Value) (a b : Int) (H : CH) (K : KP) : funW Tryz.prog con 120 [v, i64 a, i64 b] H K =
 (InR (Int.sub b a) (
 Cd (leZ (Int.ofNat 8) (Int.sub b a)) (
 Must (cvOk .i64 (Int.sub b a)) (
 Nw H (mkRow 273 0 [(u64 (0))]) fun p1 H2 =>
 St H2 p1 0 [(u64 ((wrapN .u64 (Int.sub b a))))] fun H3 =>
 Call1 Tryz.prog con 144 [(i64 (Int.sub b a))] H3 fun v4 H5 =>
 CInt .quo .i64 (Int.sub b a) (Int.ofNat 4) fun v6 =>
 AsInt .i64 v6 fun z7 =>
 CInt .mul .i64 z7 (Int.ofNat 2) fun v8 =>
 AsInt .i64 v8 fun z9 =>
 InR (Int.add a z9) (
 InR (Int.sub (Int.add a z9) (Int.ofNat 1)) (
 LoopC Tryz.prog con (lpAt Tryz.prog 120 0) (upd (upd (upd (upd (upd (upd (upd (upd (upd (upd (upd (upd (upd (upd (upd (upd (upd (upd (upd (upd (upd (upd (fun _ => undV) 2 (i64 b)) 1 (i64 a)) 0 v) 11 (i64 b)) 12 (i64 a)) 13 (i64 (Int.sub b a))) 6 (i64 (Int.sub b a))) 14 (i64 (Int.sub b a))) 15 (.bool (leZ (Int.ofNat 8) (Int.sub b a)))) 16 (i64 (Int.sub b a))) 17 (u64 ((wrapN .u64 (Int.sub b a))))) 7 (ptr p1 0)) 18 (i64 (Int.sub b a))) 19 v4) 8 v4) 20 (i64 a)) 21 (i64 (Int.sub b a))) 22 v6) 23 v8) 24 (i64 (Int.add a z9))) 25 (i64 (Int.sub (Int.add a z9) (Int.ofNat 1)))) 9 (i64 (Int.sub (Int.add a z9) (Int.ofNat 1)))) H5 (fun e => ceP e
 (fun a10 H11 =>
 K unit H11)
 (fun i12 => fun a10 H11 =>
 Cd (eqN i12 0) (
 K unit H11) (
 False))
 (fun a10 H11 =>
 K unit H11)))))) (
 K unit H))) := by kernel_rfl
theorem breakPatL_W (con : CallT) (a : TF) (H : CH) (K : KX) : codeW (lpAt Tryz.prog 120 0) Tryz.prog con a H K =
 (AsInt .i64 (a 6) fun z1 =>
 CInt .quo .i64 z1 (Int.ofNat 4) fun v2 =>
 AsInt .i64 v2 fun z3 =>
 CInt .mul .i64 z3 (Int.ofNat 2) fun v4 =>
 AsInt .i64 (a 1) fun z5 =>
 AsInt .i64 v4 fun z6 =>
 InR (Int.add z5 z6) (
 InR (Int.add (Int.add z5 z6) (Int.ofNat 1)) (
 AsInt .i64 (a 9) fun z7 =>
 Bnd (upd (upd (upd (upd (upd (upd (upd (upd a 26 (a 9)) 27 (a 1)) 28 (a 6)) 29 v2) 30 v4) 31 (i64 (Int.add z5 z6))) 32 (i64 (Int.add (Int.add z5 z6) (Int.ofNat 1)))) 33 (.bool (leZ z7 (Int.add (Int.add z5 z6) (Int.ofNat 1))))) fun s1 =>
Cd (leZ z7 (Int.add (Int.add z5 z6) (Int.ofNat 1))) (
 Call1 Tryz.prog con 145 [(a 7)] H fun v8 H9 =>
 AsNat .u64 (a 8) fun n10 =>
 AsNat .u64 v8 fun n11 =>
 CInt .and .u64 (Int.ofNat n11) (Int.ofNat (Go.CM.subM 18446744073709551616 n10 1)) fun v12 =>
 AsNat .u64 v12 fun n13 =>
 AsInt .i64 (a 6) fun z14 =>
 Bnd (upd (upd (upd (upd (upd (upd (upd (upd (upd s1 36 v8) 37 (a 8)) 38 (u64 ((Go.CM.subM 18446744073709551616 n10 1)))) 39 v12) 40 (i64 (IntKind.wrap .i64 (Int.ofNat n13)))) 10 (i64 (IntKind.wrap .i64 (Int.ofNat n13)))) 41 (i64 (IntKind.wrap .i64 (Int.ofNat n13)))) 42 (a 6)) 43 (.bool (leZ z14 (IntKind.wrap .i64 (Int.ofNat n13))))) fun s2 =>
Cd (leZ z14 (IntKind.wrap .i64 (Int.ofNat n13))) (
 AsInt .i64 (a 6) fun z15 =>
 InR (Int.sub (IntKind.wrap .i64 (Int.ofNat n13)) z15) (
 AsInt .i64 (a 1) fun z16 =>
 InR (Int.add z16 (Int.sub (IntKind.wrap .i64 (Int.ofNat n13)) z15)) (
 AsInt .i64 (a 1) fun z17 =>
 InR (Int.add z17 (Int.sub (IntKind.wrap .i64 (Int.ofNat n13)) z15)) (
 AsSlc (a 0) fun p18 o19 l20 c21 =>
 AsCnt (i64 (Int.add z17 (Int.sub (IntKind.wrap .i64 (Int.ofNat n13)) z15))) fun n22 =>
 Must (ltN n22 l20) (
 Ld H9 p18 (Nat.add o19 (Nat.mul n22 1)) fun v23 =>
 AsSlc (a 0) fun p24 o25 l26 c27 =>
 AsCnt (a 9) fun n28 =>
 Must (ltN n28 l26) (
 Ld H9 p24 (Nat.add o25 (Nat.mul n28 1)) fun v29 =>
 AsSlc (a 0) fun p30 o31 l32 c33 =>
 AsCnt (a 9) fun n34 =>
 Must (ltN n34 l32) (
 Sc v23 (St H9 p30 (Nat.add o31 (Nat.mul n34 1)) [v23] fun H35 =>
 AsSlc (a 0) fun p36 o37 l38 c39 =>
 AsCnt (i64 (Int.add z16 (Int.sub (IntKind.wrap .i64 (Int.ofNat n13)) z15))) fun n40 =>
 Must (ltN n40 l38) (
 Sc v29 (St H35 p36 (Nat.add o37 (Nat.mul n40 1)) [v29] fun H41 =>
 AsInt .i64 (a 9) fun z42 =>
 InR (Int.add z42 (Int.ofNat 1)) (
 K .normal (upd (upd (upd (upd (upd (upd (upd (upd (upd (upd (upd (upd (upd (upd (upd (upd (upd (upd (upd (upd (upd (upd (upd (upd (upd s2 44 (i64 (IntKind.wrap .i64 (Int.ofNat n13)))) 45 (a 6)) 46 (i64 (Int.sub (IntKind.wrap .i64 (Int.ofNat n13)) z15))) 10 (i64 (Int.sub (IntKind.wrap .i64 (Int.ofNat n13)) z15))) 47 (a 0)) 48 (a 9)) 49 (a 0)) 50 (a 1)) 51 (i64 (Int.sub (IntKind.wrap .i64 (Int.ofNat n13)) z15))) 52 (i64 (Int.add z16 (Int.sub (IntKind.wrap .i64 (Int.ofNat n13)) z15)))) 53 (a 0)) 54 (a 1)) 55 (i64 (Int.sub (IntKind.wrap .i64 (Int.ofNat n13)) z15))) 56 (i64 (Int.add z17 (Int.sub (IntKind.wrap .i64 (Int.ofNat n13)) z15)))) 57 (ptr p18 (Nat.add o19 (Nat.mul n22 1)))) 58 v23) 59 (a 0)) 60 (a 9)) 61 (ptr p24 (Nat.add o25 (Nat.mul n28 1)))) 62 v29) 63 (ptr p30 (Nat.add o31 (Nat.mul n34 1)))) 64 (ptr p36 (Nat.add o37 (Nat.mul n40 1)))) 34 (a 9)) 35 (i64 (Int.add z42 (Int.ofNat 1)))) 9 (i64 (Int.add z42 (Int.ofNat 1)))) H41))))))))))) (
 AsInt .i64 (a 1) fun z43 =>
 InR (Int.add z43 (IntKind.wrap .i64 (Int.ofNat n13))) (
 AsInt .i64 (a 1) fun z44 =>
 InR (Int.add z44 (IntKind.wrap .i64 (Int.ofNat n13))) (
 AsSlc (a 0) fun p45 o46 l47 c48 =>
 AsCnt (i64 (Int.add z44 (IntKind.wrap .i64 (Int.ofNat n13)))) fun n49 =>
 Must (ltN n49 l47) (
 Ld H9 p45 (Nat.add o46 (Nat.mul n49 1)) fun v50 =>
 AsSlc (a 0) fun p51 o52 l53 c54 =>
 AsCnt (a 9) fun n55 =>
 Must (ltN n55 l53) (
 Ld H9 p51 (Nat.add o52 (Nat.mul n55 1)) fun v56 =>
 AsSlc (a 0) fun p57 o58 l59 c60 =>
 AsCnt (a 9) fun n61 =>
 Must (ltN n61 l59) (
 Sc v50 (St H9 p57 (Nat.add o58 (Nat.mul n61 1)) [v50] fun H62 =>
 AsSlc (a 0) fun p63 o64 l65 c66 =>
 AsCnt (i64 (Int.add z43 (IntKind.wrap .i64 (Int.ofNat n13)))) fun n67 =>
 Must (ltN n67 l65) (
 Sc v56 (St H62 p63 (Nat.add o64 (Nat.mul n67 1)) [v56] fun H68 =>
 AsInt .i64 (a 9) fun z69 =>
 InR (Int.add z69 (Int.ofNat 1)) (
 K .normal (upd (upd (upd (upd (upd (upd (upd (upd (upd (upd (upd (upd (upd (upd (upd (upd (upd (upd (upd (upd (upd s2 47 (a 0)) 48 (a 9)) 49 (a 0)) 50 (a 1)) 51 (i64 (IntKind.wrap .i64 (Int.ofNat n13)))) 52 (i64 (Int.add z43 (IntKind.wrap .i64 (Int.ofNat n13))))) 53 (a 0)) 54 (a 1)) 55 (i64 (IntKind.wrap .i64 (Int.ofNat n13)))) 56 (i64 (Int.add z44 (IntKind.wrap .i64 (Int.ofNat n13))))) 57 (ptr p45 (Nat.add o46 (Nat.mul n49 1)))) 58 v50) 59 (a 0)) 60 (a 9)) 61 (ptr p51 (Nat.add o52 (Nat.mul n55 1)))) 62 v56) 63 (ptr p57 (Nat.add o58 (Nat.mul n61 1)))) 64 (ptr p63 (Nat.add o64 (Nat.mul n67 1)))) 34 (a 9)) 35 (i64 (Int.add z69 (Int.ofNat 1)))) 9 (i64 (Int.add z69 (Int.ofNat 1)))) H68))))))))))) (
 K (.exit 0) s1 H)))) := by kernel_rfl
theorem choosePiv_W (con : CallT) (v : Value) (a b : Int) (H : CH) (K : KP) : funW Tryz.prog con 121 [v, i64 a, i64 b] H K =
 (InR (Int.sub b a) (
 Nw H (mkRow 3 0 [(iN (0))]) fun p1 H2 =>
 CInt .quo .i64 (Int.sub b a) (Int.ofNat 4) fun v3 =>
 AsInt .i64 v3 fun z4 =>
 CInt .mul .i64 z4 (Int.ofNat 1) fun v5 =>
 AsInt .i64 v5 fun z6 =>
 InR (Int.add a z6) (
 CInt .quo .i64 (Int.sub b a) (Int.ofNat 4) fun v7 =>
 AsInt .i64 v7 fun z8 =>
 CInt .mul .i64 z8 (Int.ofNat 2) fun v9 =>
 AsInt .i64 v9 fun z10 =>
 InR (Int.add a z10) (
 CInt .quo .i64 (Int.sub b a) (Int.ofNat 4) fun v11 =>
 AsInt .i64 v11 fun z12 =>
 CInt .mul .i64 z12 (Int.ofNat 3) fun v13 =>
 AsInt .i64 v13 fun z14 =>
 InR (Int.add a z14) (
 Cd (leZ (Int.ofNat 8) (Int.sub b a)) (
 Cd (leZ (Int.ofNat 50) (Int.sub b a)) (
 Call1 Tryz.prog con 146 [v, (i64 (Int.add a z6)), (ptr p1 0)] H2 fun v15 H16 =>
 Call1 Tryz.prog con 146 [v, (i64 (Int.add a z10)), (ptr p1 0)] H16 fun v17 H18 =>
 Call1 Tryz.prog con 146 [v, (i64 (Int.add a z14)), (ptr p1 0)] H18 fun v19 H20 =>
 Call1 Tryz.prog con 147 [v, v15, v17, v19, (ptr p1 0)] H20 fun v21 H22 =>
 Ld H22 p1 0 fun v23 =>
 AsInt .i64 v23 fun z24 =>
 Cd (eqZ z24 (Int.ofNat 0)) (
 K (.tuple ⟨[v21, (iN (1))]⟩) H22) (
 AsInt .i64 v23 fun z25 =>
 Cd (eqZ z25 (Int.ofNat 12)) (
 K (.tuple ⟨[v21, (iN (2))]⟩) H22) (
 K (.tuple ⟨[v21, (iN (0))]⟩) H22))) (
 Call1 Tryz.prog con 147 [v, (i64 (Int.add a z6)), (i64 (Int.add a z10)), (i64 (Int.add a z14)), (ptr p1 0)] H2 fun v26 H27 =>
 Ld H27 p1 0 fun v28 =>
 AsInt .i64 v28 fun z29 =>
 Cd (eqZ z29 (Int.ofNat 0)) (
 K (.tuple ⟨[v26, (iN (1))]⟩) H27) (
 AsInt .i64 v28 fun z30 =>
 Cd (eqZ z30 (Int.ofNat 12)) (
 K (.tuple ⟨[v26, (iN (2))]⟩) H27) (
 K (.tuple ⟨[v26, (iN (0))]⟩) H27)))) (
 Ld H2 p1 0 fun v31 =>
 AsInt .i64 v31 fun z32 =>
 Cd (eqZ z32 (Int.ofNat 0)) (
 K (.tuple ⟨[(i64 (Int.add a z10)), (iN (1))]⟩) H2) (
 AsInt .i64 v31 fun z33 =>
 Cd (eqZ z33 (Int.ofNat 12)) (
 K (.tuple ⟨[(i64 (Int.add a z10)), (iN (2))]⟩) H2) (
 K (.tuple ⟨[(i64 (Int.add a z10)), (iN (0))]⟩) H2)))))))) := by kernel_rfl
theorem revRange_W (con : CallT) (v : Value) (a b : Int) (H : CH) (K : KP) : funW Tryz.prog con 122 [v, i64 a, i64 b] H K =
 (InR (Int.sub b (Int.ofNat 1)) (
 LoopC Tryz.prog con (lpAt Tryz.prog 122 0) (upd (upd (upd (upd (upd (upd (upd (upd (fun _ => undV) 2 (i64 b)) 1 (i64 a)) 0 v) 8 (i64 a)) 6 (i64 a)) 9 (i64 b)) 10 (i64 (Int.sub b (Int.ofNat 1)))) 7 (i64 (Int.sub b (Int.ofNat 1)))) H (fun e => ceP e
 (fun a1 H2 =>
 K unit H2)
 (fun i3 => fun a1 H2 =>
 Cd (eqN i3 0) (
 K unit H2) (
 False))
 (fun a1 H2 =>
 K unit H2)))) := by kernel_rfl
theorem revRangeL_W (con : CallT) (a : TF) (H : CH) (K : KX) : codeW (lpAt Tryz.prog 122 0) Tryz.prog con a H K =
 (AsInt .i64 (a 6) fun z1 =>
 AsInt .i64 (a 7) fun z2 =>
 Cd (ltZ z1 z2) (
 AsSlc (a 0) fun p3 o4 l5 c6 =>
 AsCnt (a 7) fun n7 =>
 Must (ltN n7 l5) (
 Ld H p3 (Nat.add o4 (Nat.mul n7 1)) fun v8 =>
 AsSlc (a 0) fun p9 o10 l11 c12 =>
 AsCnt (a 6) fun n13 =>
 Must (ltN n13 l11) (
 Ld H p9 (Nat.add o10 (Nat.mul n13 1)) fun v14 =>
 AsSlc (a 0) fun p15 o16 l17 c18 =>
 AsCnt (a 6) fun n19 =>
 Must (ltN n19 l17) (
 Sc v8 (St H p15 (Nat.add o16 (Nat.mul n19 1)) [v8] fun H20 =>
 AsSlc (a 0) fun p21 o22 l23 c24 =>
 AsCnt (a 7) fun n25 =>
 Must (ltN n25 l23) (
 Sc v14 (St H20 p21 (Nat.add o22 (Nat.mul n25 1)) [v14] fun H26 =>
 AsInt .i64 (a 6) fun z27 =>
 InR (Int.add z27 (Int.ofNat 1)) (
 AsInt .i64 (a 7) fun z28 =>
 InR (Int.sub z28 (Int.ofNat 1)) (
 K .normal (upd (upd (upd (upd (upd (upd (upd (upd (upd (upd (upd (upd (upd (upd (upd (upd (upd (upd (upd (upd (upd (upd (upd a 11 (a 6)) 12 (a 7)) 13 (.bool (ltZ z1 z2))) 14 (a 0)) 15 (a 6)) 16 (a 0)) 17 (a 7)) 18 (a 0)) 19 (a 7)) 20 (ptr p3 (Nat.add o4 (Nat.mul n7 1)))) 21 v8) 22 (a 0)) 23 (a 6)) 24 (ptr p9 (Nat.add o10 (Nat.mul n13 1)))) 25 v14) 26 (ptr p15 (Nat.add o16 (Nat.mul n19 1)))) 27 (ptr p21 (Nat.add o22 (Nat.mul n25 1)))) 28 (a 6)) 29 (i64 (Int.add z27 (Int.ofNat 1)))) 6 (i64 (Int.add z27 (Int.ofNat 1)))) 30 (a 7)) 31 (i64 (Int.sub z28 (Int.ofNat 1)))) 7 (i64 (Int.sub z28 (Int.ofNat 1)))) H26))))))))) (
 K (.exit 0) (upd (upd (upd a 11 (a 6)) 12 (a 7)) 13 (.bool (ltZ z1 z2))) H)) := by kernel_rfl
theorem partIns_W (con : CallT) (v : Value) (a b : Int) (H : CH) (K : KP) : funW Tryz.prog con 123 [v, i64 a, i64 b] H K =
 (InR (Int.add a (Int.ofNat 1)) (
 LoopC Tryz.prog con (lpAt Tryz.prog 123 0) (upd (upd (upd (upd (upd (upd (upd (upd (fun _ => undV) 2 (i64 b)) 1 (i64 a)) 0 v) 6 (.bool false)) 11 (i64 a)) 12 (i64 (Int.add a (Int.ofNat 1)))) 7 (i64 (Int.add a (Int.ofNat 1)))) 8 (iN (0))) H (fun e => ceP e
 (fun a1 H2 =>
 K (.bool false) H2)
 (fun i3 => fun a1 H2 =>
 Cd (eqN i3 0) (
 K (.bool false) H2) (
 False))
 (fun a1 H2 =>
 K (a1 6) H2)))) := by kernel_rfl
theorem partInsA_W (con : CallT) (a : TF) (H : CH) (K : KX) : codeW (lpAt Tryz.prog 123 0) Tryz.prog con a H K =
 (AsInt .i64 (a 8) fun z1 =>
 Cd (ltZ z1 (Int.ofNat 5)) (
 LoopC Tryz.prog con (lpAt Tryz.prog 123 1) (upd (upd a 13 (a 8)) 14 (.bool (ltZ z1 (Int.ofNat 5)))) H (fun e => ceP e
 (fun a2 H3 =>
 AsInt .i64 (a2 7) fun z5 =>
 AsInt .i64 (a2 2) fun z6 =>
 Cd (eqZ z5 z6) (
 K .ret (upd (upd (upd (upd a2 35 (a2 7)) 36 (a2 2)) 37 (.bool (eqZ z5 z6))) 6 (.bool true)) H3) (
 AsInt .i64 (a2 2) fun z7 =>
 AsInt .i64 (a2 1) fun z8 =>
 InR (Int.sub z7 z8) (
 Bnd (upd (upd (upd (upd (upd (upd (upd a2 35 (a2 7)) 36 (a2 2)) 37 (.bool (eqZ z5 z6))) 38 (a2 2)) 39 (a2 1)) 40 (i64 (Int.sub z7 z8))) 41 (.bool (ltZ (Int.sub z7 z8) (Int.ofNat 50)))) fun s1 =>
Cd (ltZ (Int.sub z7 z8) (Int.ofNat 50)) (
 K .ret (upd s1 6 (.bool false)) H3) (
 AsInt .i64 (a2 7) fun z9 =>
 InR (Int.sub z9 (Int.ofNat 1)) (
 AsInt .i64 (a2 7) fun z10 =>
 InR (Int.sub z10 (Int.ofNat 1)) (
 AsSlc (a2 0) fun p11 o12 l13 c14 =>
 AsCnt (i64 (Int.sub z10 (Int.ofNat 1))) fun n15 =>
 Must (ltN n15 l13) (
 Ld H3 p11 (Nat.add o12 (Nat.mul n15 1)) fun v16 =>
 AsSlc (a2 0) fun p17 o18 l19 c20 =>
 AsCnt (a2 7) fun n21 =>
 Must (ltN n21 l19) (
 Ld H3 p17 (Nat.add o18 (Nat.mul n21 1)) fun v22 =>
 AsSlc (a2 0) fun p23 o24 l25 c26 =>
 AsCnt (a2 7) fun n27 =>
 Must (ltN n27 l25) (
 Sc v16 (St H3 p23 (Nat.add o24 (Nat.mul n27 1)) [v16] fun H28 =>
 AsSlc (a2 0) fun p29 o30 l31 c32 =>
 AsCnt (i64 (Int.sub z9 (Int.ofNat 1))) fun n33 =>
 Must (ltN n33 l31) (
 Sc v22 (St H28 p29 (Nat.add o30 (Nat.mul n33 1)) [v22] fun H34 =>
 AsInt .i64 (a2 7) fun z35 =>
 AsInt .i64 (a2 1) fun z36 =>
 InR (Int.sub z35 z36) (
 Bnd (upd (upd (upd (upd (upd (upd (upd (upd (upd (upd (upd (upd (upd (upd (upd (upd (upd (upd (upd (upd s1 42 (a2 0)) 43 (a2 7)) 44 (a2 0)) 45 (a2 7)) 46 (i64 (Int.sub z9 (Int.ofNat 1)))) 47 (a2 0)) 48 (a2 7)) 49 (i64 (Int.sub z10 (Int.ofNat 1)))) 50 (ptr p11 (Nat.add o12 (Nat.mul n15 1)))) 51 v16) 52 (a2 0)) 53 (a2 7)) 54 (ptr p17 (Nat.add o18 (Nat.mul n21 1)))) 55 v22) 56 (ptr p23 (Nat.add o24 (Nat.mul n27 1)))) 57 (ptr p29 (Nat.add o30 (Nat.mul n33 1)))) 58 (a2 7)) 59 (a2 1)) 60 (i64 (Int.sub z35 z36))) 61 (.bool (leZ (Int.ofNat 2) (Int.sub z35 z36)))) fun s2 =>
Cd (leZ (Int.ofNat 2) (Int.sub z35 z36)) (
 AsInt .i64 (a2 7) fun z37 =>
 InR (Int.sub z37 (Int.ofNat 1)) (
 LoopC Tryz.prog con (lpAt Tryz.prog 123 2) (upd (upd (upd s2 62 (a2 7)) 63 (i64 (Int.sub z37 (Int.ofNat 1)))) 9 (i64 (Int.sub z37 (Int.ofNat 1)))) H34 (fun e => ceP e
 (fun a38 H39 =>
 AsInt .i64 (a38 2) fun z41 =>
 AsInt .i64 (a38 7) fun z42 =>
 InR (Int.sub z41 z42) (
 Cd (leZ (Int.ofNat 2) (Int.sub z41 z42)) (
 AsInt .i64 (a38 7) fun z43 =>
 InR (Int.add z43 (Int.ofNat 1)) (
 LoopC Tryz.prog con (lpAt Tryz.prog 123 3) (upd (upd (upd (upd (upd (upd (upd a38 95 (a38 2)) 96 (a38 7)) 97 (i64 (Int.sub z41 z42))) 98 (.bool (leZ (Int.ofNat 2) (Int.sub z41 z42)))) 99 (a38 7)) 100 (i64 (Int.add z43 (Int.ofNat 1)))) 10 (i64 (Int.add z43 (Int.ofNat 1)))) H39 (fun e => ceP e
 (fun a44 H45 =>
 AsInt .i64 (a44 8) fun z47 =>
 InR (Int.add z47 (Int.ofNat 1)) (
 K .normal (upd (upd (upd a44 15 (a44 8)) 16 (i64 (Int.add z47 (Int.ofNat 1)))) 8 (i64 (Int.add z47 (Int.ofNat 1)))) H45))
 (fun i46 => fun a44 H45 =>
 Cd (eqN i46 6) (
 AsInt .i64 (a44 8) fun z48 =>
 InR (Int.add z48 (Int.ofNat 1)) (
 K .normal (upd (upd (upd a44 15 (a44 8)) 16 (i64 (Int.add z48 (Int.ofNat 1)))) 8 (i64 (Int.add z48 (Int.ofNat 1)))) H45)) (
 Cd (eqN i46 1) (
 AsInt .i64 (a44 8) fun z49 =>
 InR (Int.add z49 (Int.ofNat 1)) (
 K .normal (upd (upd (upd a44 15 (a44 8)) 16 (i64 (Int.add z49 (Int.ofNat 1)))) 8 (i64 (Int.add z49 (Int.ofNat 1)))) H45)) (
 K (.exit i46) a44 H45)))
 (fun a44 H45 =>
 K .ret a44 H45)))) (
 AsInt .i64 (a38 8) fun z50 =>
 InR (Int.add z50 (Int.ofNat 1)) (
 K .normal (upd (upd (upd (upd (upd (upd (upd a38 95 (a38 2)) 96 (a38 7)) 97 (i64 (Int.sub z41 z42))) 98 (.bool (leZ (Int.ofNat 2) (Int.sub z41 z42)))) 15 (a38 8)) 16 (i64 (Int.add z50 (Int.ofNat 1)))) 8 (i64 (Int.add z50 (Int.ofNat 1)))) H39))))
 (fun i40 => fun a38 H39 =>
 Cd (eqN i40 4) (
 AsInt .i64 (a38 2) fun z51 =>
 AsInt .i64 (a38 7) fun z52 =>
 InR (Int.sub z51 z52) (
 Cd (leZ (Int.ofNat 2) (Int.sub z51 z52)) (
 AsInt .i64 (a38 7) fun z53 =>
 InR (Int.add z53 (Int.ofNat 1)) (
 LoopC Tryz.prog con (lpAt Tryz.prog 123 3) (upd (upd (upd (upd (upd (upd (upd a38 95 (a38 2)) 96 (a38 7)) 97 (i64 (Int.sub z51 z52))) 98 (.bool (leZ (Int.ofNat 2) (Int.sub z51 z52)))) 99 (a38 7)) 100 (i64 (Int.add z53 (Int.ofNat 1)))) 10 (i64 (Int.add z53 (Int.ofNat 1)))) H39 (fun e => ceP e
 (fun a54 H55 =>
 AsInt .i64 (a54 8) fun z57 =>
 InR (Int.add z57 (Int.ofNat 1)) (
 K .normal (upd (upd (upd a54 15 (a54 8)) 16 (i64 (Int.add z57 (Int.ofNat 1)))) 8 (i64 (Int.add z57 (Int.ofNat 1)))) H55))
 (fun i56 => fun a54 H55 =>
 Cd (eqN i56 6) (
 AsInt .i64 (a54 8) fun z58 =>
 InR (Int.add z58 (Int.ofNat 1)) (
 K .normal (upd (upd (upd a54 15 (a54 8)) 16 (i64 (Int.add z58 (Int.ofNat 1)))) 8 (i64 (Int.add z58 (Int.ofNat 1)))) H55)) (
 Cd (eqN i56 1) (
 AsInt .i64 (a54 8) fun z59 =>
 InR (Int.add z59 (Int.ofNat 1)) (
 K .normal (upd (upd (upd a54 15 (a54 8)) 16 (i64 (Int.add z59 (Int.ofNat 1)))) 8 (i64 (Int.add z59 (Int.ofNat 1)))) H55)) (
 K (.exit i56) a54 H55)))
 (fun a54 H55 =>
 K .ret a54 H55)))) (
 AsInt .i64 (a38 8) fun z60 =>
 InR (Int.add z60 (Int.ofNat 1)) (
 K .normal (upd (upd (upd (upd (upd (upd (upd a38 95 (a38 2)) 96 (a38 7)) 97 (i64 (Int.sub z51 z52))) 98 (.bool (leZ (Int.ofNat 2) (Int.sub z51 z52)))) 15 (a38 8)) 16 (i64 (Int.add z60 (Int.ofNat 1)))) 8 (i64 (Int.add z60 (Int.ofNat 1)))) H39)))) (
 Cd (eqN i40 1) (
 AsInt .i64 (a38 8) fun z61 =>
 InR (Int.add z61 (Int.ofNat 1)) (
 K .normal (upd (upd (upd a38 15 (a38 8)) 16 (i64 (Int.add z61 (Int.ofNat 1)))) 8 (i64 (Int.add z61 (Int.ofNat 1)))) H39)) (
 K (.exit i40) a38 H39)))
 (fun a38 H39 =>
 K .ret a38 H39)))) (
 AsInt .i64 (a2 2) fun z62 =>
 AsInt .i64 (a2 7) fun z63 =>
 InR (Int.sub z62 z63) (
 Cd (leZ (Int.ofNat 2) (Int.sub z62 z63)) (
 AsInt .i64 (a2 7) fun z64 =>
 InR (Int.add z64 (Int.ofNat 1)) (
 LoopC Tryz.prog con (lpAt Tryz.prog 123 3) (upd (upd (upd (upd (upd (upd (upd s2 95 (a2 2)) 96 (a2 7)) 97 (i64 (Int.sub z62 z63))) 98 (.bool (leZ (Int.ofNat 2) (Int.sub z62 z63)))) 99 (a2 7)) 100 (i64 (Int.add z64 (Int.ofNat 1)))) 10 (i64 (Int.add z64 (Int.ofNat 1)))) H34 (fun e => ceP e
 (fun a65 H66 =>
 AsInt .i64 (a65 8) fun z68 =>
 InR (Int.add z68 (Int.ofNat 1)) (
 K .normal (upd (upd (upd a65 15 (a65 8)) 16 (i64 (Int.add z68 (Int.ofNat 1)))) 8 (i64 (Int.add z68 (Int.ofNat 1)))) H66))
 (fun i67 => fun a65 H66 =>
 Cd (eqN i67 6) (
 AsInt .i64 (a65 8) fun z69 =>
 InR (Int.add z69 (Int.ofNat 1)) (
 K .normal (upd (upd (upd a65 15 (a65 8)) 16 (i64 (Int.add z69 (Int.ofNat 1)))) 8 (i64 (Int.add z69 (Int.ofNat 1)))) H66)) (
 Cd (eqN i67 1) (
 AsInt .i64 (a65 8) fun z70 =>
 InR (Int.add z70 (Int.ofNat 1)) (
 K .normal (upd (upd (upd a65 15 (a65 8)) 16 (i64 (Int.add z70 (Int.ofNat 1)))) 8 (i64 (Int.add z70 (Int.ofNat 1)))) H66)) (
 K (.exit i67) a65 H66)))
 (fun a65 H66 =>
 K .ret a65 H66)))) (
 AsInt .i64 (a2 8) fun z71 =>
 InR (Int.add z71 (Int.ofNat 1)) (
 K .normal (upd (upd (upd (upd (upd (upd (upd s2 95 (a2 2)) 96 (a2 7)) 97 (i64 (Int.sub z62 z63))) 98 (.bool (leZ (Int.ofNat 2) (Int.sub z62 z63)))) 15 (a2 8)) 16 (i64 (Int.add z71 (Int.ofNat 1)))) 8 (i64 (Int.add z71 (Int.ofNat 1)))) H34)))))))))))))))))
 (fun i4 => fun a2 H3 =>
 Cd (eqN i4 2) (
 AsInt .i64 (a2 7) fun z72 =>
 AsInt .i64 (a2 2) fun z73 =>
 Cd (eqZ z72 z73) (
 K .ret (upd (upd (upd (upd a2 35 (a2 7)) 36 (a2 2)) 37 (.bool (eqZ z72 z73))) 6 (.bool true)) H3) (
 AsInt .i64 (a2 2) fun z74 =>
 AsInt .i64 (a2 1) fun z75 =>
 InR (Int.sub z74 z75) (
 Bnd (upd (upd (upd (upd (upd (upd (upd a2 35 (a2 7)) 36 (a2 2)) 37 (.bool (eqZ z72 z73))) 38 (a2 2)) 39 (a2 1)) 40 (i64 (Int.sub z74 z75))) 41 (.bool (ltZ (Int.sub z74 z75) (Int.ofNat 50)))) fun s3 =>
Cd (ltZ (Int.sub z74 z75) (Int.ofNat 50)) (
 K .ret (upd s3 6 (.bool false)) H3) (
 AsInt .i64 (a2 7) fun z76 =>
 InR (Int.sub z76 (Int.ofNat 1)) (
 AsInt .i64 (a2 7) fun z77 =>
 InR (Int.sub z77 (Int.ofNat 1)) (
 AsSlc (a2 0) fun p78 o79 l80 c81 =>
 AsCnt (i64 (Int.sub z77 (Int.ofNat 1))) fun n82 =>
 Must (ltN n82 l80) (
 Ld H3 p78 (Nat.add o79 (Nat.mul n82 1)) fun v83 =>
 AsSlc (a2 0) fun p84 o85 l86 c87 =>
 AsCnt (a2 7) fun n88 =>
 Must (ltN n88 l86) (
 Ld H3 p84 (Nat.add o85 (Nat.mul n88 1)) fun v89 =>
 AsSlc (a2 0) fun p90 o91 l92 c93 =>
 AsCnt (a2 7) fun n94 =>
 Must (ltN n94 l92) (
 Sc v83 (St H3 p90 (Nat.add o91 (Nat.mul n94 1)) [v83] fun H95 =>
 AsSlc (a2 0) fun p96 o97 l98 c99 =>
 AsCnt (i64 (Int.sub z76 (Int.ofNat 1))) fun n100 =>
 Must (ltN n100 l98) (
 Sc v89 (St H95 p96 (Nat.add o97 (Nat.mul n100 1)) [v89] fun H101 =>
 AsInt .i64 (a2 7) fun z102 =>
 AsInt .i64 (a2 1) fun z103 =>
 InR (Int.sub z102 z103) (
 Bnd (upd (upd (upd (upd (upd (upd (upd (upd (upd (upd (upd (upd (upd (upd (upd (upd (upd (upd (upd (upd s3 42 (a2 0)) 43 (a2 7)) 44 (a2 0)) 45 (a2 7)) 46 (i64 (Int.sub z76 (Int.ofNat 1)))) 47 (a2 0)) 48 (a2 7)) 49 (i64 (Int.sub z77 (Int.ofNat 1)))) 50 (ptr p78 (Nat.add o79 (Nat.mul n82 1)))) 51 v83) 52 (a2 0)) 53 (a2 7)) 54 (ptr p84 (Nat.add o85 (Nat.mul n88 1)))) 55 v89) 56 (ptr p90 (Nat.add o91 (Nat.mul n94 1)))) 57 (ptr p96 (Nat.add o97 (Nat.mul n100 1)))) 58 (a2 7)) 59 (a2 1)) 60 (i64 (Int.sub z102 z103))) 61 (.bool (leZ (Int.ofNat 2) (Int.sub z102 z103)))) fun s4 =>
Cd (leZ (Int.ofNat 2) (Int.sub z102 z103)) (
 AsInt .i64 (a2 7) fun z104 =>
 InR (Int.sub z104 (Int.ofNat 1)) (
 LoopC Tryz.prog con (lpAt Tryz.prog 123 2) (upd (upd (upd s4 62 (a2 7)) 63 (i64 (Int.sub z104 (Int.ofNat 1)))) 9 (i64 (Int.sub z104 (Int.ofNat 1)))) H101 (fun e => ceP e
 (fun a105 H106 =>
 AsInt .i64 (a105 2) fun z108 =>
 AsInt .i64 (a105 7) fun z109 =>
 InR (Int.sub z108 z109) (
 Cd (leZ (Int.ofNat 2) (Int.sub z108 z109)) (
 AsInt .i64 (a105 7) fun z110 =>
 InR (Int.add z110 (Int.ofNat 1)) (
 LoopC Tryz.prog con (lpAt Tryz.prog 123 3) (upd (upd (upd (upd (upd (upd (upd a105 95 (a105 2)) 96 (a105 7)) 97 (i64 (Int.sub z108 z109))) 98 (.bool (leZ (Int.ofNat 2) (Int.sub z108 z109)))) 99 (a105 7)) 100 (i64 (Int.add z110 (Int.ofNat 1)))) 10 (i64 (Int.add z110 (Int.ofNat 1)))) H106 (fun e => ceP e
 (fun a111 H112 =>
 AsInt .i64 (a111 8) fun z114 =>
 InR (Int.add z114 (Int.ofNat 1)) (
 K .normal (upd (upd (upd a111 15 (a111 8)) 16 (i64 (Int.add z114 (Int.ofNat 1)))) 8 (i64 (Int.add z114 (Int.ofNat 1)))) H112))
 (fun i113 => fun a111 H112 =>
 Cd (eqN i113 6) (
 AsInt .i64 (a111 8) fun z115 =>
 InR (Int.add z115 (Int.ofNat 1)) (
 K .normal (upd (upd (upd a111 15 (a111 8)) 16 (i64 (Int.add z115 (Int.ofNat 1)))) 8 (i64 (Int.add z115 (Int.ofNat 1)))) H112)) (
 Cd (eqN i113 1) (
 AsInt .i64 (a111 8) fun z116 =>
 InR (Int.add z116 (Int.ofNat 1)) (
 K .normal (upd (upd (upd a111 15 (a111 8)) 16 (i64 (Int.add z116 (Int.ofNat 1)))) 8 (i64 (Int.add z116 (Int.ofNat 1)))) H112)) (
 K (.exit i113) a111 H112)))
 (fun a111 H112 =>
 K .ret a111 H112)))) (
 AsInt .i64 (a105 8) fun z117 =>
 InR (Int.add z117 (Int.ofNat 1)) (
 K .normal (upd (upd (upd (upd (upd (upd (upd a105 95 (a105 2)) 96 (a105 7)) 97 (i64 (Int.sub z108 z109))) 98 (.bool (leZ (Int.ofNat 2) (Int.sub z108 z109)))) 15 (a105 8)) 16 (i64 (Int.add z117 (Int.ofNat 1)))) 8 (i64 (Int.add z117 (Int.ofNat 1)))) H106))))
 (fun i107 => fun a105 H106 =>
 Cd (eqN i107 4) (
 AsInt .i64 (a105 2) fun z118 =>
 AsInt .i64 (a105 7) fun z119 =>
 InR (Int.sub z118 z119) (
 Cd (leZ (Int.ofNat 2) (Int.sub z118 z119)) (
 AsInt .i64 (a105 7) fun z120 =>
 InR (Int.add z120 (Int.ofNat 1)) (
 LoopC Tryz.prog con (lpAt Tryz.prog 123 3) (upd (upd (upd (upd (upd (upd (upd a105 95 (a105 2)) 96 (a105 7)) 97 (i64 (Int.sub z118 z119))) 98 (.bool (leZ (Int.ofNat 2) (Int.sub z118 z119)))) 99 (a105 7)) 100 (i64 (Int.add z120 (Int.ofNat 1)))) 10 (i64 (Int.add z120 (Int.ofNat 1)))) H106 (fun e => ceP e
 (fun a121 H122 =>
 AsInt .i64 (a121 8) fun z124 =>
 InR (Int.add z124 (Int.ofNat 1)) (
 K .normal (upd (upd (upd a121 15 (a121 8)) 16 (i64 (Int.add z124 (Int.ofNat 1)))) 8 (i64 (Int.add z124 (Int.ofNat 1)))) H122))
 (fun i123 => fun a121 H122 =>
 Cd (eqN i123 6) (
 AsInt .i64 (a121 8) fun z125 =>
 InR (Int.add z125 (Int.ofNat 1)) (
 K .normal (upd (upd (upd a121 15 (a121 8)) 16 (i64 (Int.add z125 (Int.ofNat 1)))) 8 (i64 (Int.add z125 (Int.ofNat 1)))) H122)) (
 Cd (eqN i123 1) (
 AsInt .i64 (a121 8) fun z126 =>
 InR (Int.add z126 (Int.ofNat 1)) (
 K .normal (upd (upd (upd a121 15 (a121 8)) 16 (i64 (Int.add z126 (Int.ofNat 1)))) 8 (i64 (Int.add z126 (Int.ofNat 1)))) H122)) (
 K (.exit i123) a121 H122)))
 (fun a121 H122 =>
 K .ret a121 H122)))) (
 AsInt .i64 (a105 8) fun z127 =>
 InR (Int.add z127 (Int.ofNat 1)) (
 K .normal (upd (upd (upd (upd (upd (upd (upd a105 95 (a105 2)) 96 (a105 7)) 97 (i64 (Int.sub z118 z119))) 98 (.bool (leZ (Int.ofNat 2) (Int.sub z118 z119)))) 15 (a105 8)) 16 (i64 (Int.add z127 (Int.ofNat 1)))) 8 (i64 (Int.add z127 (Int.ofNat 1)))) H106)))) (
 Cd (eqN i107 1) (
 AsInt .i64 (a105 8) fun z128 =>
 InR (Int.add z128 (Int.ofNat 1)) (
 K .normal (upd (upd (upd a105 15 (a105 8)) 16 (i64 (Int.add z128 (Int.ofNat 1)))) 8 (i64 (Int.add z128 (Int.ofNat 1)))) H106)) (
 K (.exit i107) a105 H106)))
 (fun a105 H106 =>
 K .ret a105 H106)))) (
 AsInt .i64 (a2 2) fun z129 =>
 AsInt .i64 (a2 7) fun z130 =>
 InR (Int.sub z129 z130) (
 Cd (leZ (Int.ofNat 2) (Int.sub z129 z130)) (
 AsInt .i64 (a2 7) fun z131 =>
 InR (Int.add z131 (Int.ofNat 1)) (
 LoopC Tryz.prog con (lpAt Tryz.prog 123 3) (upd (upd (upd (upd (upd (upd (upd s4 95 (a2 2)) 96 (a2 7)) 97 (i64 (Int.sub z129 z130))) 98 (.bool (leZ (Int.ofNat 2) (Int.sub z129 z130)))) 99 (a2 7)) 100 (i64 (Int.add z131 (Int.ofNat 1)))) 10 (i64 (Int.add z131 (Int.ofNat 1)))) H101 (fun e => ceP e
 (fun a132 H133 =>
 AsInt .i64 (a132 8) fun z135 =>
 InR (Int.add z135 (Int.ofNat 1)) (
 K .normal (upd (upd (upd a132 15 (a132 8)) 16 (i64 (Int.add z135 (Int.ofNat 1)))) 8 (i64 (Int.add z135 (Int.ofNat 1)))) H133))
 (fun i134 => fun a132 H133 =>
 Cd (eqN i134 6) (
 AsInt .i64 (a132 8) fun z136 =>
 InR (Int.add z136 (Int.ofNat 1)) (
 K .normal (upd (upd (upd a132 15 (a132 8)) 16 (i64 (Int.add z136 (Int.ofNat 1)))) 8 (i64 (Int.add z136 (Int.ofNat 1)))) H133)) (
 Cd (eqN i134 1) (
 AsInt .i64 (a132 8) fun z137 =>
 InR (Int.add z137 (Int.ofNat 1)) (
 K .normal (upd (upd (upd a132 15 (a132 8)) 16 (i64 (Int.add z137 (Int.ofNat 1)))) 8 (i64 (Int.add z137 (Int.ofNat 1)))) H133)) (
 K (.exit i134) a132 H133)))
 (fun a132 H133 =>
 K .ret a132 H133)))) (
 AsInt .i64 (a2 8) fun z138 =>
 InR (Int.add z138 (Int.ofNat 1)) (
 K .normal (upd (upd (upd (upd (upd (upd (upd s4 95 (a2 2)) 96 (a2 7)) 97 (i64 (Int.sub z129 z130))) 98 (.bool (leZ (Int.ofNat 2) (Int.sub z129 z130)))) 15 (a2 8)) 16 (i64 (Int.add z138 (Int.ofNat 1)))) 8 (i64 (Int.add z138 (Int.ofNat 1)))) H101))))))))))))))))) (
 Cd (eqN i4 1) (
 AsInt .i64 (a2 8) fun z139 =>
 InR (Int.add z139 (Int.ofNat 1)) (
 K .normal (upd (upd (upd a2 15 (a2 8)) 16 (i64 (Int.add z139 (Int.ofNat 1)))) 8 (i64 (Int.add z139 (Int.ofNat 1)))) H3)) (
 K (.exit i4) a2 H3)))
 (fun a2 H3 =>
 K .ret a2 H3))) (
 K (.exit 0) (upd (upd a 13 (a 8)) 14 (.bool (ltZ z1 (Int.ofNat 5)))) H)) := by kernel_rfl
theorem partInsB_W (con : CallT) (a : TF) (H : CH) (K : KX) : codeW (lpAt Tryz.prog 123 1) Tryz.prog con a H K =
 (AsInt .i64 (a 7) fun z1 =>
 AsInt .i64 (a 2) fun z2 =>
 Bnd (upd (upd (upd (upd a 17 (a 7)) 18 (a 2)) 19 (.bool (ltZ z1 z2))) 20 (.bool (ltZ z1 z2))) fun s1 =>
Cd (ltZ z1 z2) (
 AsSlc (a 0) fun p3 o4 l5 c6 =>
 AsCnt (a 7) fun n7 =>
 Must (ltN n7 l5) (
 Ld H p3 (Nat.add o4 (Nat.mul n7 1)) fun v8 =>
 AsInt .i64 (a 7) fun z9 =>
 InR (Int.sub z9 (Int.ofNat 1)) (
 AsSlc (a 0) fun p10 o11 l12 c13 =>
 AsCnt (i64 (Int.sub z9 (Int.ofNat 1))) fun n14 =>
 Must (ltN n14 l12) (
 Ld H p10 (Nat.add o11 (Nat.mul n14 1)) fun v15 =>
 Call1 Tryz.prog con 124 [v8, v15] H fun v16 H17 =>
 AsBool v16 fun b18 =>
 Bnd (upd (upd (upd (upd (upd (upd (upd (upd (upd (upd (upd (upd (upd (upd (upd (upd (upd (upd (upd (upd (upd (upd (upd s1 20 (.bool true)) 21 (a 0)) 20 (.bool true)) 22 (a 7)) 20 (.bool true)) 23 (ptr p3 (Nat.add o4 (Nat.mul n7 1)))) 20 (.bool true)) 24 v8) 20 (.bool true)) 25 (a 0)) 20 (.bool true)) 26 (a 7)) 20 (.bool true)) 27 (i64 (Int.sub z9 (Int.ofNat 1)))) 20 (.bool true)) 28 (ptr p10 (Nat.add o11 (Nat.mul n14 1)))) 20 (.bool true)) 29 v15) 20 (.bool true)) 30 v16) 20 (.bool true)) 31 (.bool (notB b18))) 32 (.bool (notB b18))) fun s2 =>
Cd (notB b18) (
 AsInt .i64 (a 7) fun z19 =>
 InR (Int.add z19 (Int.ofNat 1)) (
 K .normal (upd (upd (upd s2 33 (a 7)) 34 (i64 (Int.add z19 (Int.ofNat 1)))) 7 (i64 (Int.add z19 (Int.ofNat 1)))) H17)) (
 K (.exit 2) s2 H17))))) (
 K (.exit 2) (upd (Rz false 20 s1 21 11) 32 (.bool false)) H)) := by kernel_rfl
theorem partInsC_W (con : CallT) (a : TF) (H : CH) (K : KX) : codeW (lpAt Tryz.prog 123 2) Tryz.prog con a H K =
 (AsInt .i64 (a 9) fun z1 =>
 Cd (leZ (Int.ofNat 1) z1) (
 AsSlc (a 0) fun p2 o3 l4 c5 =>
 AsCnt (a 9) fun n6 =>
 Must (ltN n6 l4) (
 Ld H p2 (Nat.add o3 (Nat.mul n6 1)) fun v7 =>
 AsInt .i64 (a 9) fun z8 =>
 InR (Int.sub z8 (Int.ofNat 1)) (
 AsSlc (a 0) fun p9 o10 l11 c12 =>
 AsCnt (i64 (Int.sub z8 (Int.ofNat 1))) fun n13 =>
 Must (ltN n13 l11) (
 Ld H p9 (Nat.add o10 (Nat.mul n13 1)) fun v14 =>
 Call1 Tryz.prog con 124 [v7, v14] H fun v15 H16 =>
 AsBool v15 fun b17 =>
 Cd (notB b17) (
 K (.exit 4) (upd (upd (upd (upd (upd (upd (upd (upd (upd (upd (upd (upd (upd a 64 (a 9)) 65 (.bool (leZ (Int.ofNat 1) z1))) 68 (a 0)) 69 (a 9)) 70 (ptr p2 (Nat.add o3 (Nat.mul n6 1)))) 71 v7) 72 (a 0)) 73 (a 9)) 74 (i64 (Int.sub z8 (Int.ofNat 1)))) 75 (ptr p9 (Nat.add o10 (Nat.mul n13 1)))) 76 v14) 77 v15) 78 (.bool (notB b17))) H16) (
 AsInt .i64 (a 9) fun z18 =>
 InR (Int.sub z18 (Int.ofNat 1)) (
 AsInt .i64 (a 9) fun z19 =>
 InR (Int.sub z19 (Int.ofNat 1)) (
 AsSlc (a 0) fun p20 o21 l22 c23 =>
 AsCnt (i64 (Int.sub z19 (Int.ofNat 1))) fun n24 =>
 Must (ltN n24 l22) (
 Ld H16 p20 (Nat.add o21 (Nat.mul n24 1)) fun v25 =>
 AsSlc (a 0) fun p26 o27 l28 c29 =>
 AsCnt (a 9) fun n30 =>
 Must (ltN n30 l28) (
 Ld H16 p26 (Nat.add o27 (Nat.mul n30 1)) fun v31 =>
 AsSlc (a 0) fun p32 o33 l34 c35 =>
 AsCnt (a 9) fun n36 =>
 Must (ltN n36 l34) (
 Sc v25 (St H16 p32 (Nat.add o33 (Nat.mul n36 1)) [v25] fun H37 =>
 AsSlc (a 0) fun p38 o39 l40 c41 =>
 AsCnt (i64 (Int.sub z18 (Int.ofNat 1))) fun n42 =>
 Must (ltN n42 l40) (
 Sc v31 (St H37 p38 (Nat.add o39 (Nat.mul n42 1)) [v31] fun H43 =>
 AsInt .i64 (a 9) fun z44 =>
 InR (Int.sub z44 (Int.ofNat 1)) (
 K .normal (upd (upd (upd (upd (upd (upd (upd (upd (upd (upd (upd (upd (upd (upd (upd (upd (upd (upd (upd (upd (upd (upd (upd (upd (upd (upd (upd (upd (upd (upd (upd (upd a 64 (a 9)) 65 (.bool (leZ (Int.ofNat 1) z1))) 68 (a 0)) 69 (a 9)) 70 (ptr p2 (Nat.add o3 (Nat.mul n6 1)))) 71 v7) 72 (a 0)) 73 (a 9)) 74 (i64 (Int.sub z8 (Int.ofNat 1)))) 75 (ptr p9 (Nat.add o10 (Nat.mul n13 1)))) 76 v14) 77 v15) 78 (.bool (notB b17))) 79 (a 0)) 80 (a 9)) 81 (a 0)) 82 (a 9)) 83 (i64 (Int.sub z18 (Int.ofNat 1)))) 84 (a 0)) 85 (a 9)) 86 (i64 (Int.sub z19 (Int.ofNat 1)))) 87 (ptr p20 (Nat.add o21 (Nat.mul n24 1)))) 88 v25) 89 (a 0)) 90 (a 9)) 91 (ptr p26 (Nat.add o27 (Nat.mul n30 1)))) 92 v31) 93 (ptr p32 (Nat.add o33 (Nat.mul n36 1)))) 94 (ptr p38 (Nat.add o39 (Nat.mul n42 1)))) 66 (a 9)) 67 (i64 (Int.sub z44 (Int.ofNat 1)))) 9 (i64 (Int.sub z44 (Int.ofNat 1)))) H43)))))))))))))) (
 K (.exit 4) (upd (upd a 64 (a 9)) 65 (.bool (leZ (Int.ofNat 1) z1))) H)) := by kernel_rfl
theorem partInsD_W (con : CallT) (a : TF) (H : CH) (K : KX) : codeW (lpAt Tryz.prog 123 3) Tryz.prog con a H K =
 (AsInt .i64 (a 10) fun z1 =>
 AsInt .i64 (a 2) fun z2 =>
 Cd (ltZ z1 z2) (
 AsSlc (a 0) fun p3 o4 l5 c6 =>
 AsCnt (a 10) fun n7 =>
 Must (ltN n7 l5) (
 Ld H p3 (Nat.add o4 (Nat.mul n7 1)) fun v8 =>
 AsInt .i64 (a 10) fun z9 =>
 InR (Int.sub z9 (Int.ofNat 1)) (
 AsSlc (a 0) fun p10 o11 l12 c13 =>
 AsCnt (i64 (Int.sub z9 (Int.ofNat 1))) fun n14 =>
 Must (ltN n14 l12) (
 Ld H p10 (Nat.add o11 (Nat.mul n14 1)) fun v15 =>
 Call1 Tryz.prog con 124 [v8, v15] H fun v16 H17 =>
 AsBool v16 fun b18 =>
 Cd (notB b18) (
 K (.exit 6) (upd (upd (upd (upd (upd (upd (upd (upd (upd (upd (upd (upd (upd (upd a 101 (a 10)) 102 (a 2)) 103 (.bool (ltZ z1 z2))) 106 (a 0)) 107 (a 10)) 108 (ptr p3 (Nat.add o4 (Nat.mul n7 1)))) 109 v8) 110 (a 0)) 111 (a 10)) 112 (i64 (Int.sub z9 (Int.ofNat 1)))) 113 (ptr p10 (Nat.add o11 (Nat.mul n14 1)))) 114 v15) 115 v16) 116 (.bool (notB b18))) H17) (
 AsInt .i64 (a 10) fun z19 =>
 InR (Int.sub z19 (Int.ofNat 1)) (
 AsInt .i64 (a 10) fun z20 =>
 InR (Int.sub z20 (Int.ofNat 1)) (
 AsSlc (a 0) fun p21 o22 l23 c24 =>
 AsCnt (i64 (Int.sub z20 (Int.ofNat 1))) fun n25 =>
 Must (ltN n25 l23) (
 Ld H17 p21 (Nat.add o22 (Nat.mul n25 1)) fun v26 =>
 AsSlc (a 0) fun p27 o28 l29 c30 =>
 AsCnt (a 10) fun n31 =>
 Must (ltN n31 l29) (
 Ld H17 p27 (Nat.add o28 (Nat.mul n31 1)) fun v32 =>
 AsSlc (a 0) fun p33 o34 l35 c36 =>
 AsCnt (a 10) fun n37 =>
 Must (ltN n37 l35) (
 Sc v26 (St H17 p33 (Nat.add o34 (Nat.mul n37 1)) [v26] fun H38 =>
 AsSlc (a 0) fun p39 o40 l41 c42 =>
 AsCnt (i64 (Int.sub z19 (Int.ofNat 1))) fun n43 =>
 Must (ltN n43 l41) (
 Sc v32 (St H38 p39 (Nat.add o40 (Nat.mul n43 1)) [v32] fun H44 =>
 AsInt .i64 (a 10) fun z45 =>
 InR (Int.add z45 (Int.ofNat 1)) (
 K .normal (upd (upd (upd (upd (upd (upd (upd (upd (upd (upd (upd (upd (upd (upd (upd (upd (upd (upd (upd (upd (upd (upd (upd (upd (upd (upd (upd (upd (upd (upd (upd (upd (upd a 101 (a 10)) 102 (a 2)) 103 (.bool (ltZ z1 z2))) 106 (a 0)) 107 (a 10)) 108 (ptr p3 (Nat.add o4 (Nat.mul n7 1)))) 109 v8) 110 (a 0)) 111 (a 10)) 112 (i64 (Int.sub z9 (Int.ofNat 1)))) 113 (ptr p10 (Nat.add o11 (Nat.mul n14 1)))) 114 v15) 115 v16) 116 (.bool (notB b18))) 117 (a 0)) 118 (a 10)) 119 (a 0)) 120 (a 10)) 121 (i64 (Int.sub z19 (Int.ofNat 1)))) 122 (a 0)) 123 (a 10)) 124 (i64 (Int.sub z20 (Int.ofNat 1)))) 125 (ptr p21 (Nat.add o22 (Nat.mul n25 1)))) 126 v26) 127 (a 0)) 128 (a 10)) 129 (ptr p27 (Nat.add o28 (Nat.mul n31 1)))) 130 v32) 131 (ptr p33 (Nat.add o34 (Nat.mul n37 1)))) 132 (ptr p39 (Nat.add o40 (Nat.mul n43 1)))) 104 (a 10)) 105 (i64 (Int.add z45 (Int.ofNat 1)))) 10 (i64 (Int.add z45 (Int.ofNat 1)))) H44)))))))))))))) (
 K (.exit 6) (upd (upd (upd a 101 (a 10)) 102 (a 2)) 103 (.bool (ltZ z1 z2))) H)) := by kernel_rfl
theorem cmpLess_W (con : CallT) (x y : Nat) (H : CH) (K : KP) : funW Tryz.prog con 124 [u64 x, u64 y] H K =
 (Call1 Tryz.prog con 148 [(u64 (x))] H fun v1 H2 =>
 AsWant v1 (False) fun b3 =>
 Cd b3 (
 Call1 Tryz.prog con 148 [(u64 (y))] H2 fun v4 H5 =>
 AsBool v4 fun b6 =>
 Cd (notB b6) (
 K (.bool true) H5) (
 K (.bool (ltN x y)) H5)) (
 K (.bool (ltN x y)) H2)) := by kernel_rfl
theorem partEq_W (con : CallT) (v : Value) (a b c : Int) (H : CH) (K : KP) : funW Tryz.prog con 125 [v, i64 a, i64 b, i64 c] H K =
 (AsSlc v fun p1 o2 l3 c4 =>
 AsCnt (i64 c) fun n5 =>
 Must (ltN n5 l3) (
 Ld H p1 (Nat.add o2 (Nat.mul n5 1)) fun v6 =>
 AsSlc v fun p7 o8 l9 c10 =>
 AsCnt (i64 a) fun n11 =>
 Must (ltN n11 l9) (
 Ld H p7 (Nat.add o8 (Nat.mul n11 1)) fun v12 =>
 AsSlc v fun p13 o14 l15 c16 =>
 AsCnt (i64 a) fun n17 =>
 Must (ltN n17 l15) (
 Sc v6 (St H p13 (Nat.add o14 (Nat.mul n17 1)) [v6] fun H18 =>
 AsSlc v fun p19 o20 l21 c22 =>
 AsCnt (i64 c) fun n23 =>
 Must (ltN n23 l21) (
 Sc v12 (St H18 p19 (Nat.add o20 (Nat.mul n23 1)) [v12] fun H24 =>
 InR (Int.add a (Int.ofNat 1)) (
 InR (Int.sub b (Int.ofNat 1)) (
 LoopC Tryz.prog con (lpAt Tryz.prog 125 0) (upd (upd (upd (upd (upd (upd (upd (upd (upd (upd (upd (upd (upd (upd (upd (upd (upd (upd (upd (upd (upd (upd (upd (upd (upd (fun _ => undV) 3 (i64 c)) 2 (i64 b)) 1 (i64 a)) 0 v) 8 (iN (0))) 11 v) 12 (i64 a)) 13 v) 14 (i64 c)) 15 v) 16 (i64 c)) 17 (ptr p1 (Nat.add o2 (Nat.mul n5 1)))) 18 v6) 19 v) 20 (i64 a)) 21 (ptr p7 (Nat.add o8 (Nat.mul n11 1)))) 22 v12) 23 (ptr p13 (Nat.add o14 (Nat.mul n17 1)))) 24 (ptr p19 (Nat.add o20 (Nat.mul n23 1)))) 25 (i64 a)) 26 (i64 (Int.add a (Int.ofNat 1)))) 27 (i64 b)) 28 (i64 (Int.sub b (Int.ofNat 1)))) 9 (i64 (Int.add a (Int.ofNat 1)))) 10 (i64 (Int.sub b (Int.ofNat 1)))) H24 (fun e => ceP e
 (fun a25 H26 =>
 K (a25 9) H26)
 (fun i27 => fun a25 H26 =>
 Cd (eqN i27 0) (
 K (a25 9) H26) (
 False))
 (fun a25 H26 =>
 K (a25 8) H26))))))))))) := by kernel_rfl
theorem partEqA_W (con : CallT) (a : TF) (H : CH) (K : KX) : codeW (lpAt Tryz.prog 125 0) Tryz.prog con a H K =
 (LoopC Tryz.prog con (lpAt Tryz.prog 125 1) a H (fun e => ceP e
 (fun a1 H2 =>
 LoopC Tryz.prog con (lpAt Tryz.prog 125 2) a1 H2 (fun e => ceP e
 (fun a4 H5 =>
 AsInt .i64 (a4 9) fun z7 =>
 AsInt .i64 (a4 10) fun z8 =>
 Cd (ltZ z8 z7) (
 K (.exit 0) (upd (upd (upd a4 62 (a4 9)) 63 (a4 10)) 64 (.bool (ltZ z8 z7))) H5) (
 AsSlc (a4 0) fun p9 o10 l11 c12 =>
 AsCnt (a4 10) fun n13 =>
 Must (ltN n13 l11) (
 Ld H5 p9 (Nat.add o10 (Nat.mul n13 1)) fun v14 =>
 AsSlc (a4 0) fun p15 o16 l17 c18 =>
 AsCnt (a4 9) fun n19 =>
 Must (ltN n19 l17) (
 Ld H5 p15 (Nat.add o16 (Nat.mul n19 1)) fun v20 =>
 AsSlc (a4 0) fun p21 o22 l23 c24 =>
 AsCnt (a4 9) fun n25 =>
 Must (ltN n25 l23) (
 Sc v14 (St H5 p21 (Nat.add o22 (Nat.mul n25 1)) [v14] fun H26 =>
 AsSlc (a4 0) fun p27 o28 l29 c30 =>
 AsCnt (a4 10) fun n31 =>
 Must (ltN n31 l29) (
 Sc v20 (St H26 p27 (Nat.add o28 (Nat.mul n31 1)) [v20] fun H32 =>
 AsInt .i64 (a4 9) fun z33 =>
 InR (Int.add z33 (Int.ofNat 1)) (
 AsInt .i64 (a4 10) fun z34 =>
 InR (Int.sub z34 (Int.ofNat 1)) (
 K .normal (upd (upd (upd (upd (upd (upd (upd (upd (upd (upd (upd (upd (upd (upd (upd (upd (upd (upd (upd (upd (upd (upd (upd a4 62 (a4 9)) 63 (a4 10)) 64 (.bool (ltZ z8 z7))) 65 (a4 0)) 66 (a4 9)) 67 (a4 0)) 68 (a4 10)) 69 (a4 0)) 70 (a4 10)) 71 (ptr p9 (Nat.add o10 (Nat.mul n13 1)))) 72 v14) 73 (a4 0)) 74 (a4 9)) 75 (ptr p15 (Nat.add o16 (Nat.mul n19 1)))) 76 v20) 77 (ptr p21 (Nat.add o22 (Nat.mul n25 1)))) 78 (ptr p27 (Nat.add o28 (Nat.mul n31 1)))) 79 (a4 9)) 80 (i64 (Int.add z33 (Int.ofNat 1)))) 9 (i64 (Int.add z33 (Int.ofNat 1)))) 81 (a4 10)) 82 (i64 (Int.sub z34 (Int.ofNat 1)))) 10 (i64 (Int.sub z34 (Int.ofNat 1)))) H32))))))))))
 (fun i6 => fun a4 H5 =>
 Cd (eqN i6 4) (
 AsInt .i64 (a4 9) fun z35 =>
 AsInt .i64 (a4 10) fun z36 =>
 Cd (ltZ z36 z35) (
 K (.exit 0) (upd (upd (upd a4 62 (a4 9)) 63 (a4 10)) 64 (.bool (ltZ z36 z35))) H5) (
 AsSlc (a4 0) fun p37 o38 l39 c40 =>
 AsCnt (a4 10) fun n41 =>
 Must (ltN n41 l39) (
 Ld H5 p37 (Nat.add o38 (Nat.mul n41 1)) fun v42 =>
 AsSlc (a4 0) fun p43 o44 l45 c46 =>
 AsCnt (a4 9) fun n47 =>
 Must (ltN n47 l45) (
 Ld H5 p43 (Nat.add o44 (Nat.mul n47 1)) fun v48 =>
 AsSlc (a4 0) fun p49 o50 l51 c52 =>
 AsCnt (a4 9) fun n53 =>
 Must (ltN n53 l51) (
 Sc v42 (St H5 p49 (Nat.add o50 (Nat.mul n53 1)) [v42] fun H54 =>
 AsSlc (a4 0) fun p55 o56 l57 c58 =>
 AsCnt (a4 10) fun n59 =>
 Must (ltN n59 l57) (
 Sc v48 (St H54 p55 (Nat.add o56 (Nat.mul n59 1)) [v48] fun H60 =>
 AsInt .i64 (a4 9) fun z61 =>
 InR (Int.add z61 (Int.ofNat 1)) (
 AsInt .i64 (a4 10) fun z62 =>
 InR (Int.sub z62 (Int.ofNat 1)) (
 K .normal (upd (upd (upd (upd (upd (upd (upd (upd (upd (upd (upd (upd (upd (upd (upd (upd (upd (upd (upd (upd (upd (upd (upd a4 62 (a4 9)) 63 (a4 10)) 64 (.bool (ltZ z36 z35))) 65 (a4 0)) 66 (a4 9)) 67 (a4 0)) 68 (a4 10)) 69 (a4 0)) 70 (a4 10)) 71 (ptr p37 (Nat.add o38 (Nat.mul n41 1)))) 72 v42) 73 (a4 0)) 74 (a4 9)) 75 (ptr p43 (Nat.add o44 (Nat.mul n47 1)))) 76 v48) 77 (ptr p49 (Nat.add o50 (Nat.mul n53 1)))) 78 (ptr p55 (Nat.add o56 (Nat.mul n59 1)))) 79 (a4 9)) 80 (i64 (Int.add z61 (Int.ofNat 1)))) 9 (i64 (Int.add z61 (Int.ofNat 1)))) 81 (a4 10)) 82 (i64 (Int.sub z62 (Int.ofNat 1)))) 10 (i64 (Int.sub z62 (Int.ofNat 1)))) H60)))))))))) (
 Cd (eqN i6 1) (
 K .normal a4 H5) (
 K (.exit i6) a4 H5)))
 (fun a4 H5 =>
 K .ret a4 H5)))
 (fun i3 => fun a1 H2 =>
 Cd (eqN i3 2) (
 LoopC Tryz.prog con (lpAt Tryz.prog 125 2) a1 H2 (fun e => ceP e
 (fun a63 H64 =>
 AsInt .i64 (a63 9) fun z66 =>
 AsInt .i64 (a63 10) fun z67 =>
 Cd (ltZ z67 z66) (
 K (.exit 0) (upd (upd (upd a63 62 (a63 9)) 63 (a63 10)) 64 (.bool (ltZ z67 z66))) H64) (
 AsSlc (a63 0) fun p68 o69 l70 c71 =>
 AsCnt (a63 10) fun n72 =>
 Must (ltN n72 l70) (
 Ld H64 p68 (Nat.add o69 (Nat.mul n72 1)) fun v73 =>
 AsSlc (a63 0) fun p74 o75 l76 c77 =>
 AsCnt (a63 9) fun n78 =>
 Must (ltN n78 l76) (
 Ld H64 p74 (Nat.add o75 (Nat.mul n78 1)) fun v79 =>
 AsSlc (a63 0) fun p80 o81 l82 c83 =>
 AsCnt (a63 9) fun n84 =>
 Must (ltN n84 l82) (
 Sc v73 (St H64 p80 (Nat.add o81 (Nat.mul n84 1)) [v73] fun H85 =>
 AsSlc (a63 0) fun p86 o87 l88 c89 =>
 AsCnt (a63 10) fun n90 =>
 Must (ltN n90 l88) (
 Sc v79 (St H85 p86 (Nat.add o87 (Nat.mul n90 1)) [v79] fun H91 =>
 AsInt .i64 (a63 9) fun z92 =>
 InR (Int.add z92 (Int.ofNat 1)) (
 AsInt .i64 (a63 10) fun z93 =>
 InR (Int.sub z93 (Int.ofNat 1)) (
 K .normal (upd (upd (upd (upd (upd (upd (upd (upd (upd (upd (upd (upd (upd (upd (upd (upd (upd (upd (upd (upd (upd (upd (upd a63 62 (a63 9)) 63 (a63 10)) 64 (.bool (ltZ z67 z66))) 65 (a63 0)) 66 (a63 9)) 67 (a63 0)) 68 (a63 10)) 69 (a63 0)) 70 (a63 10)) 71 (ptr p68 (Nat.add o69 (Nat.mul n72 1)))) 72 v73) 73 (a63 0)) 74 (a63 9)) 75 (ptr p74 (Nat.add o75 (Nat.mul n78 1)))) 76 v79) 77 (ptr p80 (Nat.add o81 (Nat.mul n84 1)))) 78 (ptr p86 (Nat.add o87 (Nat.mul n90 1)))) 79 (a63 9)) 80 (i64 (Int.add z92 (Int.ofNat 1)))) 9 (i64 (Int.add z92 (Int.ofNat 1)))) 81 (a63 10)) 82 (i64 (Int.sub z93 (Int.ofNat 1)))) 10 (i64 (Int.sub z93 (Int.ofNat 1)))) H91))))))))))
 (fun i65 => fun a63 H64 =>
 Cd (eqN i65 4) (
 AsInt .i64 (a63 9) fun z94 =>
 AsInt .i64 (a63 10) fun z95 =>
 Cd (ltZ z95 z94) (
 K (.exit 0) (upd (upd (upd a63 62 (a63 9)) 63 (a63 10)) 64 (.bool (ltZ z95 z94))) H64) (
 AsSlc (a63 0) fun p96 o97 l98 c99 =>
 AsCnt (a63 10) fun n100 =>
 Must (ltN n100 l98) (
 Ld H64 p96 (Nat.add o97 (Nat.mul n100 1)) fun v101 =>
 AsSlc (a63 0) fun p102 o103 l104 c105 =>
 AsCnt (a63 9) fun n106 =>
 Must (ltN n106 l104) (
 Ld H64 p102 (Nat.add o103 (Nat.mul n106 1)) fun v107 =>
 AsSlc (a63 0) fun p108 o109 l110 c111 =>
 AsCnt (a63 9) fun n112 =>
 Must (ltN n112 l110) (
 Sc v101 (St H64 p108 (Nat.add o109 (Nat.mul n112 1)) [v101] fun H113 =>
 AsSlc (a63 0) fun p114 o115 l116 c117 =>
 AsCnt (a63 10) fun n118 =>
 Must (ltN n118 l116) (
 Sc v107 (St H113 p114 (Nat.add o115 (Nat.mul n118 1)) [v107] fun H119 =>
 AsInt .i64 (a63 9) fun z120 =>
 InR (Int.add z120 (Int.ofNat 1)) (
 AsInt .i64 (a63 10) fun z121 =>
 InR (Int.sub z121 (Int.ofNat 1)) (
 K .normal (upd (upd (upd (upd (upd (upd (upd (upd (upd (upd (upd (upd (upd (upd (upd (upd (upd (upd (upd (upd (upd (upd (upd a63 62 (a63 9)) 63 (a63 10)) 64 (.bool (ltZ z95 z94))) 65 (a63 0)) 66 (a63 9)) 67 (a63 0)) 68 (a63 10)) 69 (a63 0)) 70 (a63 10)) 71 (ptr p96 (Nat.add o97 (Nat.mul n100 1)))) 72 v101) 73 (a63 0)) 74 (a63 9)) 75 (ptr p102 (Nat.add o103 (Nat.mul n106 1)))) 76 v107) 77 (ptr p108 (Nat.add o109 (Nat.mul n112 1)))) 78 (ptr p114 (Nat.add o115 (Nat.mul n118 1)))) 79 (a63 9)) 80 (i64 (Int.add z120 (Int.ofNat 1)))) 9 (i64 (Int.add z120 (Int.ofNat 1)))) 81 (a63 10)) 82 (i64 (Int.sub z121 (Int.ofNat 1)))) 10 (i64 (Int.sub z121 (Int.ofNat 1)))) H119)))))))))) (
 Cd (eqN i65 1) (
 K .normal a63 H64) (
 K (.exit i65) a63 H64)))
 (fun a63 H64 =>
 K .ret a63 H64))) (
 Cd (eqN i3 1) (
 K .normal a1 H2) (
 K (.exit i3) a1 H2)))
 (fun a1 H2 =>
 K .ret a1 H2))) := by kernel_rfl
theorem partEqB_W (con : CallT) (a : TF) (H : CH) (K : KX) : codeW (lpAt Tryz.prog 125 1) Tryz.prog con a H K =
 (AsInt .i64 (a 9) fun z1 =>
 AsInt .i64 (a 10) fun z2 =>
 Bnd (upd (upd (upd (upd a 29 (a 9)) 30 (a 10)) 31 (.bool (leZ z1 z2))) 32 (.bool (leZ z1 z2))) fun s1 =>
Cd (leZ z1 z2) (
 AsSlc (a 0) fun p3 o4 l5 c6 =>
 AsCnt (a 1) fun n7 =>
 Must (ltN n7 l5) (
 Ld H p3 (Nat.add o4 (Nat.mul n7 1)) fun v8 =>
 AsSlc (a 0) fun p9 o10 l11 c12 =>
 AsCnt (a 9) fun n13 =>
 Must (ltN n13 l11) (
 Ld H p9 (Nat.add o10 (Nat.mul n13 1)) fun v14 =>
 Call1 Tryz.prog con 124 [v8, v14] H fun v15 H16 =>
 AsBool v15 fun b17 =>
 Bnd (upd (upd (upd (upd (upd (upd (upd (upd (upd (upd (upd (upd (upd (upd (upd (upd (upd (upd (upd (upd (upd s1 32 (.bool true)) 33 (a 0)) 32 (.bool true)) 34 (a 1)) 32 (.bool true)) 35 (ptr p3 (Nat.add o4 (Nat.mul n7 1)))) 32 (.bool true)) 36 v8) 32 (.bool true)) 37 (a 0)) 32 (.bool true)) 38 (a 9)) 32 (.bool true)) 39 (ptr p9 (Nat.add o10 (Nat.mul n13 1)))) 32 (.bool true)) 40 v14) 32 (.bool true)) 41 v15) 32 (.bool true)) 42 (.bool (notB b17))) 43 (.bool (notB b17))) fun s2 =>
Cd (notB b17) (
 AsInt .i64 (a 9) fun z18 =>
 InR (Int.add z18 (Int.ofNat 1)) (
 K .normal (upd (upd (upd s2 44 (a 9)) 45 (i64 (Int.add z18 (Int.ofNat 1)))) 9 (i64 (Int.add z18 (Int.ofNat 1)))) H16)) (
 K (.exit 2) s2 H16)))) (
 K (.exit 2) (upd (Rz false 32 s1 33 10) 43 (.bool false)) H)) := by kernel_rfl
theorem partEqC_W (con : CallT) (a : TF) (H : CH) (K : KX) : codeW (lpAt Tryz.prog 125 2) Tryz.prog con a H K =
 (AsInt .i64 (a 9) fun z1 =>
 AsInt .i64 (a 10) fun z2 =>
 Cd (leZ z1 z2) (
 AsSlc (a 0) fun p3 o4 l5 c6 =>
 AsCnt (a 1) fun n7 =>
 Must (ltN n7 l5) (
 Ld H p3 (Nat.add o4 (Nat.mul n7 1)) fun v8 =>
 AsSlc (a 0) fun p9 o10 l11 c12 =>
 AsCnt (a 10) fun n13 =>
 Must (ltN n13 l11) (
 Ld H p9 (Nat.add o10 (Nat.mul n13 1)) fun v14 =>
 Call1 Tryz.prog con 124 [v8, v14] H fun v15 H16 =>
 AsBool v15 fun b17 =>
 Cd b17 (
 AsInt .i64 (a 10) fun z18 =>
 InR (Int.sub z18 (Int.ofNat 1)) (
 K .normal (upd (upd (upd (upd (upd (upd (upd (upd (upd (upd (upd (upd (upd (upd (upd (upd (upd (upd (upd (upd (upd (upd (upd (upd (upd (upd a 46 (a 9)) 47 (a 10)) 48 (.bool (leZ z1 z2))) 49 (.bool (leZ z1 z2))) 49 (.bool true)) 50 (a 0)) 49 (.bool true)) 51 (a 1)) 49 (.bool true)) 52 (ptr p3 (Nat.add o4 (Nat.mul n7 1)))) 49 (.bool true)) 53 v8) 49 (.bool true)) 54 (a 0)) 49 (.bool true)) 55 (a 10)) 49 (.bool true)) 56 (ptr p9 (Nat.add o10 (Nat.mul n13 1)))) 49 (.bool true)) 57 v14) 49 (.bool true)) 58 v15) 59 v15) 60 (a 10)) 61 (i64 (Int.sub z18 (Int.ofNat 1)))) 10 (i64 (Int.sub z18 (Int.ofNat 1)))) H16)) (
 K (.exit 4) (upd (upd (upd (upd (upd (upd (upd (upd (upd (upd (upd (upd (upd (upd (upd (upd (upd (upd (upd (upd (upd (upd (upd a 46 (a 9)) 47 (a 10)) 48 (.bool (leZ z1 z2))) 49 (.bool (leZ z1 z2))) 49 (.bool true)) 50 (a 0)) 49 (.bool true)) 51 (a 1)) 49 (.bool true)) 52 (ptr p3 (Nat.add o4 (Nat.mul n7 1)))) 49 (.bool true)) 53 v8) 49 (.bool true)) 54 (a 0)) 49 (.bool true)) 55 (a 10)) 49 (.bool true)) 56 (ptr p9 (Nat.add o10 (Nat.mul n13 1)))) 49 (.bool true)) 57 v14) 49 (.bool true)) 58 v15) 59 v15) H16)))) (
 K (.exit 4) (upd (upd (upd (upd (upd (upd (upd (upd (upd (upd (upd (upd (upd (upd (upd (upd (upd (upd (upd (upd (upd (upd (upd a 46 (a 9)) 47 (a 10)) 48 (.bool (leZ z1 z2))) 49 (.bool (leZ z1 z2))) 49 (.bool false)) 50 unit) 49 (.bool false)) 51 unit) 49 (.bool false)) 52 unit) 49 (.bool false)) 53 unit) 49 (.bool false)) 54 unit) 49 (.bool false)) 55 unit) 49 (.bool false)) 56 unit) 49 (.bool false)) 57 unit) 49 (.bool false)) 58 unit) 59 (.bool false)) H)) := by kernel_rfl
theorem partOrd_W (con : CallT) (v : Value) (a b c : Int) (H : CH) (K : KP) : funW Tryz.prog con 126 [v, i64 a, i64 b, i64 c] H K =
 (AsSlc v fun p1 o2 l3 c4 =>
 AsCnt (i64 c) fun n5 =>
 Must (ltN n5 l3) (
 Ld H p1 (Nat.add o2 (Nat.mul n5 1)) fun v6 =>
 AsSlc v fun p7 o8 l9 c10 =>
 AsCnt (i64 a) fun n11 =>
 Must (ltN n11 l9) (
 Ld H p7 (Nat.add o8 (Nat.mul n11 1)) fun v12 =>
 AsSlc v fun p13 o14 l15 c16 =>
 AsCnt (i64 a) fun n17 =>
 Must (ltN n17 l15) (
 Sc v6 (St H p13 (Nat.add o14 (Nat.mul n17 1)) [v6] fun H18 =>
 AsSlc v fun p19 o20 l21 c22 =>
 AsCnt (i64 c) fun n23 =>
 Must (ltN n23 l21) (
 Sc v12 (St H18 p19 (Nat.add o20 (Nat.mul n23 1)) [v12] fun H24 =>
 InR (Int.add a (Int.ofNat 1)) (
 InR (Int.sub b (Int.ofNat 1)) (
 LoopC Tryz.prog con (lpAt Tryz.prog 126 0) (upd (upd (upd (upd (upd (upd (upd (upd (upd (upd (upd (upd (upd (upd (upd (upd (upd (upd (upd (upd (upd (upd (upd (upd (upd (upd (fun _ => undV) 3 (i64 c)) 2 (i64 b)) 1 (i64 a)) 0 v) 8 (iN (0))) 9 (.bool false)) 12 v) 13 (i64 a)) 14 v) 15 (i64 c)) 16 v) 17 (i64 c)) 18 (ptr p1 (Nat.add o2 (Nat.mul n5 1)))) 19 v6) 20 v) 21 (i64 a)) 22 (ptr p7 (Nat.add o8 (Nat.mul n11 1)))) 23 v12) 24 (ptr p13 (Nat.add o14 (Nat.mul n17 1)))) 25 (ptr p19 (Nat.add o20 (Nat.mul n23 1)))) 26 (i64 a)) 27 (i64 (Int.add a (Int.ofNat 1)))) 28 (i64 b)) 29 (i64 (Int.sub b (Int.ofNat 1)))) 10 (i64 (Int.add a (Int.ofNat 1)))) 11 (i64 (Int.sub b (Int.ofNat 1)))) H24 (fun e => ceP e
 (fun a25 H26 =>
 LoopC Tryz.prog con (lpAt Tryz.prog 126 1) a25 H26 (fun e => ceP e
 (fun a28 H29 =>
 AsInt .i64 (a28 10) fun z31 =>
 AsInt .i64 (a28 11) fun z32 =>
 Cd (ltZ z32 z31) (
 AsSlc (a28 0) fun p33 o34 l35 c36 =>
 AsCnt (a28 1) fun n37 =>
 Must (ltN n37 l35) (
 Ld H29 p33 (Nat.add o34 (Nat.mul n37 1)) fun v38 =>
 AsSlc (a28 0) fun p39 o40 l41 c42 =>
 AsCnt (a28 11) fun n43 =>
 Must (ltN n43 l41) (
 Ld H29 p39 (Nat.add o40 (Nat.mul n43 1)) fun v44 =>
 AsSlc (a28 0) fun p45 o46 l47 c48 =>
 AsCnt (a28 11) fun n49 =>
 Must (ltN n49 l47) (
 Sc v38 (St H29 p45 (Nat.add o46 (Nat.mul n49 1)) [v38] fun H50 =>
 AsSlc (a28 0) fun p51 o52 l53 c54 =>
 AsCnt (a28 1) fun n55 =>
 Must (ltN n55 l53) (
 Sc v44 (St H50 p51 (Nat.add o52 (Nat.mul n55 1)) [v44] fun H56 =>
 K (.tuple ⟨[(a28 11), (.bool true)]⟩) H56))))))) (
 AsSlc (a28 0) fun p57 o58 l59 c60 =>
 AsCnt (a28 11) fun n61 =>
 Must (ltN n61 l59) (
 Ld H29 p57 (Nat.add o58 (Nat.mul n61 1)) fun v62 =>
 AsSlc (a28 0) fun p63 o64 l65 c66 =>
 AsCnt (a28 10) fun n67 =>
 Must (ltN n67 l65) (
 Ld H29 p63 (Nat.add o64 (Nat.mul n67 1)) fun v68 =>
 AsSlc (a28 0) fun p69 o70 l71 c72 =>
 AsCnt (a28 10) fun n73 =>
 Must (ltN n73 l71) (
 Sc v62 (St H29 p69 (Nat.add o70 (Nat.mul n73 1)) [v62] fun H74 =>
 AsSlc (a28 0) fun p75 o76 l77 c78 =>
 AsCnt (a28 11) fun n79 =>
 Must (ltN n79 l77) (
 Sc v68 (St H74 p75 (Nat.add o76 (Nat.mul n79 1)) [v68] fun H80 =>
 AsInt .i64 (a28 10) fun z81 =>
 InR (Int.add z81 (Int.ofNat 1)) (
 AsInt .i64 (a28 11) fun z82 =>
 InR (Int.sub z82 (Int.ofNat 1)) (
 LoopC Tryz.prog con (lpAt Tryz.prog 126 2) (upd (upd (upd (upd (upd (upd (upd (upd (upd (upd (upd (upd (upd (upd (upd (upd (upd (upd (upd (upd (upd (upd (upd a28 63 (a28 10)) 64 (a28 11)) 65 (.bool (ltZ z32 z31))) 81 (a28 0)) 82 (a28 10)) 83 (a28 0)) 84 (a28 11)) 85 (a28 0)) 86 (a28 11)) 87 (ptr p57 (Nat.add o58 (Nat.mul n61 1)))) 88 v62) 89 (a28 0)) 90 (a28 10)) 91 (ptr p63 (Nat.add o64 (Nat.mul n67 1)))) 92 v68) 93 (ptr p69 (Nat.add o70 (Nat.mul n73 1)))) 94 (ptr p75 (Nat.add o76 (Nat.mul n79 1)))) 95 (a28 10)) 96 (i64 (Int.add z81 (Int.ofNat 1)))) 10 (i64 (Int.add z81 (Int.ofNat 1)))) 97 (a28 11)) 98 (i64 (Int.sub z82 (Int.ofNat 1)))) 11 (i64 (Int.sub z82 (Int.ofNat 1)))) H80 (fun e => ceP e
 (fun a83 H84 =>
 AsSlc (a83 0) fun p86 o87 l88 c89 =>
 AsCnt (a83 1) fun n90 =>
 Must (ltN n90 l88) (
 Ld H84 p86 (Nat.add o87 (Nat.mul n90 1)) fun v91 =>
 AsSlc (a83 0) fun p92 o93 l94 c95 =>
 AsCnt (a83 11) fun n96 =>
 Must (ltN n96 l94) (
 Ld H84 p92 (Nat.add o93 (Nat.mul n96 1)) fun v97 =>
 AsSlc (a83 0) fun p98 o99 l100 c101 =>
 AsCnt (a83 11) fun n102 =>
 Must (ltN n102 l100) (
 Sc v91 (St H84 p98 (Nat.add o99 (Nat.mul n102 1)) [v91] fun H103 =>
 AsSlc (a83 0) fun p104 o105 l106 c107 =>
 AsCnt (a83 1) fun n108 =>
 Must (ltN n108 l106) (
 Sc v97 (St H103 p104 (Nat.add o105 (Nat.mul n108 1)) [v97] fun H109 =>
 K (.tuple ⟨[(a83 11), (.bool false)]⟩) H109)))))))
 (fun i85 => fun a83 H84 =>
 Cd (eqN i85 4) (
 AsSlc (a83 0) fun p110 o111 l112 c113 =>
 AsCnt (a83 1) fun n114 =>
 Must (ltN n114 l112) (
 Ld H84 p110 (Nat.add o111 (Nat.mul n114 1)) fun v115 =>
 AsSlc (a83 0) fun p116 o117 l118 c119 =>
 AsCnt (a83 11) fun n120 =>
 Must (ltN n120 l118) (
 Ld H84 p116 (Nat.add o117 (Nat.mul n120 1)) fun v121 =>
 AsSlc (a83 0) fun p122 o123 l124 c125 =>
 AsCnt (a83 11) fun n126 =>
 Must (ltN n126 l124) (
 Sc v115 (St H84 p122 (Nat.add o123 (Nat.mul n126 1)) [v115] fun H127 =>
 AsSlc (a83 0) fun p128 o129 l130 c131 =>
 AsCnt (a83 1) fun n132 =>
 Must (ltN n132 l130) (
 Sc v121 (St H127 p128 (Nat.add o129 (Nat.mul n132 1)) [v121] fun H133 =>
 K (.tuple ⟨[(a83 11), (.bool false)]⟩) H133))))))) (
 False))
 (fun a83 H84 =>
 K (.tuple ⟨[(a83 8), (a83 9)]⟩) H84))))))))))))
 (fun i30 => fun a28 H29 =>
 Cd (eqN i30 2) (
 AsInt .i64 (a28 10) fun z134 =>
 AsInt .i64 (a28 11) fun z135 =>
 Cd (ltZ z135 z134) (
 AsSlc (a28 0) fun p136 o137 l138 c139 =>
 AsCnt (a28 1) fun n140 =>
 Must (ltN n140 l138) (
 Ld H29 p136 (Nat.add o137 (Nat.mul n140 1)) fun v141 =>
 AsSlc (a28 0) fun p142 o143 l144 c145 =>
 AsCnt (a28 11) fun n146 =>
 Must (ltN n146 l144) (
 Ld H29 p142 (Nat.add o143 (Nat.mul n146 1)) fun v147 =>
 AsSlc (a28 0) fun p148 o149 l150 c151 =>
 AsCnt (a28 11) fun n152 =>
 Must (ltN n152 l150) (
 Sc v141 (St H29 p148 (Nat.add o149 (Nat.mul n152 1)) [v141] fun H153 =>
 AsSlc (a28 0) fun p154 o155 l156 c157 =>
 AsCnt (a28 1) fun n158 =>
 Must (ltN n158 l156) (
 Sc v147 (St H153 p154 (Nat.add o155 (Nat.mul n158 1)) [v147] fun H159 =>
 K (.tuple ⟨[(a28 11), (.bool true)]⟩) H159))))))) (
 AsSlc (a28 0) fun p160 o161 l162 c163 =>
 AsCnt (a28 11) fun n164 =>
 Must (ltN n164 l162) (
 Ld H29 p160 (Nat.add o161 (Nat.mul n164 1)) fun v165 =>
 AsSlc (a28 0) fun p166 o167 l168 c169 =>
 AsCnt (a28 10) fun n170 =>
 Must (ltN n170 l168) (
 Ld H29 p166 (Nat.add o167 (Nat.mul n170 1)) fun v171 =>
 AsSlc (a28 0) fun p172 o173 l174 c175 =>
 AsCnt (a28 10) fun n176 =>
 Must (ltN n176 l174) (
 Sc v165 (St H29 p172 (Nat.add o173 (Nat.mul n176 1)) [v165] fun H177 =>
 AsSlc (a28 0) fun p178 o179 l180 c181 =>
 AsCnt (a28 11) fun n182 =>
 Must (ltN n182 l180) (
 Sc v171 (St H177 p178 (Nat.add o179 (Nat.mul n182 1)) [v171] fun H183 =>
 AsInt .i64 (a28 10) fun z184 =>
 InR (Int.add z184 (Int.ofNat 1)) (
 AsInt .i64 (a28 11) fun z185 =>
 InR (Int.sub z185 (Int.ofNat 1)) (
 LoopC Tryz.prog con (lpAt Tryz.prog 126 2) (upd (upd (upd (upd (upd (upd (upd (upd (upd (upd (upd (upd (upd (upd (upd (upd (upd (upd (upd (upd (upd (upd (upd a28 63 (a28 10)) 64 (a28 11)) 65 (.bool (ltZ z135 z134))) 81 (a28 0)) 82 (a28 10)) 83 (a28 0)) 84 (a28 11)) 85 (a28 0)) 86 (a28 11)) 87 (ptr p160 (Nat.add o161 (Nat.mul n164 1)))) 88 v165) 89 (a28 0)) 90 (a28 10)) 91 (ptr p166 (Nat.add o167 (Nat.mul n170 1)))) 92 v171) 93 (ptr p172 (Nat.add o173 (Nat.mul n176 1)))) 94 (ptr p178 (Nat.add o179 (Nat.mul n182 1)))) 95 (a28 10)) 96 (i64 (Int.add z184 (Int.ofNat 1)))) 10 (i64 (Int.add z184 (Int.ofNat 1)))) 97 (a28 11)) 98 (i64 (Int.sub z185 (Int.ofNat 1)))) 11 (i64 (Int.sub z185 (Int.ofNat 1)))) H183 (fun e => ceP e
 (fun a186 H187 =>
 AsSlc (a186 0) fun p189 o190 l191 c192 =>
 AsCnt (a186 1) fun n193 =>
 Must (ltN n193 l191) (
 Ld H187 p189 (Nat.add o190 (Nat.mul n193 1)) fun v194 =>
 AsSlc (a186 0) fun p195 o196 l197 c198 =>
 AsCnt (a186 11) fun n199 =>
 Must (ltN n199 l197) (
 Ld H187 p195 (Nat.add o196 (Nat.mul n199 1)) fun v200 =>
 AsSlc (a186 0) fun p201 o202 l203 c204 =>
 AsCnt (a186 11) fun n205 =>
 Must (ltN n205 l203) (
 Sc v194 (St H187 p201 (Nat.add o202 (Nat.mul n205 1)) [v194] fun H206 =>
 AsSlc (a186 0) fun p207 o208 l209 c210 =>
 AsCnt (a186 1) fun n211 =>
 Must (ltN n211 l209) (
 Sc v200 (St H206 p207 (Nat.add o208 (Nat.mul n211 1)) [v200] fun H212 =>
 K (.tuple ⟨[(a186 11), (.bool false)]⟩) H212)))))))
 (fun i188 => fun a186 H187 =>
 Cd (eqN i188 4) (
 AsSlc (a186 0) fun p213 o214 l215 c216 =>
 AsCnt (a186 1) fun n217 =>
 Must (ltN n217 l215) (
 Ld H187 p213 (Nat.add o214 (Nat.mul n217 1)) fun v218 =>
 AsSlc (a186 0) fun p219 o220 l221 c222 =>
 AsCnt (a186 11) fun n223 =>
 Must (ltN n223 l221) (
 Ld H187 p219 (Nat.add o220 (Nat.mul n223 1)) fun v224 =>
 AsSlc (a186 0) fun p225 o226 l227 c228 =>
 AsCnt (a186 11) fun n229 =>
 Must (ltN n229 l227) (
 Sc v218 (St H187 p225 (Nat.add o226 (Nat.mul n229 1)) [v218] fun H230 =>
 AsSlc (a186 0) fun p231 o232 l233 c234 =>
 AsCnt (a186 1) fun n235 =>
 Must (ltN n235 l233) (
 Sc v224 (St H230 p231 (Nat.add o232 (Nat.mul n235 1)) [v224] fun H236 =>
 K (.tuple ⟨[(a186 11), (.bool false)]⟩) H236))))))) (
 False))
 (fun a186 H187 =>
 K (.tuple ⟨[(a186 8), (a186 9)]⟩) H187)))))))))))) (
 False))
 (fun a28 H29 =>
 K (.tuple ⟨[(a28 8), (a28 9)]⟩) H29)))
 (fun i27 => fun a25 H26 =>
 Cd (eqN i27 0) (
 LoopC Tryz.prog con (lpAt Tryz.prog 126 1) a25 H26 (fun e => ceP e
 (fun a237 H238 =>
 AsInt .i64 (a237 10) fun z240 =>
 AsInt .i64 (a237 11) fun z241 =>
 Cd (ltZ z241 z240) (
 AsSlc (a237 0) fun p242 o243 l244 c245 =>
 AsCnt (a237 1) fun n246 =>
 Must (ltN n246 l244) (
 Ld H238 p242 (Nat.add o243 (Nat.mul n246 1)) fun v247 =>
 AsSlc (a237 0) fun p248 o249 l250 c251 =>
 AsCnt (a237 11) fun n252 =>
 Must (ltN n252 l250) (
 Ld H238 p248 (Nat.add o249 (Nat.mul n252 1)) fun v253 =>
 AsSlc (a237 0) fun p254 o255 l256 c257 =>
 AsCnt (a237 11) fun n258 =>
 Must (ltN n258 l256) (
 Sc v247 (St H238 p254 (Nat.add o255 (Nat.mul n258 1)) [v247] fun H259 =>
 AsSlc (a237 0) fun p260 o261 l262 c263 =>
 AsCnt (a237 1) fun n264 =>
 Must (ltN n264 l262) (
 Sc v253 (St H259 p260 (Nat.add o261 (Nat.mul n264 1)) [v253] fun H265 =>
 K (.tuple ⟨[(a237 11), (.bool true)]⟩) H265))))))) (
 AsSlc (a237 0) fun p266 o267 l268 c269 =>
 AsCnt (a237 11) fun n270 =>
 Must (ltN n270 l268) (
 Ld H238 p266 (Nat.add o267 (Nat.mul n270 1)) fun v271 =>
 AsSlc (a237 0) fun p272 o273 l274 c275 =>
 AsCnt (a237 10) fun n276 =>
 Must (ltN n276 l274) (
 Ld H238 p272 (Nat.add o273 (Nat.mul n276 1)) fun v277 =>
 AsSlc (a237 0) fun p278 o279 l280 c281 =>
 AsCnt (a237 10) fun n282 =>
 Must (ltN n282 l280) (
 Sc v271 (St H238 p278 (Nat.add o279 (Nat.mul n282 1)) [v271] fun H283 =>
 AsSlc (a237 0) fun p284 o285 l286 c287 =>
 AsCnt (a237 11) fun n288 =>
 Must (ltN n288 l286) (
 Sc v277 (St H283 p284 (Nat.add o285 (Nat.mul n288 1)) [v277] fun H289 =>
 AsInt .i64 (a237 10) fun z290 =>
 InR (Int.add z290 (Int.ofNat 1)) (
 AsInt .i64 (a237 11) fun z291 =>
 InR (Int.sub z291 (Int.ofNat 1)) (
 LoopC Tryz.prog con (lpAt Tryz.prog 126 2) (upd (upd (upd (upd (upd (upd (upd (upd (upd (upd (upd (upd (upd (upd (upd (upd (upd (upd (upd (upd (upd (upd (upd a237 63 (a237 10)) 64 (a237 11)) 65 (.bool (ltZ z241 z240))) 81 (a237 0)) 82 (a237 10)) 83 (a237 0)) 84 (a237 11)) 85 (a237 0)) 86 (a237 11)) 87 (ptr p266 (Nat.add o267 (Nat.mul n270 1)))) 88 v271) 89 (a237 0)) 90 (a237 10)) 91 (ptr p272 (Nat.add o273 (Nat.mul n276 1)))) 92 v277) 93 (ptr p278 (Nat.add o279 (Nat.mul n282 1)))) 94 (ptr p284 (Nat.add o285 (Nat.mul n288 1)))) 95 (a237 10)) 96 (i64 (Int.add z290 (Int.ofNat 1)))) 10 (i64 (Int.add z290 (Int.ofNat 1)))) 97 (a237 11)) 98 (i64 (Int.sub z291 (Int.ofNat 1)))) 11 (i64 (Int.sub z291 (Int.ofNat 1)))) H289 (fun e => ceP e
 (fun a292 H293 =>
 AsSlc (a292 0) fun p295 o296 l297 c298 =>
 AsCnt (a292 1) fun n299 =>
 Must (ltN n299 l297) (
 Ld H293 p295 (Nat.add o296 (Nat.mul n299 1)) fun v300 =>
 AsSlc (a292 0) fun p301 o302 l303 c304 =>
 AsCnt (a292 11) fun n305 =>
 Must (ltN n305 l303) (
 Ld H293 p301 (Nat.add o302 (Nat.mul n305 1)) fun v306 =>
 AsSlc (a292 0) fun p307 o308 l309 c310 =>
 AsCnt (a292 11) fun n311 =>
 Must (ltN n311 l309) (
 Sc v300 (St H293 p307 (Nat.add o308 (Nat.mul n311 1)) [v300] fun H312 =>
 AsSlc (a292 0) fun p313 o314 l315 c316 =>
 AsCnt (a292 1) fun n317 =>
 Must (ltN n317 l315) (
 Sc v306 (St H312 p313 (Nat.add o314 (Nat.mul n317 1)) [v306] fun H318 =>
 K (.tuple ⟨[(a292 11), (.bool false)]⟩) H318)))))))
 (fun i294 => fun a292 H293 =>
 Cd (eqN i294 4) (
 AsSlc (a292 0) fun p319 o320 l321 c322 =>
 AsCnt (a292 1) fun n323 =>
 Must (ltN n323 l321) (
 Ld H293 p319 (Nat.add o320 (Nat.mul n323 1)) fun v324 =>
 AsSlc (a292 0) fun p325 o326 l327 c328 =>
 AsCnt (a292 11) fun n329 =>
 Must (ltN n329 l327) (
 Ld H293 p325 (Nat.add o326 (Nat.mul n329 1)) fun v330 =>
 AsSlc (a292 0) fun p331 o332 l333 c334 =>
 AsCnt (a292 11) fun n335 =>
 Must (ltN n335 l333) (
 Sc v324 (St H293 p331 (Nat.add o332 (Nat.mul n335 1)) [v324] fun H336 =>
 AsSlc (a292 0) fun p337 o338 l339 c340 =>
 AsCnt (a292 1) fun n341 =>
 Must (ltN n341 l339) (
 Sc v330 (St H336 p337 (Nat.add o338 (Nat.mul n341 1)) [v330] fun H342 =>
 K (.tuple ⟨[(a292 11), (.bool false)]⟩) H342))))))) (
 False))
 (fun a292 H293 =>
 K (.tuple ⟨[(a292 8), (a292 9)]⟩) H293))))))))))))
 (fun i239 => fun a237 H238 =>
 Cd (eqN i239 2) (
 AsInt .i64 (a237 10) fun z343 =>
 AsInt .i64 (a237 11) fun z344 =>
 Cd (ltZ z344 z343) (
 AsSlc (a237 0) fun p345 o346 l347 c348 =>
 AsCnt (a237 1) fun n349 =>
 Must (ltN n349 l347) (
 Ld H238 p345 (Nat.add o346 (Nat.mul n349 1)) fun v350 =>
 AsSlc (a237 0) fun p351 o352 l353 c354 =>
 AsCnt (a237 11) fun n355 =>
 Must (ltN n355 l353) (
 Ld H238 p351 (Nat.add o352 (Nat.mul n355 1)) fun v356 =>
 AsSlc (a237 0) fun p357 o358 l359 c360 =>
 AsCnt (a237 11) fun n361 =>
 Must (ltN n361 l359) (
 Sc v350 (St H238 p357 (Nat.add o358 (Nat.mul n361 1)) [v350] fun H362 =>
 AsSlc (a237 0) fun p363 o364 l365 c366 =>
 AsCnt (a237 1) fun n367 =>
 Must (ltN n367 l365) (
 Sc v356 (St H362 p363 (Nat.add o364 (Nat.mul n367 1)) [v356] fun H368 =>
 K (.tuple ⟨[(a237 11), (.bool true)]⟩) H368))))))) (
 AsSlc (a237 0) fun p369 o370 l371 c372 =>
 AsCnt (a237 11) fun n373 =>
 Must (ltN n373 l371) (
 Ld H238 p369 (Nat.add o370 (Nat.mul n373 1)) fun v374 =>
 AsSlc (a237 0) fun p375 o376 l377 c378 =>
 AsCnt (a237 10) fun n379 =>
 Must (ltN n379 l377) (
 Ld H238 p375 (Nat.add o376 (Nat.mul n379 1)) fun v380 =>
 AsSlc (a237 0) fun p381 o382 l383 c384 =>
 AsCnt (a237 10) fun n385 =>
 Must (ltN n385 l383) (
 Sc v374 (St H238 p381 (Nat.add o382 (Nat.mul n385 1)) [v374] fun H386 =>
 AsSlc (a237 0) fun p387 o388 l389 c390 =>
 AsCnt (a237 11) fun n391 =>
 Must (ltN n391 l389) (
 Sc v380 (St H386 p387 (Nat.add o388 (Nat.mul n391 1)) [v380] fun H392 =>
 AsInt .i64 (a237 10) fun z393 =>
 InR (Int.add z393 (Int.ofNat 1)) (
 AsInt .i64 (a237 11) fun z394 =>
 InR (Int.sub z394 (Int.ofNat 1)) (
 LoopC Tryz.prog con (lpAt Tryz.prog 126 2) (upd (upd (upd (upd (upd (upd (upd (upd (upd (upd (upd (upd (upd (upd (upd (upd (upd (upd (upd (upd (upd (upd (upd a237 63 (a237 10)) 64 (a237 11)) 65 (.bool (ltZ z344 z343))) 81 (a237 0)) 82 (a237 10)) 83 (a237 0)) 84 (a237 11)) 85 (a237 0)) 86 (a237 11)) 87 (ptr p369 (Nat.add o370 (Nat.mul n373 1)))) 88 v374) 89 (a237 0)) 90 (a237 10)) 91 (ptr p375 (Nat.add o376 (Nat.mul n379 1)))) 92 v380) 93 (ptr p381 (Nat.add o382 (Nat.mul n385 1)))) 94 (ptr p387 (Nat.add o388 (Nat.mul n391 1)))) 95 (a237 10)) 96 (i64 (Int.add z393 (Int.ofNat 1)))) 10 (i64 (Int.add z393 (Int.ofNat 1)))) 97 (a237 11)) 98 (i64 (Int.sub z394 (Int.ofNat 1)))) 11 (i64 (Int.sub z394 (Int.ofNat 1)))) H392 (fun e => ceP e
 (fun a395 H396 =>
 AsSlc (a395 0) fun p398 o399 l400 c401 =>
 AsCnt (a395 1) fun n402 =>
 Must (ltN n402 l400) (
 Ld H396 p398 (Nat.add o399 (Nat.mul n402 1)) fun v403 =>
 AsSlc (a395 0) fun p404 o405 l406 c407 =>
 AsCnt (a395 11) fun n408 =>
 Must (ltN n408 l406) (
 Ld H396 p404 (Nat.add o405 (Nat.mul n408 1)) fun v409 =>
 AsSlc (a395 0) fun p410 o411 l412 c413 =>
 AsCnt (a395 11) fun n414 =>
 Must (ltN n414 l412) (
 Sc v403 (St H396 p410 (Nat.add o411 (Nat.mul n414 1)) [v403] fun H415 =>
 AsSlc (a395 0) fun p416 o417 l418 c419 =>
 AsCnt (a395 1) fun n420 =>
 Must (ltN n420 l418) (
 Sc v409 (St H415 p416 (Nat.add o417 (Nat.mul n420 1)) [v409] fun H421 =>
 K (.tuple ⟨[(a395 11), (.bool false)]⟩) H421)))))))
 (fun i397 => fun a395 H396 =>
 Cd (eqN i397 4) (
 AsSlc (a395 0) fun p422 o423 l424 c425 =>
 AsCnt (a395 1) fun n426 =>
 Must (ltN n426 l424) (
 Ld H396 p422 (Nat.add o423 (Nat.mul n426 1)) fun v427 =>
 AsSlc (a395 0) fun p428 o429 l430 c431 =>
 AsCnt (a395 11) fun n432 =>
 Must (ltN n432 l430) (
 Ld H396 p428 (Nat.add o429 (Nat.mul n432 1)) fun v433 =>
 AsSlc (a395 0) fun p434 o435 l436 c437 =>
 AsCnt (a395 11) fun n438 =>
 Must (ltN n438 l436) (
 Sc v427 (St H396 p434 (Nat.add o435 (Nat.mul n438 1)) [v427] fun H439 =>
 AsSlc (a395 0) fun p440 o441 l442 c443 =>
 AsCnt (a395 1) fun n444 =>
 Must (ltN n444 l442) (
 Sc v433 (St H439 p440 (Nat.add o441 (Nat.mul n444 1)) [v433] fun H445 =>
 K (.tuple ⟨[(a395 11), (.bool false)]⟩) H445))))))) (
 False))
 (fun a395 H396 =>
 K (.tuple ⟨[(a395 8), (a395 9)]⟩) H396)))))))))))) (
 False))
 (fun a237 H238 =>
 K (.tuple ⟨[(a237 8), (a237 9)]⟩) H238))) (
 False))
 (fun a25 H26 =>
 K (.tuple ⟨[(a25 8), (a25 9)]⟩) H26))))))))))) := by kernel_rfl
theorem partOrdA_W (con : CallT) (a : TF) (H : CH) (K : KX) : codeW (lpAt Tryz.prog 126 0) Tryz.prog con a H K =
 (AsInt .i64 (a 10) fun z1 =>
 AsInt .i64 (a 11) fun z2 =>
 Cd (leZ z1 z2) (
 AsSlc (a 0) fun p3 o4 l5 c6 =>
 AsCnt (a 10) fun n7 =>
 Must (ltN n7 l5) (
 Ld H p3 (Nat.add o4 (Nat.mul n7 1)) fun v8 =>
 AsSlc (a 0) fun p9 o10 l11 c12 =>
 AsCnt (a 1) fun n13 =>
 Must (ltN n13 l11) (
 Ld H p9 (Nat.add o10 (Nat.mul n13 1)) fun v14 =>
 Call1 Tryz.prog con 124 [v8, v14] H fun v15 H16 =>
 AsBool v15 fun b17 =>
 Cd b17 (
 AsInt .i64 (a 10) fun z18 =>
 InR (Int.add z18 (Int.ofNat 1)) (
 K .normal (upd (upd (upd (upd (upd (upd (upd (upd (upd (upd (upd (upd (upd (upd (upd (upd (upd (upd (upd (upd (upd (upd (upd (upd (upd (upd a 30 (a 10)) 31 (a 11)) 32 (.bool (leZ z1 z2))) 33 (.bool (leZ z1 z2))) 33 (.bool true)) 34 (a 0)) 33 (.bool true)) 35 (a 10)) 33 (.bool true)) 36 (ptr p3 (Nat.add o4 (Nat.mul n7 1)))) 33 (.bool true)) 37 v8) 33 (.bool true)) 38 (a 0)) 33 (.bool true)) 39 (a 1)) 33 (.bool true)) 40 (ptr p9 (Nat.add o10 (Nat.mul n13 1)))) 33 (.bool true)) 41 v14) 33 (.bool true)) 42 v15) 43 v15) 44 (a 10)) 45 (i64 (Int.add z18 (Int.ofNat 1)))) 10 (i64 (Int.add z18 (Int.ofNat 1)))) H16)) (
 K (.exit 0) (upd (upd (upd (upd (upd (upd (upd (upd (upd (upd (upd (upd (upd (upd (upd (upd (upd (upd (upd (upd (upd (upd (upd a 30 (a 10)) 31 (a 11)) 32 (.bool (leZ z1 z2))) 33 (.bool (leZ z1 z2))) 33 (.bool true)) 34 (a 0)) 33 (.bool true)) 35 (a 10)) 33 (.bool true)) 36 (ptr p3 (Nat.add o4 (Nat.mul n7 1)))) 33 (.bool true)) 37 v8) 33 (.bool true)) 38 (a 0)) 33 (.bool true)) 39 (a 1)) 33 (.bool true)) 40 (ptr p9 (Nat.add o10 (Nat.mul n13 1)))) 33 (.bool true)) 41 v14) 33 (.bool true)) 42 v15) 43 v15) H16)))) (
 K (.exit 0) (upd (upd (upd (upd (upd (upd (upd (upd (upd (upd (upd (upd (upd (upd (upd (upd (upd (upd (upd (upd (upd (upd (upd a 30 (a 10)) 31 (a 11)) 32 (.bool (leZ z1 z2))) 33 (.bool (leZ z1 z2))) 33 (.bool false)) 34 unit) 33 (.bool false)) 35 unit) 33 (.bool false)) 36 unit) 33 (.bool false)) 37 unit) 33 (.bool false)) 38 unit) 33 (.bool false)) 39 unit) 33 (.bool false)) 40 unit) 33 (.bool false)) 41 unit) 33 (.bool false)) 42 unit) 43 (.bool false)) H)) := by kernel_rfl
theorem partOrdB_W (con : CallT) (a : TF) (H : CH) (K : KX) : codeW (lpAt Tryz.prog 126 1) Tryz.prog con a H K =
 (AsInt .i64 (a 10) fun z1 =>
 AsInt .i64 (a 11) fun z2 =>
 Bnd (upd (upd (upd (upd a 46 (a 10)) 47 (a 11)) 48 (.bool (leZ z1 z2))) 49 (.bool (leZ z1 z2))) fun s1 =>
Cd (leZ z1 z2) (
 AsSlc (a 0) fun p3 o4 l5 c6 =>
 AsCnt (a 11) fun n7 =>
 Must (ltN n7 l5) (
 Ld H p3 (Nat.add o4 (Nat.mul n7 1)) fun v8 =>
 AsSlc (a 0) fun p9 o10 l11 c12 =>
 AsCnt (a 1) fun n13 =>
 Must (ltN n13 l11) (
 Ld H p9 (Nat.add o10 (Nat.mul n13 1)) fun v14 =>
 Call1 Tryz.prog con 124 [v8, v14] H fun v15 H16 =>
 AsBool v15 fun b17 =>
 Bnd (upd (upd (upd (upd (upd (upd (upd (upd (upd (upd (upd (upd (upd (upd (upd (upd (upd (upd (upd (upd (upd s1 49 (.bool true)) 50 (a 0)) 49 (.bool true)) 51 (a 11)) 49 (.bool true)) 52 (ptr p3 (Nat.add o4 (Nat.mul n7 1)))) 49 (.bool true)) 53 v8) 49 (.bool true)) 54 (a 0)) 49 (.bool true)) 55 (a 1)) 49 (.bool true)) 56 (ptr p9 (Nat.add o10 (Nat.mul n13 1)))) 49 (.bool true)) 57 v14) 49 (.bool true)) 58 v15) 49 (.bool true)) 59 (.bool (notB b17))) 60 (.bool (notB b17))) fun s2 =>
Cd (notB b17) (
 AsInt .i64 (a 11) fun z18 =>
 InR (Int.sub z18 (Int.ofNat 1)) (
 K .normal (upd (upd (upd s2 61 (a 11)) 62 (i64 (Int.sub z18 (Int.ofNat 1)))) 11 (i64 (Int.sub z18 (Int.ofNat 1)))) H16)) (
 K (.exit 2) s2 H16)))) (
 K (.exit 2) (upd (Rz false 49 s1 50 10) 60 (.bool false)) H)) := by kernel_rfl
theorem partOrdC_W (con : CallT) (a : TF) (H : CH) (K : KX) : codeW (lpAt Tryz.prog 126 2) Tryz.prog con a H K =
 (LoopC Tryz.prog con (lpAt Tryz.prog 126 3) a H (fun e => ceP e
 (fun a1 H2 =>
 LoopC Tryz.prog con (lpAt Tryz.prog 126 4) a1 H2 (fun e => ceP e
 (fun a4 H5 =>
 AsInt .i64 (a4 10) fun z7 =>
 AsInt .i64 (a4 11) fun z8 =>
 Cd (ltZ z8 z7) (
 K (.exit 4) (upd (upd (upd a4 132 (a4 10)) 133 (a4 11)) 134 (.bool (ltZ z8 z7))) H5) (
 AsSlc (a4 0) fun p9 o10 l11 c12 =>
 AsCnt (a4 11) fun n13 =>
 Must (ltN n13 l11) (
 Ld H5 p9 (Nat.add o10 (Nat.mul n13 1)) fun v14 =>
 AsSlc (a4 0) fun p15 o16 l17 c18 =>
 AsCnt (a4 10) fun n19 =>
 Must (ltN n19 l17) (
 Ld H5 p15 (Nat.add o16 (Nat.mul n19 1)) fun v20 =>
 AsSlc (a4 0) fun p21 o22 l23 c24 =>
 AsCnt (a4 10) fun n25 =>
 Must (ltN n25 l23) (
 Sc v14 (St H5 p21 (Nat.add o22 (Nat.mul n25 1)) [v14] fun H26 =>
 AsSlc (a4 0) fun p27 o28 l29 c30 =>
 AsCnt (a4 11) fun n31 =>
 Must (ltN n31 l29) (
 Sc v20 (St H26 p27 (Nat.add o28 (Nat.mul n31 1)) [v20] fun H32 =>
 AsInt .i64 (a4 10) fun z33 =>
 InR (Int.add z33 (Int.ofNat 1)) (
 AsInt .i64 (a4 11) fun z34 =>
 InR (Int.sub z34 (Int.ofNat 1)) (
 K .normal (upd (upd (upd (upd (upd (upd (upd (upd (upd (upd (upd (upd (upd (upd (upd (upd (upd (upd (upd (upd (upd (upd (upd a4 132 (a4 10)) 133 (a4 11)) 134 (.bool (ltZ z8 z7))) 135 (a4 0)) 136 (a4 10)) 137 (a4 0)) 138 (a4 11)) 139 (a4 0)) 140 (a4 11)) 141 (ptr p9 (Nat.add o10 (Nat.mul n13 1)))) 142 v14) 143 (a4 0)) 144 (a4 10)) 145 (ptr p15 (Nat.add o16 (Nat.mul n19 1)))) 146 v20) 147 (ptr p21 (Nat.add o22 (Nat.mul n25 1)))) 148 (ptr p27 (Nat.add o28 (Nat.mul n31 1)))) 149 (a4 10)) 150 (i64 (Int.add z33 (Int.ofNat 1)))) 10 (i64 (Int.add z33 (Int.ofNat 1)))) 151 (a4 11)) 152 (i64 (Int.sub z34 (Int.ofNat 1)))) 11 (i64 (Int.sub z34 (Int.ofNat 1)))) H32))))))))))
 (fun i6 => fun a4 H5 =>
 Cd (eqN i6 8) (
 AsInt .i64 (a4 10) fun z35 =>
 AsInt .i64 (a4 11) fun z36 =>
 Cd (ltZ z36 z35) (
 K (.exit 4) (upd (upd (upd a4 132 (a4 10)) 133 (a4 11)) 134 (.bool (ltZ z36 z35))) H5) (
 AsSlc (a4 0) fun p37 o38 l39 c40 =>
 AsCnt (a4 11) fun n41 =>
 Must (ltN n41 l39) (
 Ld H5 p37 (Nat.add o38 (Nat.mul n41 1)) fun v42 =>
 AsSlc (a4 0) fun p43 o44 l45 c46 =>
 AsCnt (a4 10) fun n47 =>
 Must (ltN n47 l45) (
 Ld H5 p43 (Nat.add o44 (Nat.mul n47 1)) fun v48 =>
 AsSlc (a4 0) fun p49 o50 l51 c52 =>
 AsCnt (a4 10) fun n53 =>
 Must (ltN n53 l51) (
 Sc v42 (St H5 p49 (Nat.add o50 (Nat.mul n53 1)) [v42] fun H54 =>
 AsSlc (a4 0) fun p55 o56 l57 c58 =>
 AsCnt (a4 11) fun n59 =>
 Must (ltN n59 l57) (
 Sc v48 (St H54 p55 (Nat.add o56 (Nat.mul n59 1)) [v48] fun H60 =>
 AsInt .i64 (a4 10) fun z61 =>
 InR (Int.add z61 (Int.ofNat 1)) (
 AsInt .i64 (a4 11) fun z62 =>
 InR (Int.sub z62 (Int.ofNat 1)) (
 K .normal (upd (upd (upd (upd (upd (upd (upd (upd (upd (upd (upd (upd (upd (upd (upd (upd (upd (upd (upd (upd (upd (upd (upd a4 132 (a4 10)) 133 (a4 11)) 134 (.bool (ltZ z36 z35))) 135 (a4 0)) 136 (a4 10)) 137 (a4 0)) 138 (a4 11)) 139 (a4 0)) 140 (a4 11)) 141 (ptr p37 (Nat.add o38 (Nat.mul n41 1)))) 142 v42) 143 (a4 0)) 144 (a4 10)) 145 (ptr p43 (Nat.add o44 (Nat.mul n47 1)))) 146 v48) 147 (ptr p49 (Nat.add o50 (Nat.mul n53 1)))) 148 (ptr p55 (Nat.add o56 (Nat.mul n59 1)))) 149 (a4 10)) 150 (i64 (Int.add z61 (Int.ofNat 1)))) 10 (i64 (Int.add z61 (Int.ofNat 1)))) 151 (a4 11)) 152 (i64 (Int.sub z62 (Int.ofNat 1)))) 11 (i64 (Int.sub z62 (Int.ofNat 1)))) H60)))))))))) (
 Cd (eqN i6 5) (
 K .normal a4 H5) (
 K (.exit i6) a4 H5)))
 (fun a4 H5 =>
 K .ret a4 H5)))
 (fun i3 => fun a1 H2 =>
 Cd (eqN i3 6) (
 LoopC Tryz.prog con (lpAt Tryz.prog 126 4) a1 H2 (fun e => ceP e
 (fun a63 H64 =>
 AsInt .i64 (a63 10) fun z66 =>
 AsInt .i64 (a63 11) fun z67 =>
 Cd (ltZ z67 z66) (
 K (.exit 4) (upd (upd (upd a63 132 (a63 10)) 133 (a63 11)) 134 (.bool (ltZ z67 z66))) H64) (
 AsSlc (a63 0) fun p68 o69 l70 c71 =>
 AsCnt (a63 11) fun n72 =>
 Must (ltN n72 l70) (
 Ld H64 p68 (Nat.add o69 (Nat.mul n72 1)) fun v73 =>
 AsSlc (a63 0) fun p74 o75 l76 c77 =>
 AsCnt (a63 10) fun n78 =>
 Must (ltN n78 l76) (
 Ld H64 p74 (Nat.add o75 (Nat.mul n78 1)) fun v79 =>
 AsSlc (a63 0) fun p80 o81 l82 c83 =>
 AsCnt (a63 10) fun n84 =>
 Must (ltN n84 l82) (
 Sc v73 (St H64 p80 (Nat.add o81 (Nat.mul n84 1)) [v73] fun H85 =>
 AsSlc (a63 0) fun p86 o87 l88 c89 =>
 AsCnt (a63 11) fun n90 =>
 Must (ltN n90 l88) (
 Sc v79 (St H85 p86 (Nat.add o87 (Nat.mul n90 1)) [v79] fun H91 =>
 AsInt .i64 (a63 10) fun z92 =>
 InR (Int.add z92 (Int.ofNat 1)) (
 AsInt .i64 (a63 11) fun z93 =>
 InR (Int.sub z93 (Int.ofNat 1)) (
 K .normal (upd (upd (upd (upd (upd (upd (upd (upd (upd (upd (upd (upd (upd (upd (upd (upd (upd (upd (upd (upd (upd (upd (upd a63 132 (a63 10)) 133 (a63 11)) 134 (.bool (ltZ z67 z66))) 135 (a63 0)) 136 (a63 10)) 137 (a63 0)) 138 (a63 11)) 139 (a63 0)) 140 (a63 11)) 141 (ptr p68 (Nat.add o69 (Nat.mul n72 1)))) 142 v73) 143 (a63 0)) 144 (a63 10)) 145 (ptr p74 (Nat.add o75 (Nat.mul n78 1)))) 146 v79) 147 (ptr p80 (Nat.add o81 (Nat.mul n84 1)))) 148 (ptr p86 (Nat.add o87 (Nat.mul n90 1)))) 149 (a63 10)) 150 (i64 (Int.add z92 (Int.ofNat 1)))) 10 (i64 (Int.add z92 (Int.ofNat 1)))) 151 (a63 11)) 152 (i64 (Int.sub z93 (Int.ofNat 1)))) 11 (i64 (Int.sub z93 (Int.ofNat 1)))) H91))))))))))
 (fun i65 => fun a63 H64 =>
 Cd (eqN i65 8) (
 AsInt .i64 (a63 10) fun z94 =>
 AsInt .i64 (a63 11) fun z95 =>
 Cd (ltZ z95 z94) (
 K (.exit 4) (upd (upd (upd a63 132 (a63 10)) 133 (a63 11)) 134 (.bool (ltZ z95 z94))) H64) (
 AsSlc (a63 0) fun p96 o97 l98 c99 =>
 AsCnt (a63 11) fun n100 =>
 Must (ltN n100 l98) (
 Ld H64 p96 (Nat.add o97 (Nat.mul n100 1)) fun v101 =>
 AsSlc (a63 0) fun p102 o103 l104 c105 =>
 AsCnt (a63 10) fun n106 =>
 Must (ltN n106 l104) (
 Ld H64 p102 (Nat.add o103 (Nat.mul n106 1)) fun v107 =>
 AsSlc (a63 0) fun p108 o109 l110 c111 =>
 AsCnt (a63 10) fun n112 =>
 Must (ltN n112 l110) (
 Sc v101 (St H64 p108 (Nat.add o109 (Nat.mul n112 1)) [v101] fun H113 =>
 AsSlc (a63 0) fun p114 o115 l116 c117 =>
 AsCnt (a63 11) fun n118 =>
 Must (ltN n118 l116) (
 Sc v107 (St H113 p114 (Nat.add o115 (Nat.mul n118 1)) [v107] fun H119 =>
 AsInt .i64 (a63 10) fun z120 =>
 InR (Int.add z120 (Int.ofNat 1)) (
 AsInt .i64 (a63 11) fun z121 =>
 InR (Int.sub z121 (Int.ofNat 1)) (
 K .normal (upd (upd (upd (upd (upd (upd (upd (upd (upd (upd (upd (upd (upd (upd (upd (upd (upd (upd (upd (upd (upd (upd (upd a63 132 (a63 10)) 133 (a63 11)) 134 (.bool (ltZ z95 z94))) 135 (a63 0)) 136 (a63 10)) 137 (a63 0)) 138 (a63 11)) 139 (a63 0)) 140 (a63 11)) 141 (ptr p96 (Nat.add o97 (Nat.mul n100 1)))) 142 v101) 143 (a63 0)) 144 (a63 10)) 145 (ptr p102 (Nat.add o103 (Nat.mul n106 1)))) 146 v107) 147 (ptr p108 (Nat.add o109 (Nat.mul n112 1)))) 148 (ptr p114 (Nat.add o115 (Nat.mul n118 1)))) 149 (a63 10)) 150 (i64 (Int.add z120 (Int.ofNat 1)))) 10 (i64 (Int.add z120 (Int.ofNat 1)))) 151 (a63 11)) 152 (i64 (Int.sub z121 (Int.ofNat 1)))) 11 (i64 (Int.sub z121 (Int.ofNat 1)))) H119)))))))))) (
 Cd (eqN i65 5) (
 K .normal a63 H64) (
 K (.exit i65) a63 H64)))
 (fun a63 H64 =>
 K .ret a63 H64))) (
 Cd (eqN i3 5) (
 K .normal a1 H2) (
 K (.exit i3) a1 H2)))
 (fun a1 H2 =>
 K .ret a1 H2))) := by kernel_rfl
theorem partOrdD_W (con : CallT) (a : TF) (H : CH) (K : KX) : codeW (lpAt Tryz.prog 126 3) Tryz.prog con a H K =
 (AsInt .i64 (a 10) fun z1 =>
 AsInt .i64 (a 11) fun z2 =>
 Cd (leZ z1 z2) (
 AsSlc (a 0) fun p3 o4 l5 c6 =>
 AsCnt (a 10) fun n7 =>
 Must (ltN n7 l5) (
 Ld H p3 (Nat.add o4 (Nat.mul n7 1)) fun v8 =>
 AsSlc (a 0) fun p9 o10 l11 c12 =>
 AsCnt (a 1) fun n13 =>
 Must (ltN n13 l11) (
 Ld H p9 (Nat.add o10 (Nat.mul n13 1)) fun v14 =>
 Call1 Tryz.prog con 124 [v8, v14] H fun v15 H16 =>
 AsBool v15 fun b17 =>
 Cd b17 (
 AsInt .i64 (a 10) fun z18 =>
 InR (Int.add z18 (Int.ofNat 1)) (
 K .normal (upd (upd (upd (upd (upd (upd (upd (upd (upd (upd (upd (upd (upd (upd (upd (upd (upd (upd (upd (upd (upd (upd (upd (upd (upd (upd a 99 (a 10)) 100 (a 11)) 101 (.bool (leZ z1 z2))) 102 (.bool (leZ z1 z2))) 102 (.bool true)) 103 (a 0)) 102 (.bool true)) 104 (a 10)) 102 (.bool true)) 105 (ptr p3 (Nat.add o4 (Nat.mul n7 1)))) 102 (.bool true)) 106 v8) 102 (.bool true)) 107 (a 0)) 102 (.bool true)) 108 (a 1)) 102 (.bool true)) 109 (ptr p9 (Nat.add o10 (Nat.mul n13 1)))) 102 (.bool true)) 110 v14) 102 (.bool true)) 111 v15) 112 v15) 113 (a 10)) 114 (i64 (Int.add z18 (Int.ofNat 1)))) 10 (i64 (Int.add z18 (Int.ofNat 1)))) H16)) (
 K (.exit 6) (upd (upd (upd (upd (upd (upd (upd (upd (upd (upd (upd (upd (upd (upd (upd (upd (upd (upd (upd (upd (upd (upd (upd a 99 (a 10)) 100 (a 11)) 101 (.bool (leZ z1 z2))) 102 (.bool (leZ z1 z2))) 102 (.bool true)) 103 (a 0)) 102 (.bool true)) 104 (a 10)) 102 (.bool true)) 105 (ptr p3 (Nat.add o4 (Nat.mul n7 1)))) 102 (.bool true)) 106 v8) 102 (.bool true)) 107 (a 0)) 102 (.bool true)) 108 (a 1)) 102 (.bool true)) 109 (ptr p9 (Nat.add o10 (Nat.mul n13 1)))) 102 (.bool true)) 110 v14) 102 (.bool true)) 111 v15) 112 v15) H16)))) (
 K (.exit 6) (upd (upd (upd (upd (upd (upd (upd (upd (upd (upd (upd (upd (upd (upd (upd (upd (upd (upd (upd (upd (upd (upd (upd a 99 (a 10)) 100 (a 11)) 101 (.bool (leZ z1 z2))) 102 (.bool (leZ z1 z2))) 102 (.bool false)) 103 unit) 102 (.bool false)) 104 unit) 102 (.bool false)) 105 unit) 102 (.bool false)) 106 unit) 102 (.bool false)) 107 unit) 102 (.bool false)) 108 unit) 102 (.bool false)) 109 unit) 102 (.bool false)) 110 unit) 102 (.bool false)) 111 unit) 112 (.bool false)) H)) := by kernel_rfl
theorem partOrdE_W (con : CallT) (a : TF) (H : CH) (K : KX) : codeW (lpAt Tryz.prog 126 4) Tryz.prog con a H K =
 (AsInt .i64 (a 10) fun z1 =>
 AsInt .i64 (a 11) fun z2 =>
 Bnd (upd (upd (upd (upd a 115 (a 10)) 116 (a 11)) 117 (.bool (leZ z1 z2))) 118 (.bool (leZ z1 z2))) fun s1 =>
Cd (leZ z1 z2) (
 AsSlc (a 0) fun p3 o4 l5 c6 =>
 AsCnt (a 11) fun n7 =>
 Must (ltN n7 l5) (
 Ld H p3 (Nat.add o4 (Nat.mul n7 1)) fun v8 =>
 AsSlc (a 0) fun p9 o10 l11 c12 =>
 AsCnt (a 1) fun n13 =>
 Must (ltN n13 l11) (
 Ld H p9 (Nat.add o10 (Nat.mul n13 1)) fun v14 =>
 Call1 Tryz.prog con 124 [v8, v14] H fun v15 H16 =>
 AsBool v15 fun b17 =>
 Bnd (upd (upd (upd (upd (upd (upd (upd (upd (upd (upd (upd (upd (upd (upd (upd (upd (upd (upd (upd (upd (upd s1 118 (.bool true)) 119 (a 0)) 118 (.bool true)) 120 (a 11)) 118 (.bool true)) 121 (ptr p3 (Nat.add o4 (Nat.mul n7 1)))) 118 (.bool true)) 122 v8) 118 (.bool true)) 123 (a 0)) 118 (.bool true)) 124 (a 1)) 118 (.bool true)) 125 (ptr p9 (Nat.add o10 (Nat.mul n13 1)))) 118 (.bool true)) 126 v14) 118 (.bool true)) 127 v15) 118 (.bool true)) 128 (.bool (notB b17))) 129 (.bool (notB b17))) fun s2 =>
Cd (notB b17) (
 AsInt .i64 (a 11) fun z18 =>
 InR (Int.sub z18 (Int.ofNat 1)) (
 K .normal (upd (upd (upd s2 130 (a 11)) 131 (i64 (Int.sub z18 (Int.ofNat 1)))) 11 (i64 (Int.sub z18 (Int.ofNat 1)))) H16)) (
 K (.exit 8) s2 H16)))) (
 K (.exit 8) (upd (Rz false 118 s1 119 10) 129 (.bool false)) H)) := by kernel_rfl
theorem nextPow_W (con : CallT) (n : Int) (H : CH) (K : KP) : funW Tryz.prog con 144 [i64 n] H K =
 (Must (cvOk .i64 n) (
 Call1 Tryz.prog con 103 [(u64 ((wrapN .u64 n)))] H fun v1 H2 =>
 AsCnt v1 fun n3 =>
 K (u64 ((Nat.mod (Nat.mul 1 (Nat.pow 2 (Nat.min n3 64))) 18446744073709551616))) H2)) := by kernel_rfl
theorem xorNext_W (con : CallT) (p : Nat) (H : CH) (K : KP) : funW Tryz.prog con 145 [ptr p 0] H K =
 (Ld H p 0 fun v1 =>
 Ld H p 0 fun v2 =>
 AsNat .u64 v2 fun n3 =>
 AsNat .u64 v1 fun n4 =>
 CInt .xor .u64 (Int.ofNat n4) (Int.ofNat (Nat.mod (Nat.mul n3 8192) 18446744073709551616)) fun v5 =>
 Sc v5 (St H p 0 [v5] fun H6 =>
 Ld H6 p 0 fun v7 =>
 Ld H6 p 0 fun v8 =>
 AsNat .u64 v8 fun n9 =>
 AsNat .u64 v7 fun n10 =>
 CInt .xor .u64 (Int.ofNat n10) (Int.ofNat (Nat.div n9 128)) fun v11 =>
 Sc v11 (St H6 p 0 [v11] fun H12 =>
 Ld H12 p 0 fun v13 =>
 Ld H12 p 0 fun v14 =>
 AsNat .u64 v14 fun n15 =>
 AsNat .u64 v13 fun n16 =>
 CInt .xor .u64 (Int.ofNat n16) (Int.ofNat (Nat.mod (Nat.mul n15 131072) 18446744073709551616)) fun v17 =>
 Sc v17 (St H12 p 0 [v17] fun H18 =>
 Ld H18 p 0 fun v19 =>
 K v19 H18)))) := by kernel_rfl
theorem medAdj_W (con : CallT) (v : Value) (i : Int) (p : Nat) (H : CH) (K : KP) : funW Tryz.prog con 146 [v, i64 i, ptr p 0] H K =
 (InR (Int.sub i (Int.ofNat 1)) (
 InR (Int.add i (Int.ofNat 1)) (
 Call1 Tryz.prog con 147 [v, (i64 (Int.sub i (Int.ofNat 1))), (i64 i), (i64 (Int.add i (Int.ofNat 1))), (ptr p 0)] H fun v1 H2 =>
 K v1 H2))) := by kernel_rfl
theorem median_W (con : CallT) (v : Value) (i j k : Int) (p : Nat) (H : CH) (K : KP) : funW Tryz.prog con 147 [v, i64 i, i64 j, i64 k, ptr p 0] H K =
 (Call1 Tryz.prog con 152 [v, (i64 i), (i64 j), (ptr p 0)] H fun v1 H2 =>
 AsTup v1 fun l3 =>
 Nth l3 0 fun v4 =>
 AsTup v1 fun l5 =>
 Nth l5 1 fun v6 =>
 Call1 Tryz.prog con 152 [v, v6, (i64 k), (ptr p 0)] H2 fun v7 H8 =>
 AsTup v7 fun l9 =>
 Nth l9 0 fun v10 =>
 AsTup v7 fun l11 =>
 Nth l11 1 fun v12 =>
 Call1 Tryz.prog con 152 [v, v4, v10, (ptr p 0)] H8 fun v13 H14 =>
 AsTup v13 fun l15 =>
 Nth l15 0 fun v16 =>
 AsTup v13 fun l17 =>
 Nth l17 1 fun v18 =>
 K v18 H14) := by kernel_rfl
theorem cmpNaN_W (con : CallT) (x : Nat) (H : CH) (K : KP) : funW Tryz.prog con 148 [u64 x] H K =
 (K (.bool (notB (eqN x x))) H) := by kernel_rfl
theorem order2_W (con : CallT) (v : Value) (i j : Int) (p : Nat) (H : CH) (K : KP) : funW Tryz.prog con 152 [v, i64 i, i64 j, ptr p 0] H K =
 (AsSlc v fun p1 o2 l3 c4 =>
 AsCnt (i64 j) fun n5 =>
 Must (ltN n5 l3) (
 Ld H p1 (Nat.add o2 (Nat.mul n5 1)) fun v6 =>
 AsSlc v fun p7 o8 l9 c10 =>
 AsCnt (i64 i) fun n11 =>
 Must (ltN n11 l9) (
 Ld H p7 (Nat.add o8 (Nat.mul n11 1)) fun v12 =>
 Call1 Tryz.prog con 124 [v6, v12] H fun v13 H14 =>
 AsBool v13 fun b15 =>
 Cd b15 (
 Ld H14 p 0 fun v16 =>
 AsInt .i64 v16 fun z17 =>
 InR (Int.add z17 (Int.ofNat 1)) (
 St H14 p 0 [(i64 (Int.add z17 (Int.ofNat 1)))] fun H18 =>
 K (.tuple ⟨[(i64 j), (i64 i)]⟩) H18)) (
 K (.tuple ⟨[(i64 i), (i64 j)]⟩) H14)))) := by kernel_rfl
end Go.Proofs.YtocphcgcpjcfjaaGreat

/- What some functions' texts ask for, step by step, each checked by the kernel. No conditions. -/
set_option linter.unusedVariables false
set_option maxRecDepth 100000
namespace Go.Proofs.YtocphcgcpjcfjaaGreat
open Go Go.CM
theorem bitsLen64_W (con : CallT) (n : Nat) (H : CH) (K : KP) : funW Tryz.prog con 128 [u64 n] H K =
 (Bnd (upd (upd (upd (upd (fun _ => undV) 0 (u64 (n))) 2 (iN (0))) 3 (u64 (n))) 4 (.bool (leN 4294967296 n))) fun s1 =>
Cd (leN 4294967296 n) (
 Bnd (upd (upd (upd (upd (upd (upd s1 5 (u64 (n))) 6 (u64 ((Nat.div n 4294967296)))) 0 (u64 ((Nat.div n 4294967296)))) 2 (iN (32))) 7 (u64 ((Nat.div n 4294967296)))) 8 (.bool (leN 65536 (Nat.div n 4294967296)))) fun s2 =>
Cd (leN 65536 (Nat.div n 4294967296)) (
 InR (Int.add (Int.ofNat 32) (Int.ofNat 16)) (
 Bnd (upd (upd (upd (upd (upd (upd (upd (upd s2 9 (u64 ((Nat.div n 4294967296)))) 10 (u64 ((Nat.div (Nat.div n 4294967296) 65536)))) 0 (u64 ((Nat.div (Nat.div n 4294967296) 65536)))) 11 (iN (32))) 12 (i64 (Int.add (Int.ofNat 32) (Int.ofNat 16)))) 2 (i64 (Int.add (Int.ofNat 32) (Int.ofNat 16)))) 13 (u64 ((Nat.div (Nat.div n 4294967296) 65536)))) 14 (.bool (leN 256 (Nat.div (Nat.div n 4294967296) 65536)))) fun s3 =>
Cd (leN 256 (Nat.div (Nat.div n 4294967296) 65536)) (
 InR (Int.add (Int.add (Int.ofNat 32) (Int.ofNat 16)) (Int.ofNat 8)) (
 OpN Tryz.prog H (upd (upd (upd (upd (upd (upd (upd (upd (upd s3 15 (u64 ((Nat.div (Nat.div n 4294967296) 65536)))) 16 (u64 ((Nat.div (Nat.div (Nat.div n 4294967296) 65536) 256)))) 0 (u64 ((Nat.div (Nat.div (Nat.div n 4294967296) 65536) 256)))) 17 (i64 (Int.add (Int.ofNat 32) (Int.ofNat 16)))) 18 (i64 (Int.add (Int.add (Int.ofNat 32) (Int.ofNat 16)) (Int.ofNat 8)))) 2 (i64 (Int.add (Int.add (Int.ofNat 32) (Int.ofNat 16)) (Int.ofNat 8)))) 19 (i64 (Int.add (Int.add (Int.ofNat 32) (Int.ofNat 16)) (Int.ofNat 8)))) 20 (u64 ((Nat.div (Nat.div (Nat.div n 4294967296) 65536) 256)))) 21 (u8 ((Nat.mod (Nat.div (Nat.div (Nat.div n 4294967296) 65536) 256) 256)))) (.index 9 (.const (.string ({
 data :=
 (([0, 1, 2, 2, 3, 3, 3, 3, 4, 4, 4, 4, 4, 4, 4, 4, 5, 5, 5, 5, 5, 5, 5, 5, 5, 5, 5, 5, 5, 5, 5, 5, 6, 6, 6, 6, 6, 6,
 6, 6, 6, 6, 6, 6, 6, 6, 6, 6, 6, 6, 6, 6, 6, 6, 6, 6, 6, 6, 6, 6, 6, 6, 6, 6].append
 [7, 7, 7, 7, 7, 7, 7, 7, 7, 7, 7, 7, 7, 7, 7, 7, 7, 7, 7, 7, 7, 7, 7, 7, 7, 7, 7, 7, 7, 7, 7, 7, 7, 7, 7, 7,
 7, 7, 7, 7, 7, 7, 7, 7, 7, 7, 7, 7, 7, 7, 7, 7, 7, 7, 7, 7, 7, 7, 7, 7, 7, 7, 7, 7]).append
 ([8, 8, 8, 8, 8, 8, 8, 8, 8, 8, 8, 8, 8, 8, 8, 8, 8, 8, 8, 8, 8, 8, 8, 8, 8, 8, 8, 8, 8, 8, 8, 8, 8, 8, 8, 8, 8,
 8, 8, 8, 8, 8, 8, 8, 8, 8, 8, 8, 8, 8, 8, 8, 8, 8, 8, 8, 8, 8, 8, 8, 8, 8, 8, 8].append
 [8, 8, 8, 8, 8, 8, 8, 8, 8, 8, 8, 8, 8, 8, 8, 8, 8, 8, 8, 8, 8, 8, 8, 8, 8, 8, 8, 8, 8, 8, 8, 8, 8, 8, 8, 8,
 8, 8, 8, 8, 8, 8, 8, 8, 8, 8, 8, 8, 8, 8, 8, 8, 8, 8, 8, 8, 8, 8, 8, 8, 8, 8, 8, 8])).toArray }))) (.tmp 21)) fun v1 H2 =>
 AsNat .u8 v1 fun n3 =>
 Must (ltN n3 256) (
 InR (Int.add (Int.add (Int.add (Int.ofNat 32) (Int.ofNat 16)) (Int.ofNat 8)) (Int.ofNat n3)) (
 K (i64 (Int.add (Int.add (Int.add (Int.ofNat 32) (Int.ofNat 16)) (Int.ofNat 8)) (Int.ofNat n3))) H2)))) (
 OpN Tryz.prog H (upd (upd (upd s3 19 (i64 (Int.add (Int.ofNat 32) (Int.ofNat 16)))) 20 (u64 ((Nat.div (Nat.div n 4294967296) 65536)))) 21 (u8 ((Nat.mod (Nat.div (Nat.div n 4294967296) 65536) 256)))) (.index 9 (.const (.string ({
 data :=
 (([0, 1, 2, 2, 3, 3, 3, 3, 4, 4, 4, 4, 4, 4, 4, 4, 5, 5, 5, 5, 5, 5, 5, 5, 5, 5, 5, 5, 5, 5, 5, 5, 6, 6, 6, 6, 6, 6,
 6, 6, 6, 6, 6, 6, 6, 6, 6, 6, 6, 6, 6, 6, 6, 6, 6, 6, 6, 6, 6, 6, 6, 6, 6, 6].append
 [7, 7, 7, 7, 7, 7, 7, 7, 7, 7, 7, 7, 7, 7, 7, 7, 7, 7, 7, 7, 7, 7, 7, 7, 7, 7, 7, 7, 7, 7, 7, 7, 7, 7, 7, 7,
 7, 7, 7, 7, 7, 7, 7, 7, 7, 7, 7, 7, 7, 7, 7, 7, 7, 7, 7, 7, 7, 7, 7, 7, 7, 7, 7, 7]).append
 ([8, 8, 8, 8, 8, 8, 8, 8, 8, 8, 8, 8, 8, 8, 8, 8, 8, 8, 8, 8, 8, 8, 8, 8, 8, 8, 8, 8, 8, 8, 8, 8, 8, 8, 8, 8, 8,
 8, 8, 8, 8, 8, 8, 8, 8, 8, 8, 8, 8, 8, 8, 8, 8, 8, 8, 8, 8, 8, 8, 8, 8, 8, 8, 8].append
 [8, 8, 8, 8, 8, 8, 8, 8, 8, 8, 8, 8, 8, 8, 8, 8, 8, 8, 8, 8, 8, 8, 8, 8, 8, 8, 8, 8, 8, 8, 8, 8, 8, 8, 8, 8,
 8, 8, 8, 8, 8, 8, 8, 8, 8, 8, 8, 8, 8, 8, 8, 8, 8, 8, 8, 8, 8, 8, 8, 8, 8, 8, 8, 8])).toArray }))) (.tmp 21)) fun v4 H5 =>
 AsNat .u8 v4 fun n6 =>
 Must (ltN n6 256) (
 InR (Int.add (Int.add (Int.ofNat 32) (Int.ofNat 16)) (Int.ofNat n6)) (
 K (i64 (Int.add (Int.add (Int.ofNat 32) (Int.ofNat 16)) (Int.ofNat n6))) H5))))) (
 Cd (leN 256 (Nat.div n 4294967296)) (
 InR (Int.add (Int.ofNat 32) (Int.ofNat 8)) (
 OpN Tryz.prog H (upd (upd (upd (upd (upd (upd (upd (upd (upd (upd (upd s2 13 (u64 ((Nat.div n 4294967296)))) 14 (.bool (leN 256 (Nat.div n 4294967296)))) 15 (u64 ((Nat.div n 4294967296)))) 16 (u64 ((Nat.div (Nat.div n 4294967296) 256)))) 0 (u64 ((Nat.div (Nat.div n 4294967296) 256)))) 17 (iN (32))) 18 (i64 (Int.add (Int.ofNat 32) (Int.ofNat 8)))) 2 (i64 (Int.add (Int.ofNat 32) (Int.ofNat 8)))) 19 (i64 (Int.add (Int.ofNat 32) (Int.ofNat 8)))) 20 (u64 ((Nat.div (Nat.div n 4294967296) 256)))) 21 (u8 ((Nat.mod (Nat.div (Nat.div n 4294967296) 256) 256)))) (.index 9 (.const (.string ({
 data :=
 (([0, 1, 2, 2, 3, 3, 3, 3, 4, 4, 4, 4, 4, 4, 4, 4, 5, 5, 5, 5, 5, 5, 5, 5, 5, 5, 5, 5, 5, 5, 5, 5, 6, 6, 6, 6, 6, 6,
 6, 6, 6, 6, 6, 6, 6, 6, 6, 6, 6, 6, 6, 6, 6, 6, 6, 6, 6, 6, 6, 6, 6, 6, 6, 6].append
 [7, 7, 7, 7, 7, 7, 7, 7, 7, 7, 7, 7, 7, 7, 7, 7, 7, 7, 7, 7, 7, 7, 7, 7, 7, 7, 7, 7, 7, 7, 7, 7, 7, 7, 7, 7,
 7, 7, 7, 7, 7, 7, 7, 7, 7, 7, 7, 7, 7, 7, 7, 7, 7, 7, 7, 7, 7, 7, 7, 7, 7, 7, 7, 7]).append
 ([8, 8, 8, 8, 8, 8, 8, 8, 8, 8, 8, 8, 8, 8, 8, 8, 8, 8, 8, 8, 8, 8, 8, 8, 8, 8, 8, 8, 8, 8, 8, 8, 8, 8, 8, 8, 8,
 8, 8, 8, 8, 8, 8, 8, 8, 8, 8, 8, 8, 8, 8, 8, 8, 8, 8, 8, 8, 8, 8, 8, 8, 8, 8, 8].append
 [8, 8, 8, 8, 8, 8, 8, 8, 8, 8, 8, 8, 8, 8, 8, 8, 8, 8, 8, 8, 8, 8, 8, 8, 8, 8, 8, 8, 8, 8, 8, 8, 8, 8, 8, 8,
 8, 8, 8, 8, 8, 8, 8, 8, 8, 8, 8, 8, 8, 8, 8, 8, 8, 8, 8, 8, 8, 8, 8, 8, 8, 8, 8, 8])).toArray }))) (.tmp 21)) fun v7 H8 =>
 AsNat .u8 v7 fun n9 =>
 Must (ltN n9 256) (
 InR (Int.add (Int.add (Int.ofNat 32) (Int.ofNat 8)) (Int.ofNat n9)) (
 K (i64 (Int.add (Int.add (Int.ofNat 32) (Int.ofNat 8)) (Int.ofNat n9))) H8)))) (
 OpN Tryz.prog H (upd (upd (upd (upd (upd s2 13 (u64 ((Nat.div n 4294967296)))) 14 (.bool (leN 256 (Nat.div n 4294967296)))) 19 (iN (32))) 20 (u64 ((Nat.div n 4294967296)))) 21 (u8 ((Nat.mod (Nat.div n 4294967296) 256)))) (.index 9 (.const (.string ({
 data :=
 (([0, 1, 2, 2, 3, 3, 3, 3, 4, 4, 4, 4, 4, 4, 4, 4, 5, 5, 5, 5, 5, 5, 5, 5, 5, 5, 5, 5, 5, 5, 5, 5, 6, 6, 6, 6, 6, 6,
 6, 6, 6, 6, 6, 6, 6, 6, 6, 6, 6, 6, 6, 6, 6, 6, 6, 6, 6, 6, 6, 6, 6, 6, 6, 6].append
 [7, 7, 7, 7, 7, 7, 7, 7, 7, 7, 7, 7, 7, 7, 7, 7, 7, 7, 7, 7, 7, 7, 7, 7, 7, 7, 7, 7, 7, 7, 7, 7, 7, 7, 7, 7,
 7, 7, 7, 7, 7, 7, 7, 7, 7, 7, 7, 7, 7, 7, 7, 7, 7, 7, 7, 7, 7, 7, 7, 7, 7, 7, 7, 7]).append
 ([8, 8, 8, 8, 8, 8, 8, 8, 8, 8, 8, 8, 8, 8, 8, 8, 8, 8, 8, 8, 8, 8, 8, 8, 8, 8, 8, 8, 8, 8, 8, 8, 8, 8, 8, 8, 8,
 8, 8, 8, 8, 8, 8, 8, 8, 8, 8, 8, 8, 8, 8, 8, 8, 8, 8, 8, 8, 8, 8, 8, 8, 8, 8, 8].append
 [8, 8, 8, 8, 8, 8, 8, 8, 8, 8, 8, 8, 8, 8, 8, 8, 8, 8, 8, 8, 8, 8, 8, 8, 8, 8, 8, 8, 8, 8, 8, 8, 8, 8, 8, 8,
 8, 8, 8, 8, 8, 8, 8, 8, 8, 8, 8, 8, 8, 8, 8, 8, 8, 8, 8, 8, 8, 8, 8, 8, 8, 8, 8, 8])).toArray }))) (.tmp 21)) fun v10 H11 =>
 AsNat .u8 v10 fun n12 =>
 Must (ltN n12 256) (
 InR (Int.add (Int.ofNat 32) (Int.ofNat n12)) (
 K (i64 (Int.add (Int.ofNat 32) (Int.ofNat n12))) H11))))) (
 Bnd (upd (upd s1 7 (u64 (n))) 8 (.bool (leN 65536 n))) fun s4 =>
Cd (leN 65536 n) (
 InR (Int.add (Int.ofNat 0) (Int.ofNat 16)) (
 Bnd (upd (upd (upd (upd (upd (upd (upd (upd s4 9 (u64 (n))) 10 (u64 ((Nat.div n 65536)))) 0 (u64 ((Nat.div n 65536)))) 11 (iN (0))) 12 (i64 (Int.add (Int.ofNat 0) (Int.ofNat 16)))) 2 (i64 (Int.add (Int.ofNat 0) (Int.ofNat 16)))) 13 (u64 ((Nat.div n 65536)))) 14 (.bool (leN 256 (Nat.div n 65536)))) fun s5 =>
Cd (leN 256 (Nat.div n 65536)) (
 InR (Int.add (Int.add (Int.ofNat 0) (Int.ofNat 16)) (Int.ofNat 8)) (
 OpN Tryz.prog H (upd (upd (upd (upd (upd (upd (upd (upd (upd s5 15 (u64 ((Nat.div n 65536)))) 16 (u64 ((Nat.div (Nat.div n 65536) 256)))) 0 (u64 ((Nat.div (Nat.div n 65536) 256)))) 17 (i64 (Int.add (Int.ofNat 0) (Int.ofNat 16)))) 18 (i64 (Int.add (Int.add (Int.ofNat 0) (Int.ofNat 16)) (Int.ofNat 8)))) 2 (i64 (Int.add (Int.add (Int.ofNat 0) (Int.ofNat 16)) (Int.ofNat 8)))) 19 (i64 (Int.add (Int.add (Int.ofNat 0) (Int.ofNat 16)) (Int.ofNat 8)))) 20 (u64 ((Nat.div (Nat.div n 65536) 256)))) 21 (u8 ((Nat.mod (Nat.div (Nat.div n 65536) 256) 256)))) (.index 9 (.const (.string ({
 data :=
 (([0, 1, 2, 2, 3, 3, 3, 3, 4, 4, 4, 4, 4, 4, 4, 4, 5, 5, 5, 5, 5, 5, 5, 5, 5, 5, 5, 5, 5, 5, 5, 5, 6, 6, 6, 6, 6, 6,
 6, 6, 6, 6, 6, 6, 6, 6, 6, 6, 6, 6, 6, 6, 6, 6, 6, 6, 6, 6, 6, 6, 6, 6, 6, 6].append
 [7, 7, 7, 7, 7, 7, 7, 7, 7, 7, 7, 7, 7, 7, 7, 7, 7, 7, 7, 7, 7, 7, 7, 7, 7, 7, 7, 7, 7, 7, 7, 7, 7, 7, 7, 7,
 7, 7, 7, 7, 7, 7, 7, 7, 7, 7, 7, 7, 7, 7, 7, 7, 7, 7, 7, 7, 7, 7, 7, 7, 7, 7, 7, 7]).append
 ([8, 8, 8, 8, 8, 8, 8, 8, 8, 8, 8, 8, 8, 8, 8, 8, 8, 8, 8, 8, 8, 8, 8, 8, 8, 8, 8, 8, 8, 8, 8, 8, 8, 8, 8, 8, 8,
 8, 8, 8, 8, 8, 8, 8, 8, 8, 8, 8, 8, 8, 8, 8, 8, 8, 8, 8, 8, 8, 8, 8, 8, 8, 8, 8].append
 [8, 8, 8, 8, 8, 8, 8, 8, 8, 8, 8, 8, 8, 8, 8, 8, 8, 8, 8, 8, 8, 8, 8, 8, 8, 8, 8, 8, 8, 8, 8, 8, 8, 8, 8, 8,
 8, 8, 8, 8, 8, 8, 8, 8, 8, 8, 8, 8, 8, 8, 8, 8, 8, 8, 8, 8, 8, 8, 8, 8, 8, 8, 8, 8])).toArray }))) (.tmp 21)) fun v13 H14 =>
 AsNat .u8 v13 fun n15 =>
 Must (ltN n15 256) (
 InR (Int.add (Int.add (Int.add (Int.ofNat 0) (Int.ofNat 16)) (Int.ofNat 8)) (Int.ofNat n15)) (
 K (i64 (Int.add (Int.add (Int.add (Int.ofNat 0) (Int.ofNat 16)) (Int.ofNat 8)) (Int.ofNat n15))) H14)))) (
 OpN Tryz.prog H (upd (upd (upd s5 19 (i64 (Int.add (Int.ofNat 0) (Int.ofNat 16)))) 20 (u64 ((Nat.div n 65536)))) 21 (u8 ((Nat.mod (Nat.div n 65536) 256)))) (.index 9 (.const (.string ({
 data :=
 (([0, 1, 2, 2, 3, 3, 3, 3, 4, 4, 4, 4, 4, 4, 4, 4, 5, 5, 5, 5, 5, 5, 5, 5, 5, 5, 5, 5, 5, 5, 5, 5, 6, 6, 6, 6, 6, 6,
 6, 6, 6, 6, 6, 6, 6, 6, 6, 6, 6, 6, 6, 6, 6, 6, 6, 6, 6, 6, 6, 6, 6, 6, 6, 6].append
 [7, 7, 7, 7, 7, 7, 7, 7, 7, 7, 7, 7, 7, 7, 7, 7, 7, 7, 7, 7, 7, 7, 7, 7, 7, 7, 7, 7, 7, 7, 7, 7, 7, 7, 7, 7,
 7, 7, 7, 7, 7, 7, 7, 7, 7, 7, 7, 7, 7, 7, 7, 7, 7, 7, 7, 7, 7, 7, 7, 7, 7, 7, 7, 7]).append
 ([8, 8, 8, 8, 8, 8, 8, 8, 8, 8, 8, 8, 8, 8, 8, 8, 8, 8, 8, 8, 8, 8, 8, 8, 8, 8, 8, 8, 8, 8, 8, 8, 8, 8, 8, 8, 8,
 8, 8, 8, 8, 8, 8, 8, 8, 8, 8, 8, 8, 8, 8, 8, 8, 8, 8, 8, 8, 8, 8, 8, 8, 8, 8, 8].append
 [8, 8, 8, 8, 8, 8, 8, 8, 8, 8, 8, 8, 8, 8, 8, 8, 8, 8, 8, 8, 8, 8, 8, 8, 8, 8, 8, 8, 8, 8, 8, 8, 8, 8, 8, 8,
 8, 8, 8, 8, 8, 8, 8, 8, 8, 8, 8, 8, 8, 8, 8, 8, 8, 8, 8, 8, 8, 8, 8, 8, 8, 8, 8, 8])).toArray }))) (.tmp 21)) fun v16 H17 =>
 AsNat .u8 v16 fun n18 =>
 Must (ltN n18 256) (
 InR (Int.add (Int.add (Int.ofNat 0) (Int.ofNat 16)) (Int.ofNat n18)) (
 K (i64 (Int.add (Int.add (Int.ofNat 0) (Int.ofNat 16)) (Int.ofNat n18))) H17))))) (
 Cd (leN 256 n) (
 InR (Int.add (Int.ofNat 0) (Int.ofNat 8)) (
 OpN Tryz.prog H (upd (upd (upd (upd (upd (upd (upd (upd (upd (upd (upd s4 13 (u64 (n))) 14 (.bool (leN 256 n))) 15 (u64 (n))) 16 (u64 ((Nat.div n 256)))) 0 (u64 ((Nat.div n 256)))) 17 (iN (0))) 18 (i64 (Int.add (Int.ofNat 0) (Int.ofNat 8)))) 2 (i64 (Int.add (Int.ofNat 0) (Int.ofNat 8)))) 19 (i64 (Int.add (Int.ofNat 0) (Int.ofNat 8)))) 20 (u64 ((Nat.div n 256)))) 21 (u8 ((Nat.mod (Nat.div n 256) 256)))) (.index 9 (.const (.string ({
 data :=
 (([0, 1, 2, 2, 3, 3, 3, 3, 4, 4, 4, 4, 4, 4, 4, 4, 5, 5, 5, 5, 5, 5, 5, 5, 5, 5, 5, 5, 5, 5, 5, 5, 6, 6, 6, 6, 6, 6,
 6, 6, 6, 6, 6, 6, 6, 6, 6, 6, 6, 6, 6, 6, 6, 6, 6, 6, 6, 6, 6, 6, 6, 6, 6, 6].append
 [7, 7, 7, 7, 7, 7, 7, 7, 7, 7, 7, 7, 7, 7, 7, 7, 7, 7, 7, 7, 7, 7, 7, 7, 7, 7, 7, 7, 7, 7, 7, 7, 7, 7, 7, 7,
 7, 7, 7, 7, 7, 7, 7, 7, 7, 7, 7, 7, 7, 7, 7, 7, 7, 7, 7, 7, 7, 7, 7, 7, 7, 7, 7, 7]).append
 ([8, 8, 8, 8, 8, 8, 8, 8, 8, 8, 8, 8, 8, 8, 8, 8, 8, 8, 8, 8, 8, 8, 8, 8, 8, 8, 8, 8, 8, 8, 8, 8, 8, 8, 8, 8, 8,
 8, 8, 8, 8, 8, 8, 8, 8, 8, 8, 8, 8, 8, 8, 8, 8, 8, 8, 8, 8, 8, 8, 8, 8, 8, 8, 8].append
 [8, 8, 8, 8, 8, 8, 8, 8, 8, 8, 8, 8, 8, 8, 8, 8, 8, 8, 8, 8, 8, 8, 8, 8, 8, 8, 8, 8, 8, 8, 8, 8, 8, 8, 8, 8,
 8, 8, 8, 8, 8, 8, 8, 8, 8, 8, 8, 8, 8, 8, 8, 8, 8, 8, 8, 8, 8, 8, 8, 8, 8, 8, 8, 8])).toArray }))) (.tmp 21)) fun v19 H20 =>
 AsNat .u8 v19 fun n21 =>
 Must (ltN n21 256) (
 InR (Int.add (Int.add (Int.ofNat 0) (Int.ofNat 8)) (Int.ofNat n21)) (
 K (i64 (Int.add (Int.add (Int.ofNat 0) (Int.ofNat 8)) (Int.ofNat n21))) H20)))) (
 OpN Tryz.prog H (upd (upd (upd (upd (upd s4 13 (u64 (n))) 14 (.bool (leN 256 n))) 19 (iN (0))) 20 (u64 (n))) 21 (u8 ((Nat.mod n 256)))) (.index 9 (.const (.string ({
 data :=
 (([0, 1, 2, 2, 3, 3, 3, 3, 4, 4, 4, 4, 4, 4, 4, 4, 5, 5, 5, 5, 5, 5, 5, 5, 5, 5, 5, 5, 5, 5, 5, 5, 6, 6, 6, 6, 6, 6,
 6, 6, 6, 6, 6, 6, 6, 6, 6, 6, 6, 6, 6, 6, 6, 6, 6, 6, 6, 6, 6, 6, 6, 6, 6, 6].append
 [7, 7, 7, 7, 7, 7, 7, 7, 7, 7, 7, 7, 7, 7, 7, 7, 7, 7, 7, 7, 7, 7, 7, 7, 7, 7, 7, 7, 7, 7, 7, 7, 7, 7, 7, 7,
 7, 7, 7, 7, 7, 7, 7, 7, 7, 7, 7, 7, 7, 7, 7, 7, 7, 7, 7, 7, 7, 7, 7, 7, 7, 7, 7, 7]).append
 ([8, 8, 8, 8, 8, 8, 8, 8, 8, 8, 8, 8, 8, 8, 8, 8, 8, 8, 8, 8, 8, 8, 8, 8, 8, 8, 8, 8, 8, 8, 8, 8, 8, 8, 8, 8, 8,
 8, 8, 8, 8, 8, 8, 8, 8, 8, 8, 8, 8, 8, 8, 8, 8, 8, 8, 8, 8, 8, 8, 8, 8, 8, 8, 8].append
 [8, 8, 8, 8, 8, 8, 8, 8, 8, 8, 8, 8, 8, 8, 8, 8, 8, 8, 8, 8, 8, 8, 8, 8, 8, 8, 8, 8, 8, 8, 8, 8, 8, 8, 8, 8,
 8, 8, 8, 8, 8, 8, 8, 8, 8, 8, 8, 8, 8, 8, 8, 8, 8, 8, 8, 8, 8, 8, 8, 8, 8, 8, 8, 8])).toArray }))) (.tmp 21)) fun v22 H23 =>
 AsNat .u8 v22 fun n24 =>
 Must (ltN n24 256) (
 InR (Int.add (Int.ofNat 0) (Int.ofNat n24)) (
 K (i64 (Int.add (Int.ofNat 0) (Int.ofNat n24))) H23)))))) := by kernel_rfl
end Go.Proofs.YtocphcgcpjcfjaaGreat

/- What some functions' texts ask for, step by step, each checked by the kernel. No conditions. -/
set_option linter.unusedVariables false
set_option maxRecDepth 100000
namespace Go.Proofs.YtocphcgcpjcfjaaGreat
open Go Go.CM
theorem siftT_W (con : CallT) (a : TF) (H : CH) (K : KX) : codeW (takeC 5 (blkC (lpAt Tryz.prog 143 0))) Tryz.prog con a H K =
 (AsInt .i64 (a 8) fun z1 =>
 CInt .mul .i64 (Int.ofNat 2) z1 fun v2 =>
 AsInt .i64 v2 fun z3 =>
 InR (Int.add z3 (Int.ofNat 1)) (
 AsInt .i64 (a 2) fun z4 =>
 Bnd (upd (upd (upd (upd (upd (upd (upd a 11 (a 8)) 12 v2) 13 (i64 (Int.add z3 (Int.ofNat 1)))) 9 (i64 (Int.add z3 (Int.ofNat 1)))) 14 (i64 (Int.add z3 (Int.ofNat 1)))) 15 (a 2)) 16 (.bool (leZ z4 (Int.add z3 (Int.ofNat 1))))) fun s1 =>
Cd (leZ z4 (Int.add z3 (Int.ofNat 1))) (
 K (.exit 0) s1 H) (
 InR (Int.add (Int.add z3 (Int.ofNat 1)) (Int.ofNat 1)) (
 AsInt .i64 (a 2) fun z5 =>
 Bnd (upd (upd (upd (upd (upd s1 17 (i64 (Int.add z3 (Int.ofNat 1)))) 18 (i64 (Int.add (Int.add z3 (Int.ofNat 1)) (Int.ofNat 1)))) 19 (a 2)) 20 (.bool (ltZ (Int.add (Int.add z3 (Int.ofNat 1)) (Int.ofNat 1)) z5))) 21 (.bool (ltZ (Int.add (Int.add z3 (Int.ofNat 1)) (Int.ofNat 1)) z5))) fun s2 =>
Cd (ltZ (Int.add (Int.add z3 (Int.ofNat 1)) (Int.ofNat 1)) z5) (
 AsInt .i64 (a 3) fun z6 =>
 InR (Int.add z6 (Int.add z3 (Int.ofNat 1))) (
 AsSlc (a 0) fun p7 o8 l9 c10 =>
 AsCnt (i64 (Int.add z6 (Int.add z3 (Int.ofNat 1)))) fun n11 =>
 Must (ltN n11 l9) (
 Ld H p7 (Nat.add o8 (Nat.mul n11 1)) fun v12 =>
 AsInt .i64 (a 3) fun z13 =>
 InR (Int.add z13 (Int.add z3 (Int.ofNat 1))) (
 InR (Int.add (Int.add z13 (Int.add z3 (Int.ofNat 1))) (Int.ofNat 1)) (
 AsSlc (a 0) fun p14 o15 l16 c17 =>
 AsCnt (i64 (Int.add (Int.add z13 (Int.add z3 (Int.ofNat 1))) (Int.ofNat 1))) fun n18 =>
 Must (ltN n18 l16) (
 Ld H p14 (Nat.add o15 (Nat.mul n18 1)) fun v19 =>
 Call1 Tryz.prog con 124 [v12, v19] H fun v20 H21 =>
 AsBool v20 fun b22 =>
 Bnd (upd (upd (upd (upd (upd (upd (upd (upd (upd (upd (upd (upd (upd (upd (upd (upd (upd (upd (upd (upd (upd (upd (upd (upd (upd (upd (upd (upd (upd s2 21 (.bool true)) 22 (a 0)) 21 (.bool true)) 23 (a 3)) 21 (.bool true)) 24 (i64 (Int.add z3 (Int.ofNat 1)))) 21 (.bool true)) 25 (i64 (Int.add z6 (Int.add z3 (Int.ofNat 1))))) 21 (.bool true)) 26 (ptr p7 (Nat.add o8 (Nat.mul n11 1)))) 21 (.bool true)) 27 v12) 21 (.bool true)) 28 (a 0)) 21 (.bool true)) 29 (a 3)) 21 (.bool true)) 30 (i64 (Int.add z3 (Int.ofNat 1)))) 21 (.bool true)) 31 (i64 (Int.add z13 (Int.add z3 (Int.ofNat 1))))) 21 (.bool true)) 32 (i64 (Int.add (Int.add z13 (Int.add z3 (Int.ofNat 1))) (Int.ofNat 1)))) 21 (.bool true)) 33 (ptr p14 (Nat.add o15 (Nat.mul n18 1)))) 21 (.bool true)) 34 v19) 21 (.bool true)) 35 v20) 36 v20) fun s3 =>
Cd b22 (
 InR (Int.add (Int.add z3 (Int.ofNat 1)) (Int.ofNat 1)) (
 K .normal (upd (upd (upd s3 37 (i64 (Int.add z3 (Int.ofNat 1)))) 38 (i64 (Int.add (Int.add z3 (Int.ofNat 1)) (Int.ofNat 1)))) 9 (i64 (Int.add (Int.add z3 (Int.ofNat 1)) (Int.ofNat 1)))) H21)) (
 K .normal s3 H21))))))) (
 K .normal (upd (Rz false 21 s2 22 14) 36 (.bool false)) H))))) := by kernel_rfl
theorem siftD_W (con : CallT) (a : TF) (H : CH) (K : KX) : codeW (dropC 5 (blkC (lpAt Tryz.prog 143 0))) Tryz.prog con a H K =
 (AsInt .i64 (a 3) fun z1 =>
 AsInt .i64 (a 8) fun z2 =>
 InR (Int.add z1 z2) (
 AsSlc (a 0) fun p3 o4 l5 c6 =>
 AsCnt (i64 (Int.add z1 z2)) fun n7 =>
 Must (ltN n7 l5) (
 Ld H p3 (Nat.add o4 (Nat.mul n7 1)) fun v8 =>
 AsInt .i64 (a 3) fun z9 =>
 AsInt .i64 (a 9) fun z10 =>
 InR (Int.add z9 z10) (
 AsSlc (a 0) fun p11 o12 l13 c14 =>
 AsCnt (i64 (Int.add z9 z10)) fun n15 =>
 Must (ltN n15 l13) (
 Ld H p11 (Nat.add o12 (Nat.mul n15 1)) fun v16 =>
 Call1 Tryz.prog con 124 [v8, v16] H fun v17 H18 =>
 AsBool v17 fun b19 =>
 Cd (notB b19) (
 K .ret (upd (upd (upd (upd (upd (upd (upd (upd (upd (upd (upd (upd (upd (upd a 39 (a 0)) 40 (a 3)) 41 (a 8)) 42 (i64 (Int.add z1 z2))) 43 (ptr p3 (Nat.add o4 (Nat.mul n7 1)))) 44 v8) 45 (a 0)) 46 (a 3)) 47 (a 9)) 48 (i64 (Int.add z9 z10))) 49 (ptr p11 (Nat.add o12 (Nat.mul n15 1)))) 50 v16) 51 v17) 52 (.bool (notB b19))) H18) (
 AsInt .i64 (a 3) fun z20 =>
 AsInt .i64 (a 8) fun z21 =>
 InR (Int.add z20 z21) (
 AsInt .i64 (a 3) fun z22 =>
 AsInt .i64 (a 9) fun z23 =>
 InR (Int.add z22 z23) (
 AsInt .i64 (a 3) fun z24 =>
 AsInt .i64 (a 9) fun z25 =>
 InR (Int.add z24 z25) (
 AsSlc (a 0) fun p26 o27 l28 c29 =>
 AsCnt (i64 (Int.add z24 z25)) fun n30 =>
 Must (ltN n30 l28) (
 Ld H18 p26 (Nat.add o27 (Nat.mul n30 1)) fun v31 =>
 AsInt .i64 (a 3) fun z32 =>
 AsInt .i64 (a 8) fun z33 =>
 InR (Int.add z32 z33) (
 AsSlc (a 0) fun p34 o35 l36 c37 =>
 AsCnt (i64 (Int.add z32 z33)) fun n38 =>
 Must (ltN n38 l36) (
 Ld H18 p34 (Nat.add o35 (Nat.mul n38 1)) fun v39 =>
 AsSlc (a 0) fun p40 o41 l42 c43 =>
 AsCnt (i64 (Int.add z20 z21)) fun n44 =>
 Must (ltN n44 l42) (
 Sc v31 (St H18 p40 (Nat.add o41 (Nat.mul n44 1)) [v31] fun H45 =>
 AsSlc (a 0) fun p46 o47 l48 c49 =>
 AsCnt (i64 (Int.add z22 z23)) fun n50 =>
 Must (ltN n50 l48) (
 Sc v39 (St H45 p46 (Nat.add o47 (Nat.mul n50 1)) [v39] fun H51 =>
 K .normal (upd (upd (upd (upd (upd (upd (upd (upd (upd (upd (upd (upd (upd (upd (upd (upd (upd (upd (upd (upd (upd (upd (upd (upd (upd (upd (upd (upd (upd (upd (upd (upd (upd (upd (upd (upd (upd (upd a 39 (a 0)) 40 (a 3)) 41 (a 8)) 42 (i64 (Int.add z1 z2))) 43 (ptr p3 (Nat.add o4 (Nat.mul n7 1)))) 44 v8) 45 (a 0)) 46 (a 3)) 47 (a 9)) 48 (i64 (Int.add z9 z10))) 49 (ptr p11 (Nat.add o12 (Nat.mul n15 1)))) 50 v16) 51 v17) 52 (.bool (notB b19))) 53 (a 0)) 54 (a 3)) 55 (a 8)) 56 (i64 (Int.add z20 z21))) 57 (a 0)) 58 (a 3)) 59 (a 9)) 60 (i64 (Int.add z22 z23))) 61 (a 0)) 62 (a 3)) 63 (a 9)) 64 (i64 (Int.add z24 z25))) 65 (ptr p26 (Nat.add o27 (Nat.mul n30 1)))) 66 v31) 67 (a 0)) 68 (a 3)) 69 (a 8)) 70 (i64 (Int.add z32 z33))) 71 (ptr p34 (Nat.add o35 (Nat.mul n38 1)))) 72 v39) 73 (ptr p40 (Nat.add o41 (Nat.mul n44 1)))) 74 (ptr p46 (Nat.add o47 (Nat.mul n50 1)))) 75 (a 9)) 8 (a 9)) H51)))))))))))))))) := by kernel_rfl
end Go.Proofs.YtocphcgcpjcfjaaGreat

/- What some functions' texts ask for, step by step, each checked by the kernel. No conditions. -/
set_option linter.unusedVariables false
set_option maxRecDepth 100000
namespace Go.Proofs.YtocphcgcpjcfjaaGreat
open Go Go.CM
end Go.Proofs.YtocphcgcpjcfjaaGreat

