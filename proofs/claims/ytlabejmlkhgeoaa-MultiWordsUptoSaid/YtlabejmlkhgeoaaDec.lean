/- What some functions' texts ask for, step by step, each checked by the kernel. No conditions. -/
import Derived.Test.YtlabejmlkhgeoaaProg
import Derived.Test.YtlabejmlkhgeoaaCmE
set_option linter.unusedVariables false
set_option linter.unusedSimpArgs false

/- What some functions' texts ask for, step by step, each checked by the kernel. No conditions. -/
set_option linter.unusedVariables false
set_option maxRecDepth 100000
namespace Go.Proofs.Ytlabejmlkhgeoaa
open Go Go.CM
theorem arenaNew_W (con : CallT) (z : Int) (b : Bool) (H : CH) (K : KP) : funW Try.prog con 7 [i64 z, .bool b] H K =
 (Cd (ltZ z (Int.ofNat 128)) (
 K (.tuple ⟨[(.pointer none), (iN (2))]⟩) H) (
 Cd (ltZ (Int.ofNat 4194304) z) (
 K (.tuple ⟨[(.pointer none), (iN (2))]⟩) H) (
 Cd b (
 MkS Try.prog H 60 (i64 z) (i64 z) fun v1 H2 =>
 Sc v1 (Nw H2 (mkRow 67 0 [v1, (iN (0))]) fun p3 H4 =>
 Call1 Try.prog con 28 [(ptr p3 1), (iN (1))] H4 fun v5 H6 =>
 Nw H6 (mkRow 73 0 [(.iface 59 (ptr p3 0)), (.bool true), (snil)]) fun p7 H8 =>
 K (.tuple ⟨[(ptr p7 0), (iN (0))]⟩) H8)) (
 MkS Try.prog H 23 (i64 z) (i64 z) fun v9 H10 =>
 Sc v9 (Nw H10 (mkRow 76 0 [v9, (iN (1))]) fun p11 H12 =>
 Nw H12 (mkRow 73 0 [(.iface 74 (ptr p11 0)), (.bool false), (snil)]) fun p13 H14 =>
 K (.tuple ⟨[(ptr p13 0), (iN (0))]⟩) H14))))) := by kernel_rfl
theorem memView_W (con : CallT) (m : Nat) (z : Int) (H : CH) (K : KP) : funW Try.prog con 11 [ptr m 0, i64 z] H K =
 (Nw H (mkRow 81 0 [(ptr m 0), (i64 z), (iN (0))]) fun p1 H2 =>
 K (ptr p1 0) H2) := by kernel_rfl
theorem memPeek_W (con : CallT) (m a : Nat) (H : CH) (K : KP) : funW Try.prog con 31 [ptr m 0, u64 (a)] H K =
 (Call1 Try.prog con 45 [(ptr m 0), (u64 (a))] H fun v1 H2 =>
 AsBool v1 fun b3 =>
 Cd (notB b3) (
 K (u64 (0)) H2) (
 Ld H2 m 0 fun v4 =>
 Mth Try.prog con v4 "shutter/arena.load" [(u64 (a))] H2 fun v5 H6 =>
 K v5 H6)) := by kernel_rfl
theorem memHas_W (con : CallT) (m a : Nat) (H : CH) (K : KP) : funW Try.prog con 45 [ptr m 0, u64 (a)] H K =
 (Ld H m 0 fun v1 =>
 Mth Try.prog con v1 "shutter/arena.size" [] H fun v2 H3 =>
 AsInt .i64 v2 fun z4 =>
 Must (cvOk .i64 z4) (
 K (.bool (ltN a (wrapN .u64 z4))) H3)) := by kernel_rfl
theorem viewNote_W (con : CallT) (p : Nat) (c0 c1 c2 c3 c4 c5 c6 c7 : Value) (H : CH) (K : KP) : funW Try.prog con 42 [ptr p 0, .agg ⟨[c0, c1, c2, c3, c4, c5, c6, c7]⟩] H K =
 (Nw H (mkRow 105 0 [c0, c1, c2, c3, c4, c5, c6, c7]) fun p1 H2 =>
 Ld H2 p 2 fun v3 =>
 AsInt .i64 v3 fun z4 =>
 InR (Int.add z4 (Int.ofNat 1)) (
 St H2 p 2 [(i64 (Int.add z4 (Int.ofNat 1)))] fun H5 =>
 Ld H5 p 0 fun v6 =>
 NotNil Try.prog v6 (
 AsPtr v6 fun p7 o8 =>
 Ld H5 p7 (Nat.add o8 1) fun v9 =>
 AsBool v9 fun b10 =>
 Cd (notB b10) (
 Ld H5 p 1 fun v11 =>
 Sc v11 (St H5 p1 0 [v11] fun H12 =>
 Ld H12 p 0 fun v13 =>
 Ld H12 p 0 fun v14 =>
 NotNil Try.prog v14 (
 AsPtr v14 fun p15 o16 =>
 Ld H12 p15 (Nat.add o16 2) fun v17 =>
 Ld H12 p1 0 fun v18 =>
 Ld H12 p1 1 fun v19 =>
 Ld H12 p1 2 fun v20 =>
 Ld H12 p1 3 fun v21 =>
 Ld H12 p1 4 fun v22 =>
 Ld H12 p1 5 fun v23 =>
 Ld H12 p1 6 fun v24 =>
 Ld H12 p1 7 fun v25 =>
 Nw H12 (mkRow 105 0 [v18, v19, v20, v21, v22, v23, v24, v25]) fun p26 H27 =>
 App Try.prog 71 71 H27 v17 (.slice (some ⟨p26, 0, none⟩) 1 1) fun v28 H29 =>
 NotNil Try.prog v13 (
 AsPtr v13 fun p30 o31 =>
 Sc v28 (St H29 p30 (Nat.add o31 2) [v28] fun H32 =>
 Ld H12 p15 (Nat.add o16 2) fun v33 =>
 Same v17 v33 (
 Ld H27 p15 (Nat.add o16 2) fun v34 =>
 Same v17 v34 (
 Ld H12 p 0 fun v35 =>
 Same v14 v35 (
 Ld H27 p 0 fun v36 =>
 Same v14 v36 (
 Ld H12 p 0 fun v37 =>
 Same v13 v37 (
 Ld H27 p 0 fun v38 =>
 Same v13 v38 (
 Ld H29 p 0 fun v39 =>
 Same v13 v39 (
 K unit H32)))))))))))) (
 K unit H5)))) := by kernel_rfl
theorem viewAlloc_W (con : CallT) (p : Nat) (v : Value) (H : CH) (K : KP) : funW Try.prog con 29 [ptr p 0, v] H K =
 (AsLen v fun l1 =>
 Cd (ltZ (Int.ofNat 0) (Int.ofNat l1)) (
 Ld H p 0 fun v2 =>
 NotNil Try.prog v2 (
 AsPtr v2 fun p3 o4 =>
 Ld H p3 (Nat.add o4 0) fun v5 =>
 Mth Try.prog con v5 "shutter/arena.alloc" [v] H fun v6 H7 =>
 Call1 Try.prog con 40 [v] H7 fun v8 H9 =>
 Sc v6 (Sc v8 (Call1 Try.prog con 42 [(ptr p 0), (.agg ⟨[(iN (0)), (u8 (5)), v6, (u64 (0)), (u64 (0)), v8, (u64 (0)), (.bool false)]⟩)] H9 fun v10 H11 =>
 K v6 H11)))) (
 Call1 Try.prog con 40 [v] H fun v12 H13 =>
 Sc v12 (Call1 Try.prog con 42 [(ptr p 0), (.agg ⟨[(iN (0)), (u8 (5)), (u64 (0)), (u64 (0)), (u64 (0)), v12, (u64 (0)), (.bool false)]⟩)] H13 fun v14 H15 =>
 K (u64 (0)) H15))) := by kernel_rfl
theorem plainAlloc_W (con : CallT) (p : Nat) (v : Value) (H : CH) (K : KP) : funW Try.prog con 86 [ptr p 0, v] H K =
 (AsLen v fun l1 =>
 Ld H p 0 fun v2 =>
 AsLen v2 fun l3 =>
 Ld H p 1 fun v4 =>
 AsInt .i64 v4 fun z5 =>
 InR (Int.sub (Int.ofNat l3) z5) (
 Cd (ltZ (Int.sub (Int.ofNat l3) z5) (Int.ofNat l1)) (
 K (u64 (0)) H) (
 Ld H p 1 fun v6 =>
 Ld H p 1 fun v7 =>
 Ld H p 0 fun v8 =>
 Slc Try.prog H 23 v8 (some v6) none none fun v9 =>
 Cpy Try.prog 23 H v9 v fun v10 H11 =>
 AsInt .i64 v7 fun z12 =>
 AsInt .i64 v10 fun z13 =>
 InR (Int.add z12 z13) (
 St H11 p 1 [(i64 (Int.add z12 z13))] fun H14 =>
 Ld H p 1 fun v15 =>
 Same v7 v15 (
 Ld H11 p 1 fun v16 =>
 Same v7 v16 (
 AsInt .i64 v6 fun z17 =>
 Must (cvOk .i64 z17) (
 K (u64 ((wrapN .u64 z17))) H14))))))) := by kernel_rfl
theorem plainLoad_W (con : CallT) (p a : Nat) (H : CH) (K : KP) : funW Try.prog con 89 [ptr p 0, u64 (a)] H K =
 (Ld H p 0 fun v1 =>
 AsSlc v1 fun p2 o3 l4 c5 =>
 Must (ltN a l4) (
 Ld H p2 (Nat.add o3 (Nat.mul a 1)) fun v6 =>
 K v6 H)) := by kernel_rfl
theorem plainSize_W (con : CallT) (p : Nat) (H : CH) (K : KP) : funW Try.prog con 91 [ptr p 0] H K =
 (Ld H p 0 fun v1 =>
 AsLen v1 fun l2 =>
 K (iN (l2)) H) := by kernel_rfl
theorem cloneN_W (con : CallT) (v : Value) (H : CH) (K : KP) : funW Try.prog con 40 [v] H K =
 (IsNil .slc v fun b1 =>
 Cd b1 (
 K (snil) H) (
 Nw H (mkRow 22 0 []) fun p2 H3 =>
 App Try.prog 23 23 H3 (.slice (some ⟨p2, 0, none⟩) 0 0) v fun v4 H5 =>
 K v4 H5)) := by kernel_rfl
theorem refNew_W (con : CallT) (z : Int) (b : Bool) (H : CH) (K : KP) : funW Try.prog con 8 [i64 z, .bool b] H K =
 (Cd (ltZ z (Int.ofNat 128)) (
 K (.tuple ⟨[(.pointer none), (iN (2))]⟩) H) (
 Cd (ltZ (Int.ofNat 4194304) z) (
 K (.tuple ⟨[(.pointer none), (iN (2))]⟩) H) (
 MkS Try.prog H 23 (i64 z) (i64 z) fun v1 H2 =>
 Sc v1 (Nw H2 (mkRow 78 0 [v1, (iN (1)), (snil), (.bool b)]) fun p3 H4 =>
 K (.tuple ⟨[(ptr p3 0), (iN (0))]⟩) H4)))) := by kernel_rfl
theorem refPeek_W (con : CallT) (p a : Nat) (H : CH) (K : KP) : funW Try.prog con 32 [ptr p 0, u64 (a)] H K =
 (Ld H p 0 fun v1 =>
 AsLen v1 fun l2 =>
 Must (cvOk .i64 (Int.ofNat l2)) (
 Cd (leN (wrapN .u64 (Int.ofNat l2)) a) (
 K (u64 (0)) H) (
 Ld H p 0 fun v3 =>
 AsSlc v3 fun p4 o5 l6 c7 =>
 Must (ltN a l6) (
 Ld H p4 (Nat.add o5 (Nat.mul a 1)) fun v8 =>
 K v8 H)))) := by kernel_rfl
theorem refNote_W (con : CallT) (p : Nat) (c0 c1 c2 c3 c4 c5 c6 c7 : Value) (H : CH) (K : KP) : funW Try.prog con 44 [ptr p 0, .agg ⟨[c0, c1, c2, c3, c4, c5, c6, c7]⟩] H K =
 (Nw H (mkRow 105 0 [c0, c1, c2, c3, c4, c5, c6, c7]) fun p1 H2 =>
 Ld H2 p 3 fun v3 =>
 AsBool v3 fun b4 =>
 Cd (notB b4) (
 Ld H2 p 2 fun v5 =>
 Ld H2 p1 0 fun v6 =>
 Ld H2 p1 1 fun v7 =>
 Ld H2 p1 2 fun v8 =>
 Ld H2 p1 3 fun v9 =>
 Ld H2 p1 4 fun v10 =>
 Ld H2 p1 5 fun v11 =>
 Ld H2 p1 6 fun v12 =>
 Ld H2 p1 7 fun v13 =>
 Nw H2 (mkRow 105 0 [v6, v7, v8, v9, v10, v11, v12, v13]) fun p14 H15 =>
 App Try.prog 71 71 H15 v5 (.slice (some ⟨p14, 0, none⟩) 1 1) fun v16 H17 =>
 Sc v16 (St H17 p 2 [v16] fun H18 =>
 Ld H2 p 2 fun v19 =>
 Same v5 v19 (
 Ld H15 p 2 fun v20 =>
 Same v5 v20 (
 K unit H18)))) (
 K unit H2)) := by kernel_rfl
theorem refAlloc_W (con : CallT) (p : Nat) (t : Int) (v : Value) (H : CH) (K : KP) : funW Try.prog con 30 [ptr p 0, i64 t, v] H K =
 (AsLen v fun l1 =>
 Cd (ltZ (Int.ofNat 0) (Int.ofNat l1)) (
 AsLen v fun l2 =>
 Call1 Try.prog con 43 [(ptr p 0)] H fun v3 H4 =>
 AsInt .i64 v3 fun z5 =>
 Cd (leZ (Int.ofNat l2) z5) (
 Ld H4 p 1 fun v6 =>
 Ld H4 p 1 fun v7 =>
 AsLen v fun l8 =>
 AsInt .i64 v7 fun z9 =>
 InR (Int.add z9 (Int.ofNat l8)) (
 St H4 p 1 [(i64 (Int.add z9 (Int.ofNat l8)))] fun H10 =>
 LoopC Try.prog con (lpAt Try.prog 30 0) (upd (upd (upd (upd (upd (upd (upd (upd (upd (upd (upd (upd (upd (upd (upd (upd (upd (upd (upd (upd (upd (upd (upd (upd (upd (upd (upd (upd (upd (upd (upd (upd (upd (upd (upd (upd (upd (fun _ => undV) 2 v) 1 (i64 t)) 0 (ptr p 0)) 6 (u64 (0))) 10 (ptr p 0)) 11 (.bool false)) 7 (iN (0))) 12 v) 13 (iN (l1))) 14 (.bool (ltZ (Int.ofNat 0) (Int.ofNat l1)))) 15 (.bool (ltZ (Int.ofNat 0) (Int.ofNat l1)))) 15 (.bool true)) 16 v) 15 (.bool true)) 17 (iN (l2))) 15 (.bool true)) 18 (ptr p 0)) 15 (.bool true)) 19 v3) 15 (.bool true)) 20 (.bool (leZ (Int.ofNat l2) z5))) 21 (.bool (leZ (Int.ofNat l2) z5))) 22 (ptr p 0)) 23 (ptr p 0)) 24 (ptr p 1)) 25 v6) 7 v6) 26 (ptr p 0)) 27 (ptr p 0)) 28 (ptr p 1)) 29 v7) 30 v) 31 (iN (l8))) 32 (i64 (Int.add z9 (Int.ofNat l8)))) 33 (ptr p 0)) 34 (ptr p 1)) 8 (iN (0))) H10 (fun e => ceP e
 (fun a11 H12 =>
 App Try.prog 23 23 H12 (snil) (a11 2) fun v14 H15 =>
 AsInt .i64 (a11 7) fun z16 =>
 Must (cvOk .i64 z16) (
 Sc (a11 1) (Sc v14 (Call1 Try.prog con 44 [(a11 0), (.agg ⟨[(a11 1), (u8 (5)), (u64 ((wrapN .u64 z16))), (u64 (0)), (u64 (0)), v14, (u64 (0)), (.bool false)]⟩)] H15 fun v17 H18 =>
 AsInt .i64 (a11 7) fun z19 =>
 Must (cvOk .i64 z19) (
 K (u64 ((wrapN .u64 z19))) H18)))))
 (fun i13 => fun a11 H12 =>
 Cd (eqN i13 0) (
 App Try.prog 23 23 H12 (snil) (a11 2) fun v20 H21 =>
 AsInt .i64 (a11 7) fun z22 =>
 Must (cvOk .i64 z22) (
 Sc (a11 1) (Sc v20 (Call1 Try.prog con 44 [(a11 0), (.agg ⟨[(a11 1), (u8 (5)), (u64 ((wrapN .u64 z22))), (u64 (0)), (u64 (0)), v20, (u64 (0)), (.bool false)]⟩)] H21 fun v23 H24 =>
 AsInt .i64 (a11 7) fun z25 =>
 Must (cvOk .i64 z25) (
 K (u64 ((wrapN .u64 z25))) H24))))) (
 False))
 (fun a11 H12 =>
 K (a11 6) H12)))) (
 App Try.prog 23 23 H4 (snil) v fun v26 H27 =>
 Must (cvOk .i64 (Int.ofNat 0)) (
 Sc v26 (Call1 Try.prog con 44 [(ptr p 0), (.agg ⟨[(i64 t), (u8 (5)), (u64 ((wrapN .u64 (Int.ofNat 0)))), (u64 (0)), (u64 (0)), v26, (u64 (0)), (.bool false)]⟩)] H27 fun v28 H29 =>
 Must (cvOk .i64 (Int.ofNat 0)) (
 K (u64 ((wrapN .u64 (Int.ofNat 0)))) H29))))) (
 App Try.prog 23 23 H (snil) v fun v30 H31 =>
 Must (cvOk .i64 (Int.ofNat 0)) (
 Sc v30 (Call1 Try.prog con 44 [(ptr p 0), (.agg ⟨[(i64 t), (u8 (5)), (u64 ((wrapN .u64 (Int.ofNat 0)))), (u64 (0)), (u64 (0)), v30, (u64 (0)), (.bool false)]⟩)] H31 fun v32 H33 =>
 Must (cvOk .i64 (Int.ofNat 0)) (
 K (u64 ((wrapN .u64 (Int.ofNat 0)))) H33))))) := by kernel_rfl
theorem refLeft_W (con : CallT) (p : Nat) (H : CH) (K : KP) : funW Try.prog con 43 [ptr p 0] H K =
 (Ld H p 0 fun v1 =>
 AsLen v1 fun l2 =>
 Ld H p 1 fun v3 =>
 AsInt .i64 v3 fun z4 =>
 InR (Int.sub (Int.ofNat l2) z4) (
 K (i64 (Int.sub (Int.ofNat l2) z4)) H)) := by kernel_rfl
end Go.Proofs.Ytlabejmlkhgeoaa

/- What some functions' texts ask for, step by step, each checked by the kernel. No conditions. -/
set_option linter.unusedVariables false
set_option maxRecDepth 100000
namespace Go.Proofs.Ytlabejmlkhgeoaa
open Go Go.CM
theorem refAllocL_W (con : CallT) (a : TF) (H : CH) (K : KX) : codeW (lpAt Try.prog 30 0) Try.prog con a H K =
 (AsLen (a 2) fun l1 =>
 AsInt .i64 (a 8) fun z2 =>
 Cd (ltZ z2 (Int.ofNat l1)) (
 NotNil Try.prog (a 0) (
 AsPtr (a 0) fun p3 o4 =>
 Ld H p3 (Nat.add o4 0) fun v5 =>
 AsInt .i64 (a 7) fun z6 =>
 AsInt .i64 (a 8) fun z7 =>
 InR (Int.add z6 z7) (
 AsSlc (a 2) fun p8 o9 l10 c11 =>
 AsCnt (a 8) fun n12 =>
 Must (ltN n12 l10) (
 Ld H p8 (Nat.add o9 (Nat.mul n12 1)) fun v13 =>
 AsSlc v5 fun p14 o15 l16 c17 =>
 AsCnt (i64 (Int.add z6 z7)) fun n18 =>
 Must (ltN n18 l16) (
 Sc v13 (St H p14 (Nat.add o15 (Nat.mul n18 1)) [v13] fun H19 =>
 AsInt .i64 (a 8) fun z20 =>
 InR (Int.add z20 (Int.ofNat 1)) (
 K .normal (upd (upd (upd (upd (upd (upd (upd (upd (upd (upd (upd (upd (upd (upd (upd (upd (upd (upd (upd a 35 (a 8)) 36 (a 2)) 37 (iN (l1))) 38 (.bool (ltZ z2 (Int.ofNat l1)))) 41 (a 0)) 42 (a 0)) 43 (ptr p3 (Nat.add o4 0))) 44 v5) 45 (a 7)) 46 (a 8)) 47 (i64 (Int.add z6 z7))) 48 (a 2)) 49 (a 8)) 50 (ptr p8 (Nat.add o9 (Nat.mul n12 1)))) 51 v13) 52 (ptr p14 (Nat.add o15 (Nat.mul n18 1)))) 39 (a 8)) 40 (i64 (Int.add z20 (Int.ofNat 1)))) 8 (i64 (Int.add z20 (Int.ofNat 1)))) H19))))))) (
 K (.exit 0) (upd (upd (upd (upd a 35 (a 8)) 36 (a 2)) 37 (iN (l1))) 38 (.bool (ltZ z2 (Int.ofNat l1)))) H)) := by kernel_rfl
end Go.Proofs.Ytlabejmlkhgeoaa

/- What some functions' texts ask for, step by step, each checked by the kernel. No conditions. -/
set_option linter.unusedVariables false
set_option maxRecDepth 100000
namespace Go.Proofs.Ytlabejmlkhgeoaa
open Go Go.CM
end Go.Proofs.Ytlabejmlkhgeoaa

/- What some functions' texts ask for, step by step, each checked by the kernel. No conditions. -/
set_option linter.unusedVariables false
set_option maxRecDepth 100000
namespace Go.Proofs.Ytlabejmlkhgeoaa
open Go Go.CM
theorem sameU_W (con : CallT) (v w : Value) (H : CH) (K : KP) : funW Try.prog con 16 [v, w] H K =
 (AsLen v fun l1 =>
 AsLen w fun l2 =>
 Cd (notB (eqZ (Int.ofNat l1) (Int.ofNat l2))) (
 K (.bool false) H) (
 LoopC Try.prog con (lpAt Try.prog 16 0) (upd (upd (upd (upd (upd (upd (upd (upd (upd (fun _ => undV) 1 w) 0 v) 4 (.bool false)) 6 v) 7 (iN (l1))) 8 w) 9 (iN (l2))) 10 (.bool (notB (eqZ (Int.ofNat l1) (Int.ofNat l2))))) 5 (iN (0))) H (fun e => ceP e
 (fun a3 H4 =>
 K (.bool true) H4)
 (fun i5 => fun a3 H4 =>
 Cd (eqN i5 0) (
 K (.bool true) H4) (
 False))
 (fun a3 H4 =>
 K (a3 4) H4)))) := by kernel_rfl
theorem sameUL_W (con : CallT) (a : TF) (H : CH) (K : KX) : codeW (lpAt Try.prog 16 0) Try.prog con a H K =
 (AsLen (a 0) fun l1 =>
 AsInt .i64 (a 5) fun z2 =>
 Cd (ltZ z2 (Int.ofNat l1)) (
 AsSlc (a 0) fun p3 o4 l5 c6 =>
 AsCnt (a 5) fun n7 =>
 Must (ltN n7 l5) (
 Ld H p3 (Nat.add o4 (Nat.mul n7 1)) fun v8 =>
 AsSlc (a 1) fun p9 o10 l11 c12 =>
 AsCnt (a 5) fun n13 =>
 Must (ltN n13 l11) (
 Ld H p9 (Nat.add o10 (Nat.mul n13 1)) fun v14 =>
 AsNat .u64 v8 fun n15 =>
 AsNat .u64 v14 fun n16 =>
 Cd (notB (eqN n15 n16)) (
 K .ret (upd (upd (upd (upd (upd (upd (upd (upd (upd (upd (upd (upd (upd (upd a 11 (a 5)) 12 (a 0)) 13 (iN (l1))) 14 (.bool (ltZ z2 (Int.ofNat l1)))) 17 (a 0)) 18 (a 5)) 19 (ptr p3 (Nat.add o4 (Nat.mul n7 1)))) 20 v8) 21 (a 1)) 22 (a 5)) 23 (ptr p9 (Nat.add o10 (Nat.mul n13 1)))) 24 v14) 25 (.bool (notB (eqN n15 n16)))) 4 (.bool false)) H) (
 AsInt .i64 (a 5) fun z17 =>
 InR (Int.add z17 (Int.ofNat 1)) (
 K .normal (upd (upd (upd (upd (upd (upd (upd (upd (upd (upd (upd (upd (upd (upd (upd (upd a 11 (a 5)) 12 (a 0)) 13 (iN (l1))) 14 (.bool (ltZ z2 (Int.ofNat l1)))) 17 (a 0)) 18 (a 5)) 19 (ptr p3 (Nat.add o4 (Nat.mul n7 1)))) 20 v8) 21 (a 1)) 22 (a 5)) 23 (ptr p9 (Nat.add o10 (Nat.mul n13 1)))) 24 v14) 25 (.bool (notB (eqN n15 n16)))) 15 (a 5)) 16 (i64 (Int.add z17 (Int.ofNat 1)))) 5 (i64 (Int.add z17 (Int.ofNat 1)))) H))))) (
 K (.exit 0) (upd (upd (upd (upd a 11 (a 5)) 12 (a 0)) 13 (iN (l1))) 14 (.bool (ltZ z2 (Int.ofNat l1)))) H)) := by kernel_rfl
end Go.Proofs.Ytlabejmlkhgeoaa

/- What some functions' texts ask for, step by step, each checked by the kernel. No conditions. -/
set_option linter.unusedVariables false
set_option maxRecDepth 100000
namespace Go.Proofs.Ytlabejmlkhgeoaa
open Go Go.CM
theorem mWord_W (con : CallT) (x : Nat) (H : CH) (K : KP) : funW Try.prog con 5 [u64 x] H K =
 (Cd (leN 4611686018427387904 x) (
 K (.tuple ⟨[(u64 (0)), (iN (2))]⟩) H) (
 K (.tuple ⟨[(u64 ((Nat.mod (Nat.mul 4 x) 18446744073709551616))), (iN (0))]⟩) H)) := by kernel_rfl
theorem rWord29_W (con : CallT) (x : Nat) (H : CH) (K : KP) : funW Try.prog con 6 [u64 x] H K =
 (Cd (leN 4611686018427387904 x) (
 K (.tuple ⟨[(u64 (0)), (iN (2))]⟩) H) (
 K (.tuple ⟨[(u64 ((Nat.mod (Nat.mul 4 x) 18446744073709551616))), (iN (0))]⟩) H)) := by kernel_rfl
theorem mMake_W (con : CallT) (p : Nat) (v : Value) (H : CH) (K : KP) : funW Try.prog con 10 [ptr p 0, v] H K =
 (AsLen v fun l1 =>
 LoopC Try.prog con (lpAt Try.prog 10 0) (upd (upd (upd (upd (upd (upd (upd (upd (upd (upd (fun _ => undV) 1 v) 0 (ptr p 0)) 4 (u64 (0))) 5 (iN (0))) 12 (ptr p 0)) 13 (.bool false)) 6 (snil)) 14 v) 15 (iN (l1))) 16 (iN (0))) H (fun e => ceP e
 (fun a2 H3 =>
 Call1 Try.prog con 29 [(a2 0), (a2 6)] H3 fun v5 H6 =>
 AsNat .u64 v5 fun n7 =>
 Cd (eqN n7 0) (
 K (.tuple ⟨[(u64 (0)), (iN (30))]⟩) H6) (
 K (.tuple ⟨[v5, (iN (0))]⟩) H6))
 (fun i4 => fun a2 H3 =>
 Cd (eqN i4 0) (
 Call1 Try.prog con 29 [(a2 0), (a2 6)] H3 fun v8 H9 =>
 AsNat .u64 v8 fun n10 =>
 Cd (eqN n10 0) (
 K (.tuple ⟨[(u64 (0)), (iN (30))]⟩) H9) (
 K (.tuple ⟨[v8, (iN (0))]⟩) H9)) (
 False))
 (fun a2 H3 =>
 K (.tuple ⟨[(a2 4), (a2 5)]⟩) H3))) := by kernel_rfl
theorem mMakeL_W (con : CallT) (a : TF) (H : CH) (K : KX) : codeW (lpAt Try.prog 10 0) Try.prog con a H K =
 (AsInt .i64 (a 16) fun z1 =>
 AsInt .i64 (a 15) fun z2 =>
 Cd (ltZ z1 z2) (
 AsSlc (a 14) fun p3 o4 l5 c6 =>
 AsCnt (a 16) fun n7 =>
 Must (ltN n7 l5) (
 Ld H p3 (Nat.add o4 (Nat.mul n7 1)) fun v8 =>
 Call1 Try.prog con 5 [v8] H fun v9 H10 =>
 AsTup v9 fun l11 =>
 Nth l11 0 fun v12 =>
 AsTup v9 fun l13 =>
 Nth l13 1 fun v14 =>
 AsInt .i64 v14 fun z15 =>
 Cd (notB (eqZ z15 (Int.ofNat 0))) (
 K .ret (upd (upd (upd (upd (upd (upd (upd (upd (upd (upd (upd (upd (upd (upd (upd (upd a 17 (.bool (ltZ z1 z2))) 18 (ptr p3 (Nat.add o4 (Nat.mul n7 1)))) 19 v8) 8 v8) 21 v8) 22 v9) 20 v9) 23 v12) 24 v14) 9 v12) 10 v14) 25 v14) 26 (.bool (notB (eqZ z15 (Int.ofNat 0))))) 27 v14) 4 (u64 (0))) 5 v14) H10) (
 Sc v12 (Nw H10 (mkRow 22 0 [v12]) fun p16 H17 =>
 App Try.prog 23 23 H17 (a 6) (.slice (some ⟨p16, 0, none⟩) 1 1) fun v18 H19 =>
 AsInt .i64 (a 16) fun z20 =>
 InR (Int.add z20 (Int.ofNat 1)) (
 K .normal (upd (upd (upd (upd (upd (upd (upd (upd (upd (upd (upd (upd (upd (upd (upd (upd (upd (upd (upd (upd a 17 (.bool (ltZ z1 z2))) 18 (ptr p3 (Nat.add o4 (Nat.mul n7 1)))) 19 v8) 8 v8) 21 v8) 22 v9) 20 v9) 23 v12) 24 v14) 9 v12) 10 v14) 25 v14) 26 (.bool (notB (eqZ z15 (Int.ofNat 0))))) 28 (a 6)) 29 v12) 30 (.slice (some ⟨p16, 0, none⟩) 1 1)) 31 v18) 6 v18) 32 (i64 (Int.add z20 (Int.ofNat 1)))) 16 (i64 (Int.add z20 (Int.ofNat 1)))) H19))))) (
 K (.exit 0) (upd a 17 (.bool (ltZ z1 z2))) H)) := by kernel_rfl
theorem mMake0_W (con : CallT) (v : Value) (H : CH) (K : KP) : funW Try.prog con 10 [.pointer none, v] H K =
 (K (.tuple ⟨[(u64 (0)), (iN (1))]⟩) H) := by kernel_rfl
theorem rMake29_W (con : CallT) (p : Nat) (t : Int) (v : Value) (H : CH) (K : KP) : funW Try.prog con 12 [ptr p 0, i64 t, v] H K =
 (LoopC Try.prog con (lpAt Try.prog 12 0) (upd (upd (upd (upd (upd (upd (upd (upd (upd (fun _ => undV) 2 v) 1 (i64 t)) 0 (ptr p 0)) 6 (u64 (0))) 7 (iN (0))) 13 (ptr p 0)) 14 (.bool false)) 8 (snil)) 9 (iN (0))) H (fun e => ceP e
 (fun a1 H2 =>
 Call1 Try.prog con 30 [(a1 0), (a1 1), (a1 8)] H2 fun v4 H5 =>
 AsNat .u64 v4 fun n6 =>
 Cd (eqN n6 0) (
 K (.tuple ⟨[(u64 (0)), (iN (30))]⟩) H5) (
 K (.tuple ⟨[v4, (iN (0))]⟩) H5))
 (fun i3 => fun a1 H2 =>
 Cd (eqN i3 0) (
 Call1 Try.prog con 30 [(a1 0), (a1 1), (a1 8)] H2 fun v7 H8 =>
 AsNat .u64 v7 fun n9 =>
 Cd (eqN n9 0) (
 K (.tuple ⟨[(u64 (0)), (iN (30))]⟩) H8) (
 K (.tuple ⟨[v7, (iN (0))]⟩) H8)) (
 False))
 (fun a1 H2 =>
 K (.tuple ⟨[(a1 6), (a1 7)]⟩) H2))) := by kernel_rfl
theorem rMake29L_W (con : CallT) (a : TF) (H : CH) (K : KX) : codeW (lpAt Try.prog 12 0) Try.prog con a H K =
 (AsLen (a 2) fun l1 =>
 AsInt .i64 (a 9) fun z2 =>
 Cd (ltZ z2 (Int.ofNat l1)) (
 AsSlc (a 2) fun p3 o4 l5 c6 =>
 AsCnt (a 9) fun n7 =>
 Must (ltN n7 l5) (
 Ld H p3 (Nat.add o4 (Nat.mul n7 1)) fun v8 =>
 Call1 Try.prog con 6 [v8] H fun v9 H10 =>
 AsTup v9 fun l11 =>
 Nth l11 0 fun v12 =>
 AsTup v9 fun l13 =>
 Nth l13 1 fun v14 =>
 AsInt .i64 v14 fun z15 =>
 Cd (notB (eqZ z15 (Int.ofNat 0))) (
 K .ret (upd (upd (upd (upd (upd (upd (upd (upd (upd (upd (upd (upd (upd (upd (upd (upd (upd (upd (upd a 15 (a 9)) 16 (a 2)) 17 (iN (l1))) 18 (.bool (ltZ z2 (Int.ofNat l1)))) 22 (a 2)) 23 (a 9)) 24 (ptr p3 (Nat.add o4 (Nat.mul n7 1)))) 25 v8) 26 v9) 21 v9) 27 v12) 28 v14) 10 v12) 11 v14) 29 v14) 30 (.bool (notB (eqZ z15 (Int.ofNat 0))))) 31 v14) 6 (u64 (0))) 7 v14) H10) (
 Sc v12 (Nw H10 (mkRow 22 0 [v12]) fun p16 H17 =>
 App Try.prog 23 23 H17 (a 8) (.slice (some ⟨p16, 0, none⟩) 1 1) fun v18 H19 =>
 AsInt .i64 (a 9) fun z20 =>
 InR (Int.add z20 (Int.ofNat 1)) (
 K .normal (upd (upd (upd (upd (upd (upd (upd (upd (upd (upd (upd (upd (upd (upd (upd (upd (upd (upd (upd (upd (upd (upd (upd (upd a 15 (a 9)) 16 (a 2)) 17 (iN (l1))) 18 (.bool (ltZ z2 (Int.ofNat l1)))) 22 (a 2)) 23 (a 9)) 24 (ptr p3 (Nat.add o4 (Nat.mul n7 1)))) 25 v8) 26 v9) 21 v9) 27 v12) 28 v14) 10 v12) 11 v14) 29 v14) 30 (.bool (notB (eqZ z15 (Int.ofNat 0))))) 32 (a 8)) 33 v12) 34 (.slice (some ⟨p16, 0, none⟩) 1 1)) 35 v18) 8 v18) 19 (a 9)) 20 (i64 (Int.add z20 (Int.ofNat 1)))) 9 (i64 (Int.add z20 (Int.ofNat 1)))) H19))))) (
 K (.exit 0) (upd (upd (upd (upd a 15 (a 9)) 16 (a 2)) 17 (iN (l1))) 18 (.bool (ltZ z2 (Int.ofNat l1)))) H)) := by kernel_rfl
theorem mValues_W (con : CallT) (p x : Nat) (n : Int) (H : CH) (K : KP) : funW Try.prog con 13 [ptr p 0, u64 x, i64 n] H K =
 (Cd (ltZ n (Int.ofNat 0)) (
 K (.tuple ⟨[(snil), (.bool false)]⟩) H) (
 Cd (ltZ (Int.ofNat 16) n) (
 K (.tuple ⟨[(snil), (.bool false)]⟩) H) (
 Must (cvOk .i64 n) (
 LoopC Try.prog con (lpAt Try.prog 13 0) (upd (upd (upd (upd (upd (upd (upd (upd (upd (upd (upd (upd (upd (upd (upd (upd (upd (upd (upd (upd (upd (upd (upd (fun _ => undV) 2 (i64 n)) 1 (u64 (x))) 0 (ptr p 0)) 6 (snil)) 7 (.bool false)) 11 (ptr p 0)) 12 (.bool false)) 13 (.bool false)) 13 (.bool false)) 14 (i64 n)) 13 (.bool false)) 15 (.bool (ltZ n (Int.ofNat 0)))) 16 (.bool (ltZ n (Int.ofNat 0)))) 17 (.bool (ltZ n (Int.ofNat 0)))) 17 (.bool false)) 18 (i64 n)) 17 (.bool false)) 19 (.bool (ltZ (Int.ofNat 16) n))) 20 (.bool (ltZ (Int.ofNat 16) n))) 8 (snil)) 21 (i64 n)) 22 (u64 ((wrapN .u64 n)))) 23 (u64 (0))) H (fun e => ceP e
 (fun a1 H2 =>
 K (.tuple ⟨[(a1 8), (.bool true)]⟩) H2)
 (fun i3 => fun a1 H2 =>
 Cd (eqN i3 0) (
 K (.tuple ⟨[(a1 8), (.bool true)]⟩) H2) (
 False))
 (fun a1 H2 =>
 K (.tuple ⟨[(a1 6), (a1 7)]⟩) H2)))))) := by kernel_rfl
theorem mValuesL_W (con : CallT) (a : TF) (H : CH) (K : KX) : codeW (lpAt Try.prog 13 0) Try.prog con a H K =
 (AsNat .u64 (a 23) fun n1 =>
 AsNat .u64 (a 22) fun n2 =>
 Cd (ltN n1 n2) (
 AsNat .u64 (a 1) fun n3 =>
 AsNat .u64 (a 23) fun n4 =>
 Call1 Try.prog con 31 [(a 0), (u64 ((Nat.mod (Nat.add n3 n4) 18446744073709551616)))] H fun v5 H6 =>
 AsNat .u64 v5 fun n7 =>
 Cd (eqN (Nat.mod n7 4) 1) (
 K .ret (upd (upd (upd (upd (upd (upd (upd (upd (upd (upd (upd (upd (upd (upd (upd (upd (upd (upd (upd (upd (upd (upd a 24 (.bool (ltN n1 n2))) 25 (a 23)) 9 (a 23)) 26 (a 0)) 27 (a 1)) 28 (a 23)) 29 (u64 ((Nat.mod (Nat.add n3 n4) 18446744073709551616)))) 30 v5) 10 v5) 31 v5) 32 (u64 ((Nat.mod n7 4)))) 33 (.bool (eqN (Nat.mod n7 4) 1))) 34 (.bool (eqN (Nat.mod n7 4) 1))) 34 (.bool true)) 35 unit) 34 (.bool true)) 36 unit) 34 (.bool true)) 37 unit) 38 (.bool true)) 6 (snil)) 7 (.bool false)) H6) (
 AsNat .u64 v5 fun n8 =>
 Cd (eqN (Nat.mod n8 4) 2) (
 K .ret (upd (upd (upd (upd (upd (upd (upd (upd (upd (upd (upd (upd (upd (upd (upd (upd (upd (upd (upd (upd (upd (upd a 24 (.bool (ltN n1 n2))) 25 (a 23)) 9 (a 23)) 26 (a 0)) 27 (a 1)) 28 (a 23)) 29 (u64 ((Nat.mod (Nat.add n3 n4) 18446744073709551616)))) 30 v5) 10 v5) 31 v5) 32 (u64 ((Nat.mod n7 4)))) 33 (.bool (eqN (Nat.mod n7 4) 1))) 34 (.bool (eqN (Nat.mod n7 4) 1))) 34 (.bool false)) 35 v5) 34 (.bool false)) 36 (u64 ((Nat.mod n8 4)))) 34 (.bool false)) 37 (.bool (eqN (Nat.mod n8 4) 2))) 38 (.bool (eqN (Nat.mod n8 4) 2))) 6 (snil)) 7 (.bool false)) H6) (
 AsNat .u64 v5 fun n9 =>
 Nw H6 (mkRow 22 0 [(u64 ((Nat.mod (Nat.div n9 4) 18446744073709551616)))]) fun p10 H11 =>
 App Try.prog 23 23 H11 (a 8) (.slice (some ⟨p10, 0, none⟩) 1 1) fun v12 H13 =>
 AsNat .u64 (a 23) fun n14 =>
 K .normal (upd (upd (upd (upd (upd (upd (upd (upd (upd (upd (upd (upd (upd (upd (upd (upd (upd (upd (upd (upd (upd (upd (upd (upd (upd (upd (upd (upd a 24 (.bool (ltN n1 n2))) 25 (a 23)) 9 (a 23)) 26 (a 0)) 27 (a 1)) 28 (a 23)) 29 (u64 ((Nat.mod (Nat.add n3 n4) 18446744073709551616)))) 30 v5) 10 v5) 31 v5) 32 (u64 ((Nat.mod n7 4)))) 33 (.bool (eqN (Nat.mod n7 4) 1))) 34 (.bool (eqN (Nat.mod n7 4) 1))) 34 (.bool false)) 35 v5) 34 (.bool false)) 36 (u64 ((Nat.mod n8 4)))) 34 (.bool false)) 37 (.bool (eqN (Nat.mod n8 4) 2))) 38 (.bool (eqN (Nat.mod n8 4) 2))) 39 (a 8)) 40 v5) 41 (u64 ((Nat.mod (Nat.div n9 4) 18446744073709551616)))) 42 (.slice (some ⟨p10, 0, none⟩) 1 1)) 43 v12) 8 v12) 44 (u64 ((Nat.mod (Nat.add n14 1) 18446744073709551616)))) 23 (u64 ((Nat.mod (Nat.add n14 1) 18446744073709551616)))) H13))) (
 K (.exit 0) (upd a 24 (.bool (ltN n1 n2))) H)) := by kernel_rfl
theorem rValues29_W (con : CallT) (p x : Nat) (n : Int) (H : CH) (K : KP) : funW Try.prog con 14 [ptr p 0, u64 x, i64 n] H K =
 (Cd (ltZ n (Int.ofNat 0)) (
 K (.tuple ⟨[(snil), (.bool false)]⟩) H) (
 Cd (ltZ (Int.ofNat 16) n) (
 K (.tuple ⟨[(snil), (.bool false)]⟩) H) (
 LoopC Try.prog con (lpAt Try.prog 14 0) (upd (upd (upd (upd (upd (upd (upd (upd (upd (upd (upd (upd (upd (upd (upd (upd (upd (upd (upd (upd (upd (fun _ => undV) 2 (i64 n)) 1 (u64 (x))) 0 (ptr p 0)) 6 (snil)) 7 (.bool false)) 11 (ptr p 0)) 12 (.bool false)) 13 (.bool false)) 13 (.bool false)) 14 (i64 n)) 13 (.bool false)) 15 (.bool (ltZ n (Int.ofNat 0)))) 16 (.bool (ltZ n (Int.ofNat 0)))) 17 (.bool (ltZ n (Int.ofNat 0)))) 17 (.bool false)) 18 (i64 n)) 17 (.bool false)) 19 (.bool (ltZ (Int.ofNat 16) n))) 20 (.bool (ltZ (Int.ofNat 16) n))) 8 (snil)) 9 (iN (0))) H (fun e => ceP e
 (fun a1 H2 =>
 K (.tuple ⟨[(a1 8), (.bool true)]⟩) H2)
 (fun i3 => fun a1 H2 =>
 Cd (eqN i3 0) (
 K (.tuple ⟨[(a1 8), (.bool true)]⟩) H2) (
 False))
 (fun a1 H2 =>
 K (.tuple ⟨[(a1 6), (a1 7)]⟩) H2))))) := by kernel_rfl
theorem rValues29L_W (con : CallT) (a : TF) (H : CH) (K : KX) : codeW (lpAt Try.prog 14 0) Try.prog con a H K =
 (AsInt .i64 (a 9) fun z1 =>
 AsInt .i64 (a 2) fun z2 =>
 Cd (ltZ z1 z2) (
 AsInt .i64 (a 9) fun z3 =>
 Must (cvOk .i64 z3) (
 AsNat .u64 (a 1) fun n4 =>
 Call1 Try.prog con 32 [(a 0), (u64 ((Nat.mod (Nat.add n4 (wrapN .u64 z3)) 18446744073709551616)))] H fun v5 H6 =>
 Call1 Try.prog con 33 [v5] H6 fun v7 H8 =>
 AsWant v7 (False) fun b9 =>
 Cd b9 (
 K .ret (upd (upd (upd (upd (upd (upd (upd (upd (upd (upd (upd (upd (upd (upd (upd (upd (upd (upd (upd (upd a 21 (a 9)) 22 (a 2)) 23 (.bool (ltZ z1 z2))) 26 (a 0)) 27 (a 1)) 28 (a 9)) 29 (u64 ((wrapN .u64 z3)))) 30 (u64 ((Nat.mod (Nat.add n4 (wrapN .u64 z3)) 18446744073709551616)))) 31 v5) 10 v5) 32 v5) 33 v7) 34 v7) 34 (.bool true)) 35 unit) 34 (.bool true)) 36 unit) 37 (.bool true)) 6 (snil)) 7 (.bool false)) H8) (
 Call1 Try.prog con 34 [v5] H8 fun v10 H11 =>
 AsBool v10 fun b12 =>
 Cd b12 (
 K .ret (upd (upd (upd (upd (upd (upd (upd (upd (upd (upd (upd (upd (upd (upd (upd (upd (upd (upd (upd (upd a 21 (a 9)) 22 (a 2)) 23 (.bool (ltZ z1 z2))) 26 (a 0)) 27 (a 1)) 28 (a 9)) 29 (u64 ((wrapN .u64 z3)))) 30 (u64 ((Nat.mod (Nat.add n4 (wrapN .u64 z3)) 18446744073709551616)))) 31 v5) 10 v5) 32 v5) 33 v7) 34 v7) 34 (.bool false)) 35 v5) 34 (.bool false)) 36 v10) 37 v10) 6 (snil)) 7 (.bool false)) H11) (
 AsNat .u64 v5 fun n13 =>
 Nw H11 (mkRow 22 0 [(u64 ((Nat.mod (Nat.div n13 4) 18446744073709551616)))]) fun p14 H15 =>
 App Try.prog 23 23 H15 (a 8) (.slice (some ⟨p14, 0, none⟩) 1 1) fun v16 H17 =>
 AsInt .i64 (a 9) fun z18 =>
 InR (Int.add z18 (Int.ofNat 1)) (
 K .normal (upd (upd (upd (upd (upd (upd (upd (upd (upd (upd (upd (upd (upd (upd (upd (upd (upd (upd (upd (upd (upd (upd (upd (upd (upd (upd (upd a 21 (a 9)) 22 (a 2)) 23 (.bool (ltZ z1 z2))) 26 (a 0)) 27 (a 1)) 28 (a 9)) 29 (u64 ((wrapN .u64 z3)))) 30 (u64 ((Nat.mod (Nat.add n4 (wrapN .u64 z3)) 18446744073709551616)))) 31 v5) 10 v5) 32 v5) 33 v7) 34 v7) 34 (.bool false)) 35 v5) 34 (.bool false)) 36 v10) 37 v10) 38 (a 8)) 39 v5) 40 (u64 ((Nat.mod (Nat.div n13 4) 18446744073709551616)))) 41 (.slice (some ⟨p14, 0, none⟩) 1 1)) 42 v16) 8 v16) 24 (a 9)) 25 (i64 (Int.add z18 (Int.ofNat 1)))) 9 (i64 (Int.add z18 (Int.ofNat 1)))) H17))))) (
 K (.exit 0) (upd (upd (upd a 21 (a 9)) 22 (a 2)) 23 (.bool (ltZ z1 z2))) H)) := by kernel_rfl
theorem rIsLock29_W (con : CallT) (x : Nat) (H : CH) (K : KP) : funW Try.prog con 33 [u64 x] H K =
 (K (.bool (eqN (Nat.mod x 4) 1)) H) := by kernel_rfl
theorem rIsPlan29_W (con : CallT) (x : Nat) (H : CH) (K : KP) : funW Try.prog con 34 [u64 x] H K =
 (K (.bool (eqN (Nat.mod x 4) 2)) H) := by kernel_rfl
theorem handU_W (con : CallT) (v : Value) (H : CH) (K : KP) : funW Try.prog con 9 [v] H K =
 (AsLen v fun l1 =>
 InR (Int.add (Int.ofNat l1) (Int.ofNat 9)) (
 MkS Try.prog H 23 (i64 (Int.add (Int.ofNat l1) (Int.ofNat 9))) (i64 (Int.add (Int.ofNat l1) (Int.ofNat 9))) fun v2 H3 =>
 LoopC Try.prog con (lpAt Try.prog 9 0) (upd (upd (upd (upd (upd (upd (upd (upd (fun _ => undV) 0 v) 2 (snil)) 6 v) 7 (iN (l1))) 8 (i64 (Int.add (Int.ofNat l1) (Int.ofNat 9)))) 9 v2) 3 v2) 4 (iN (0))) H3 (fun e => ceP e
 (fun a4 H5 =>
 AsLen (a4 0) fun l7 =>
 LoopC Try.prog con (lpAt Try.prog 9 1) (upd (upd (upd a4 23 (a4 0)) 24 (iN (l7))) 5 (iN (l7))) H5 (fun e => ceP e
 (fun a8 H9 =>
 AsLen (a8 0) fun l11 =>
 Slc Try.prog H9 23 (a8 3) none (some (iN (l11))) none fun v12 =>
 K v12 H9)
 (fun i10 => fun a8 H9 =>
 Cd (eqN i10 2) (
 AsLen (a8 0) fun l13 =>
 Slc Try.prog H9 23 (a8 3) none (some (iN (l13))) none fun v14 =>
 K v14 H9) (
 False))
 (fun a8 H9 =>
 K (a8 2) H9)))
 (fun i6 => fun a4 H5 =>
 Cd (eqN i6 0) (
 AsLen (a4 0) fun l15 =>
 LoopC Try.prog con (lpAt Try.prog 9 1) (upd (upd (upd a4 23 (a4 0)) 24 (iN (l15))) 5 (iN (l15))) H5 (fun e => ceP e
 (fun a16 H17 =>
 AsLen (a16 0) fun l19 =>
 Slc Try.prog H17 23 (a16 3) none (some (iN (l19))) none fun v20 =>
 K v20 H17)
 (fun i18 => fun a16 H17 =>
 Cd (eqN i18 2) (
 AsLen (a16 0) fun l21 =>
 Slc Try.prog H17 23 (a16 3) none (some (iN (l21))) none fun v22 =>
 K v22 H17) (
 False))
 (fun a16 H17 =>
 K (a16 2) H17))) (
 False))
 (fun a4 H5 =>
 K (a4 2) H5)))) := by kernel_rfl
theorem handUA_W (con : CallT) (a : TF) (H : CH) (K : KX) : codeW (lpAt Try.prog 9 0) Try.prog con a H K =
 (AsLen (a 0) fun l1 =>
 AsInt .i64 (a 4) fun z2 =>
 Cd (ltZ z2 (Int.ofNat l1)) (
 AsSlc (a 0) fun p3 o4 l5 c6 =>
 AsCnt (a 4) fun n7 =>
 Must (ltN n7 l5) (
 Ld H p3 (Nat.add o4 (Nat.mul n7 1)) fun v8 =>
 AsSlc (a 3) fun p9 o10 l11 c12 =>
 AsCnt (a 4) fun n13 =>
 Must (ltN n13 l11) (
 Sc v8 (St H p9 (Nat.add o10 (Nat.mul n13 1)) [v8] fun H14 =>
 AsInt .i64 (a 4) fun z15 =>
 InR (Int.add z15 (Int.ofNat 1)) (
 K .normal (upd (upd (upd (upd (upd (upd (upd (upd (upd (upd (upd (upd (upd (upd a 10 (a 4)) 11 (a 0)) 12 (iN (l1))) 13 (.bool (ltZ z2 (Int.ofNat l1)))) 16 (a 3)) 17 (a 4)) 18 (a 0)) 19 (a 4)) 20 (ptr p3 (Nat.add o4 (Nat.mul n7 1)))) 21 v8) 22 (ptr p9 (Nat.add o10 (Nat.mul n13 1)))) 14 (a 4)) 15 (i64 (Int.add z15 (Int.ofNat 1)))) 4 (i64 (Int.add z15 (Int.ofNat 1)))) H14))))) (
 K (.exit 0) (upd (upd (upd (upd a 10 (a 4)) 11 (a 0)) 12 (iN (l1))) 13 (.bool (ltZ z2 (Int.ofNat l1)))) H)) := by kernel_rfl
theorem handUB_W (con : CallT) (a : TF) (H : CH) (K : KX) : codeW (lpAt Try.prog 9 1) Try.prog con a H K =
 (AsLen (a 3) fun l1 =>
 AsInt .i64 (a 5) fun z2 =>
 Cd (ltZ z2 (Int.ofNat l1)) (
 AsInt .i64 (a 5) fun z3 =>
 InR (Int.add (Int.ofNat 2305843009213693952) z3) (
 AsLen (a 0) fun l4 =>
 InR (Int.sub (Int.add (Int.ofNat 2305843009213693952) z3) (Int.ofNat l4)) (
 Must (cvOk .i64 (Int.sub (Int.add (Int.ofNat 2305843009213693952) z3) (Int.ofNat l4))) (
 AsSlc (a 3) fun p5 o6 l7 c8 =>
 AsCnt (a 5) fun n9 =>
 Must (ltN n9 l7) (
 St H p5 (Nat.add o6 (Nat.mul n9 1)) [(u64 ((wrapN .u64 (Int.sub (Int.add (Int.ofNat 2305843009213693952) z3) (Int.ofNat l4)))))] fun H10 =>
 AsInt .i64 (a 5) fun z11 =>
 InR (Int.add z11 (Int.ofNat 1)) (
 K .normal (upd (upd (upd (upd (upd (upd (upd (upd (upd (upd (upd (upd (upd (upd (upd (upd a 25 (a 5)) 26 (a 3)) 27 (iN (l1))) 28 (.bool (ltZ z2 (Int.ofNat l1)))) 31 (a 3)) 32 (a 5)) 33 (a 5)) 34 (i64 (Int.add (Int.ofNat 2305843009213693952) z3))) 35 (a 0)) 36 (iN (l4))) 37 (i64 (Int.sub (Int.add (Int.ofNat 2305843009213693952) z3) (Int.ofNat l4)))) 38 (u64 ((wrapN .u64 (Int.sub (Int.add (Int.ofNat 2305843009213693952) z3) (Int.ofNat l4)))))) 39 (ptr p5 (Nat.add o6 (Nat.mul n9 1)))) 29 (a 5)) 30 (i64 (Int.add z11 (Int.ofNat 1)))) 5 (i64 (Int.add z11 (Int.ofNat 1)))) H10)))))) (
 K (.exit 2) (upd (upd (upd (upd a 25 (a 5)) 26 (a 3)) 27 (iN (l1))) 28 (.bool (ltZ z2 (Int.ofNat l1)))) H)) := by kernel_rfl
theorem keptU_W (con : CallT) (v w : Value) (H : CH) (K : KP) : funW Try.prog con 17 [v, w] H K =
 (Call1 Try.prog con 16 [v, w] H fun v1 H2 =>
 AsBool v1 fun b3 =>
 Cd (notB b3) (
 K (.bool false) H2) (
 AsLen w fun l4 =>
 InR (Int.add (Int.ofNat l4) (Int.ofNat 9)) (
 Slc Try.prog H2 23 v none (some (i64 (Int.add (Int.ofNat l4) (Int.ofNat 9)))) none fun v5 =>
 AsLen w fun l6 =>
 LoopC Try.prog con (lpAt Try.prog 17 0) (upd (upd (upd (upd (upd (upd (upd (upd (upd (upd (upd (upd (upd (upd (upd (upd (fun _ => undV) 1 w) 0 v) 4 (.bool false)) 7 v) 8 w) 9 v1) 10 (.bool (notB b3))) 11 v) 12 w) 13 (iN (l4))) 14 (i64 (Int.add (Int.ofNat l4) (Int.ofNat 9)))) 15 v5) 5 v5) 16 w) 17 (iN (l6))) 6 (iN (l6))) H2 (fun e => ceP e
 (fun a7 H8 =>
 K (.bool true) H8)
 (fun i9 => fun a7 H8 =>
 Cd (eqN i9 0) (
 K (.bool true) H8) (
 False))
 (fun a7 H8 =>
 K (a7 4) H8))))) := by kernel_rfl
theorem keptUL_W (con : CallT) (a : TF) (H : CH) (K : KX) : codeW (lpAt Try.prog 17 0) Try.prog con a H K =
 (AsLen (a 5) fun l1 =>
 AsInt .i64 (a 6) fun z2 =>
 Cd (ltZ z2 (Int.ofNat l1)) (
 AsSlc (a 5) fun p3 o4 l5 c6 =>
 AsCnt (a 6) fun n7 =>
 Must (ltN n7 l5) (
 Ld H p3 (Nat.add o4 (Nat.mul n7 1)) fun v8 =>
 AsInt .i64 (a 6) fun z9 =>
 InR (Int.add (Int.ofNat 2305843009213693952) z9) (
 AsLen (a 1) fun l10 =>
 InR (Int.sub (Int.add (Int.ofNat 2305843009213693952) z9) (Int.ofNat l10)) (
 Must (cvOk .i64 (Int.sub (Int.add (Int.ofNat 2305843009213693952) z9) (Int.ofNat l10))) (
 AsNat .u64 v8 fun n11 =>
 Cd (notB (eqN n11 (wrapN .u64 (Int.sub (Int.add (Int.ofNat 2305843009213693952) z9) (Int.ofNat l10))))) (
 K .ret (upd (upd (upd (upd (upd (upd (upd (upd (upd (upd (upd (upd (upd (upd (upd (upd a 18 (a 6)) 19 (a 5)) 20 (iN (l1))) 21 (.bool (ltZ z2 (Int.ofNat l1)))) 24 (a 5)) 25 (a 6)) 26 (ptr p3 (Nat.add o4 (Nat.mul n7 1)))) 27 v8) 28 (a 6)) 29 (i64 (Int.add (Int.ofNat 2305843009213693952) z9))) 30 (a 1)) 31 (iN (l10))) 32 (i64 (Int.sub (Int.add (Int.ofNat 2305843009213693952) z9) (Int.ofNat l10)))) 33 (u64 ((wrapN .u64 (Int.sub (Int.add (Int.ofNat 2305843009213693952) z9) (Int.ofNat l10)))))) 34 (.bool (notB (eqN n11 (wrapN .u64 (Int.sub (Int.add (Int.ofNat 2305843009213693952) z9) (Int.ofNat l10))))))) 4 (.bool false)) H) (
 AsInt .i64 (a 6) fun z12 =>
 InR (Int.add z12 (Int.ofNat 1)) (
 K .normal (upd (upd (upd (upd (upd (upd (upd (upd (upd (upd (upd (upd (upd (upd (upd (upd (upd (upd a 18 (a 6)) 19 (a 5)) 20 (iN (l1))) 21 (.bool (ltZ z2 (Int.ofNat l1)))) 24 (a 5)) 25 (a 6)) 26 (ptr p3 (Nat.add o4 (Nat.mul n7 1)))) 27 v8) 28 (a 6)) 29 (i64 (Int.add (Int.ofNat 2305843009213693952) z9))) 30 (a 1)) 31 (iN (l10))) 32 (i64 (Int.sub (Int.add (Int.ofNat 2305843009213693952) z9) (Int.ofNat l10)))) 33 (u64 ((wrapN .u64 (Int.sub (Int.add (Int.ofNat 2305843009213693952) z9) (Int.ofNat l10)))))) 34 (.bool (notB (eqN n11 (wrapN .u64 (Int.sub (Int.add (Int.ofNat 2305843009213693952) z9) (Int.ofNat l10))))))) 22 (a 6)) 23 (i64 (Int.add z12 (Int.ofNat 1)))) 6 (i64 (Int.add z12 (Int.ofNat 1)))) H))))))) (
 K (.exit 0) (upd (upd (upd (upd a 18 (a 6)) 19 (a 5)) 20 (iN (l1))) 21 (.bool (ltZ z2 (Int.ofNat l1)))) H)) := by kernel_rfl
theorem multiWords_W (con : CallT) (x : Nat) (v : Value) (n : Int) (H : CH) (K : KP) : funW Try.prog con 3 [u64 x, v, i64 n] H K =
 (Call1 Try.prog con 5 [(u64 (x))] H fun v1 H2 =>
 AsTup v1 fun l3 =>
 Nth l3 0 fun v4 =>
 AsTup v1 fun l5 =>
 Nth l5 1 fun v6 =>
 Call1 Try.prog con 6 [(u64 (x))] H2 fun v7 H8 =>
 AsTup v7 fun l9 =>
 Nth l9 0 fun v10 =>
 AsTup v7 fun l11 =>
 Nth l11 1 fun v12 =>
 Call1 Try.prog con 7 [(iN (256)), (.bool false)] H8 fun v13 H14 =>
 AsTup v13 fun l15 =>
 Nth l15 0 fun v16 =>
 AsTup v13 fun l17 =>
 Nth l17 1 fun v18 =>
 AsInt .i64 v18 fun z19 =>
 Cd (notB (eqZ z19 (Int.ofNat 0))) (
 K (.bool false) H14) (
 AsNat .u64 v4 fun n20 =>
 AsNat .u64 v10 fun n21 =>
 Cd (notB (eqN n20 n21)) (
 K (.bool false) H14) (
 AsInt .i64 v6 fun z22 =>
 AsInt .i64 v12 fun z23 =>
 Cd (notB (eqZ z22 z23)) (
 K (.bool false) H14) (
 Call1 Try.prog con 8 [(iN (256)), (.bool false)] H14 fun v24 H25 =>
 AsTup v24 fun l26 =>
 Nth l26 0 fun v27 =>
 AsTup v24 fun l28 =>
 Nth l28 1 fun v29 =>
 Call1 Try.prog con 9 [v] H25 fun v30 H31 =>
 Call1 Try.prog con 11 [v16, (iN (0))] H31 fun v32 H33 =>
 Call1 Try.prog con 10 [v32, v30] H33 fun v34 H35 =>
 AsTup v34 fun l36 =>
 Nth l36 0 fun v37 =>
 AsTup v34 fun l38 =>
 Nth l38 1 fun v39 =>
 Call1 Try.prog con 12 [v27, (iN (0)), v] H35 fun v40 H41 =>
 AsTup v40 fun l42 =>
 Nth l42 0 fun v43 =>
 AsTup v40 fun l44 =>
 Nth l44 1 fun v45 =>
 Call1 Try.prog con 13 [v16, v37, (i64 n)] H41 fun v46 H47 =>
 AsTup v46 fun l48 =>
 Nth l48 0 fun v49 =>
 AsTup v46 fun l50 =>
 Nth l50 1 fun v51 =>
 Call1 Try.prog con 14 [v27, v43, (i64 n)] H47 fun v52 H53 =>
 AsTup v52 fun l54 =>
 Nth l54 0 fun v55 =>
 AsTup v52 fun l56 =>
 Nth l56 1 fun v57 =>
 Call1 Try.prog con 10 [(.pointer none), v] H53 fun v58 H59 =>
 AsTup v58 fun l60 =>
 Nth l60 0 fun v61 =>
 AsTup v58 fun l62 =>
 Nth l62 1 fun v63 =>
 Call1 Try.prog con 15 [] H59 fun v64 H65 =>
 AsWant v64 (False) fun b66 =>
 Cd b66 (
 AsNat .u64 v37 fun n67 =>
 AsNat .u64 v43 fun n68 =>
 Cd (eqN n67 n68) (
 AsInt .i64 v39 fun z69 =>
 AsInt .i64 v45 fun z70 =>
 Cd (eqZ z69 z70) (
 AsBool v51 fun b71 =>
 AsBool v57 fun b72 =>
 Cd (eqB b71 b72) (
 Call1 Try.prog con 16 [v49, v55] H65 fun v73 H74 =>
 AsWant v73 (False) fun b75 =>
 Cd b75 (
 Call1 Try.prog con 17 [v30, v] H74 fun v76 H77 =>
 AsWant v76 (False) fun b78 =>
 Cd b78 (
 AsInt .i64 v63 fun z79 =>
 K (.bool (eqZ z79 (Int.ofNat 1))) H77) (
 K (.bool false) H77)) (
 K (.bool false) H74)) (
 K (.bool false) H65)) (
 K (.bool false) H65)) (
 K (.bool false) H65)) (
 K (.bool false) H65))))) := by kernel_rfl
end Go.Proofs.Ytlabejmlkhgeoaa

