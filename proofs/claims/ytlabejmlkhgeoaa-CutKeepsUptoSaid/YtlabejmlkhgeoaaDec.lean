/- What some functions' texts ask for, step by step, each checked by the kernel. No conditions. -/
import Derived.Test.YtlabejmlkhgeoaaProg
import Derived.Test.YtlabejmlkhgeoaaCmE
set_option linter.unusedVariables false
set_option linter.unusedSimpArgs false

/- What some functions' texts ask for, step by step, each checked by the kernel. No conditions. -/
set_option linter.unusedVariables false
set_option maxRecDepth 100000
namespace Go.Proofs.Ytlabejmlkhgeoaa
open Go Go.CM
theorem arenaNew_W (con : CallT) (z : Int) (b : Bool) (H : CH) (K : KP) : funW Try.prog con 7 [i64 z, .bool b] H K =
 (Cd (ltZ z (Int.ofNat 128)) (
 K (.tuple ⟨[(.pointer none), (iN (2))]⟩) H) (
 Cd (ltZ (Int.ofNat 4194304) z) (
 K (.tuple ⟨[(.pointer none), (iN (2))]⟩) H) (
 Cd b (
 MkS Try.prog H 60 (i64 z) (i64 z) fun v1 H2 =>
 Sc v1 (Nw H2 (mkRow 67 0 [v1, (iN (0))]) fun p3 H4 =>
 Call1 Try.prog con 28 [(ptr p3 1), (iN (1))] H4 fun v5 H6 =>
 Nw H6 (mkRow 73 0 [(.iface 59 (ptr p3 0)), (.bool true), (snil)]) fun p7 H8 =>
 K (.tuple ⟨[(ptr p7 0), (iN (0))]⟩) H8)) (
 MkS Try.prog H 23 (i64 z) (i64 z) fun v9 H10 =>
 Sc v9 (Nw H10 (mkRow 76 0 [v9, (iN (1))]) fun p11 H12 =>
 Nw H12 (mkRow 73 0 [(.iface 74 (ptr p11 0)), (.bool false), (snil)]) fun p13 H14 =>
 K (.tuple ⟨[(ptr p13 0), (iN (0))]⟩) H14))))) := by kernel_rfl
theorem memView_W (con : CallT) (m : Nat) (z : Int) (H : CH) (K : KP) : funW Try.prog con 11 [ptr m 0, i64 z] H K =
 (Nw H (mkRow 81 0 [(ptr m 0), (i64 z), (iN (0))]) fun p1 H2 =>
 K (ptr p1 0) H2) := by kernel_rfl
theorem viewStore_W (con : CallT) (p a x : Nat) (H : CH) (K : KP) : funW Try.prog con 71 [ptr p 0, u64 (a), u64 (x)] H K =
 (Ld H p 0 fun v1 =>
 Call1 Try.prog con 45 [v1, (u64 (a))] H fun v2 H3 =>
 AsBool v2 fun b4 =>
 Cd b4 (
 Ld H3 p 0 fun v5 =>
 NotNil Try.prog v5 (
 AsPtr v5 fun p6 o7 =>
 Ld H3 p6 (Nat.add o7 0) fun v8 =>
 Mth Try.prog con v8 "shutter/arena.store" [(u64 (a)), (u64 (x))] H3 fun v9 H10 =>
 Call1 Try.prog con 42 [(ptr p 0), (.agg ⟨[(iN (0)), (u8 (2)), (u64 (a)), (u64 (x)), (u64 (0)), (snil), (u64 (0)), (.bool false)]⟩)] H10 fun v11 H12 =>
 K unit H12)) (
 Call1 Try.prog con 42 [(ptr p 0), (.agg ⟨[(iN (0)), (u8 (2)), (u64 (a)), (u64 (x)), (u64 (0)), (snil), (u64 (0)), (.bool false)]⟩)] H3 fun v13 H14 =>
 K unit H14)) := by kernel_rfl
theorem viewLoad_W (con : CallT) (p a : Nat) (H : CH) (K : KP) : funW Try.prog con 68 [ptr p 0, u64 (a)] H K =
 (Ld H p 0 fun v1 =>
 Call1 Try.prog con 31 [v1, (u64 (a))] H fun v2 H3 =>
 Sc v2 (Call1 Try.prog con 42 [(ptr p 0), (.agg ⟨[(iN (0)), (u8 (1)), (u64 (a)), (u64 (0)), (u64 (0)), (snil), v2, (.bool false)]⟩)] H3 fun v4 H5 =>
 K v2 H5)) := by kernel_rfl
theorem memPeek_W (con : CallT) (m a : Nat) (H : CH) (K : KP) : funW Try.prog con 31 [ptr m 0, u64 (a)] H K =
 (Call1 Try.prog con 45 [(ptr m 0), (u64 (a))] H fun v1 H2 =>
 AsBool v1 fun b3 =>
 Cd (notB b3) (
 K (u64 (0)) H2) (
 Ld H2 m 0 fun v4 =>
 Mth Try.prog con v4 "shutter/arena.load" [(u64 (a))] H2 fun v5 H6 =>
 K v5 H6)) := by kernel_rfl
theorem memHas_W (con : CallT) (m a : Nat) (H : CH) (K : KP) : funW Try.prog con 45 [ptr m 0, u64 (a)] H K =
 (Ld H m 0 fun v1 =>
 Mth Try.prog con v1 "shutter/arena.size" [] H fun v2 H3 =>
 AsInt .i64 v2 fun z4 =>
 Must (cvOk .i64 z4) (
 K (.bool (ltN a (wrapN .u64 z4))) H3)) := by kernel_rfl
theorem viewNote_W (con : CallT) (p : Nat) (c0 c1 c2 c3 c4 c5 c6 c7 : Value) (H : CH) (K : KP) : funW Try.prog con 42 [ptr p 0, .agg ⟨[c0, c1, c2, c3, c4, c5, c6, c7]⟩] H K =
 (Nw H (mkRow 105 0 [c0, c1, c2, c3, c4, c5, c6, c7]) fun p1 H2 =>
 Ld H2 p 2 fun v3 =>
 AsInt .i64 v3 fun z4 =>
 InR (Int.add z4 (Int.ofNat 1)) (
 St H2 p 2 [(i64 (Int.add z4 (Int.ofNat 1)))] fun H5 =>
 Ld H5 p 0 fun v6 =>
 NotNil Try.prog v6 (
 AsPtr v6 fun p7 o8 =>
 Ld H5 p7 (Nat.add o8 1) fun v9 =>
 AsBool v9 fun b10 =>
 Cd (notB b10) (
 Ld H5 p 1 fun v11 =>
 Sc v11 (St H5 p1 0 [v11] fun H12 =>
 Ld H12 p 0 fun v13 =>
 Ld H12 p 0 fun v14 =>
 NotNil Try.prog v14 (
 AsPtr v14 fun p15 o16 =>
 Ld H12 p15 (Nat.add o16 2) fun v17 =>
 Ld H12 p1 0 fun v18 =>
 Ld H12 p1 1 fun v19 =>
 Ld H12 p1 2 fun v20 =>
 Ld H12 p1 3 fun v21 =>
 Ld H12 p1 4 fun v22 =>
 Ld H12 p1 5 fun v23 =>
 Ld H12 p1 6 fun v24 =>
 Ld H12 p1 7 fun v25 =>
 Nw H12 (mkRow 105 0 [v18, v19, v20, v21, v22, v23, v24, v25]) fun p26 H27 =>
 App Try.prog 71 71 H27 v17 (.slice (some ⟨p26, 0, none⟩) 1 1) fun v28 H29 =>
 NotNil Try.prog v13 (
 AsPtr v13 fun p30 o31 =>
 Sc v28 (St H29 p30 (Nat.add o31 2) [v28] fun H32 =>
 Ld H12 p15 (Nat.add o16 2) fun v33 =>
 Same v17 v33 (
 Ld H27 p15 (Nat.add o16 2) fun v34 =>
 Same v17 v34 (
 Ld H12 p 0 fun v35 =>
 Same v14 v35 (
 Ld H27 p 0 fun v36 =>
 Same v14 v36 (
 Ld H12 p 0 fun v37 =>
 Same v13 v37 (
 Ld H27 p 0 fun v38 =>
 Same v13 v38 (
 Ld H29 p 0 fun v39 =>
 Same v13 v39 (
 K unit H32)))))))))))) (
 K unit H5)))) := by kernel_rfl
theorem viewAlloc_W (con : CallT) (p : Nat) (v : Value) (H : CH) (K : KP) : funW Try.prog con 29 [ptr p 0, v] H K =
 (AsLen v fun l1 =>
 Cd (ltZ (Int.ofNat 0) (Int.ofNat l1)) (
 Ld H p 0 fun v2 =>
 NotNil Try.prog v2 (
 AsPtr v2 fun p3 o4 =>
 Ld H p3 (Nat.add o4 0) fun v5 =>
 Mth Try.prog con v5 "shutter/arena.alloc" [v] H fun v6 H7 =>
 Call1 Try.prog con 40 [v] H7 fun v8 H9 =>
 Sc v6 (Sc v8 (Call1 Try.prog con 42 [(ptr p 0), (.agg ⟨[(iN (0)), (u8 (5)), v6, (u64 (0)), (u64 (0)), v8, (u64 (0)), (.bool false)]⟩)] H9 fun v10 H11 =>
 K v6 H11)))) (
 Call1 Try.prog con 40 [v] H fun v12 H13 =>
 Sc v12 (Call1 Try.prog con 42 [(ptr p 0), (.agg ⟨[(iN (0)), (u8 (5)), (u64 (0)), (u64 (0)), (u64 (0)), v12, (u64 (0)), (.bool false)]⟩)] H13 fun v14 H15 =>
 K (u64 (0)) H15))) := by kernel_rfl
theorem plainAlloc_W (con : CallT) (p : Nat) (v : Value) (H : CH) (K : KP) : funW Try.prog con 86 [ptr p 0, v] H K =
 (AsLen v fun l1 =>
 Ld H p 0 fun v2 =>
 AsLen v2 fun l3 =>
 Ld H p 1 fun v4 =>
 AsInt .i64 v4 fun z5 =>
 InR (Int.sub (Int.ofNat l3) z5) (
 Cd (ltZ (Int.sub (Int.ofNat l3) z5) (Int.ofNat l1)) (
 K (u64 (0)) H) (
 Ld H p 1 fun v6 =>
 Ld H p 1 fun v7 =>
 Ld H p 0 fun v8 =>
 Slc Try.prog H 23 v8 (some v6) none none fun v9 =>
 Cpy Try.prog 23 H v9 v fun v10 H11 =>
 AsInt .i64 v7 fun z12 =>
 AsInt .i64 v10 fun z13 =>
 InR (Int.add z12 z13) (
 St H11 p 1 [(i64 (Int.add z12 z13))] fun H14 =>
 Ld H p 1 fun v15 =>
 Same v7 v15 (
 Ld H11 p 1 fun v16 =>
 Same v7 v16 (
 AsInt .i64 v6 fun z17 =>
 Must (cvOk .i64 z17) (
 K (u64 ((wrapN .u64 z17))) H14))))))) := by kernel_rfl
theorem plainLoad_W (con : CallT) (p a : Nat) (H : CH) (K : KP) : funW Try.prog con 89 [ptr p 0, u64 (a)] H K =
 (Ld H p 0 fun v1 =>
 AsSlc v1 fun p2 o3 l4 c5 =>
 Must (ltN a l4) (
 Ld H p2 (Nat.add o3 (Nat.mul a 1)) fun v6 =>
 K v6 H)) := by kernel_rfl
theorem plainSize_W (con : CallT) (p : Nat) (H : CH) (K : KP) : funW Try.prog con 91 [ptr p 0] H K =
 (Ld H p 0 fun v1 =>
 AsLen v1 fun l2 =>
 K (iN (l2)) H) := by kernel_rfl
theorem plainStore_W (con : CallT) (p a x : Nat) (H : CH) (K : KP) : funW Try.prog con 92 [ptr p 0, u64 (a), u64 (x)] H K =
 (Ld H p 0 fun v1 =>
 AsSlc v1 fun p2 o3 l4 c5 =>
 Must (ltN a l4) (
 St H p2 (Nat.add o3 (Nat.mul a 1)) [(u64 (x))] fun H6 =>
 K unit H6)) := by kernel_rfl
theorem cloneN_W (con : CallT) (v : Value) (H : CH) (K : KP) : funW Try.prog con 40 [v] H K =
 (IsNil .slc v fun b1 =>
 Cd b1 (
 K (snil) H) (
 Nw H (mkRow 22 0 []) fun p2 H3 =>
 App Try.prog 23 23 H3 (.slice (some ⟨p2, 0, none⟩) 0 0) v fun v4 H5 =>
 K v4 H5)) := by kernel_rfl
end Go.Proofs.Ytlabejmlkhgeoaa

/- What some functions' texts ask for, step by step, each checked by the kernel. No conditions. -/
set_option linter.unusedVariables false
set_option maxRecDepth 100000
namespace Go.Proofs.Ytlabejmlkhgeoaa
open Go Go.CM
end Go.Proofs.Ytlabejmlkhgeoaa

/- What some functions' texts ask for, step by step, each checked by the kernel. No conditions. -/
set_option linter.unusedVariables false
set_option maxRecDepth 100000
namespace Go.Proofs.Ytlabejmlkhgeoaa
open Go Go.CM
end Go.Proofs.Ytlabejmlkhgeoaa

/- What some functions' texts ask for, step by step, each checked by the kernel. No conditions. -/
set_option linter.unusedVariables false
set_option maxRecDepth 100000
namespace Go.Proofs.Ytlabejmlkhgeoaa
open Go Go.CM
theorem needed_W (con : CallT) (xa xb xc xd : Value) (H : CH) (K : KP) : funW Try.prog con 38 [.agg ⟨[xa, xb]⟩, xc, xd] H K =
 (Nw H (mkRow 45 0 [xa, xb]) fun p1 H2 =>
 Sc xc (Nw H2 (mkRow 22 0 [xc]) fun p3 H4 =>
 Sc xd (Nw H4 (mkRow 22 0 [xd]) fun p5 H6 =>
 Ld H6 p5 0 fun v7 =>
 Ld H6 p3 0 fun v8 =>
 AsNat .u64 v7 fun n9 =>
 AsNat .u64 v8 fun n10 =>
 Cd (leN n9 n10) (
 K (.bool false) H6) (
 Ld H6 p5 0 fun v11 =>
 Ld H6 p1 0 fun v12 =>
 AsNat .u64 v11 fun n13 =>
 AsNat .u64 v12 fun n14 =>
 Cd (ltN n14 n13) (
 K (.bool true) H6) (
 Ld H6 p1 1 fun v15 =>
 Call1 Try.prog con 48 [v15, (.func (.func 47) ⟨[]⟩ ⟨[(ptr p3 0), (ptr p5 0)]⟩)] H6 fun v16 H17 =>
 K v16 H17))))) := by kernel_rfl
theorem refNeeded_W (con : CallT) (xa xb xc xd : Value) (H : CH) (K : KP) : funW Try.prog con 26 [.agg ⟨[xa, xb]⟩, xc, xd] H K =
 (Nw H (mkRow 45 0 [xa, xb]) fun p1 H2 =>
 AsNat .u64 xc fun n3 =>
 AsNat .u64 xd fun n4 =>
 Cd (leN n4 n3) (
 K (.bool false) H2) (
 Ld H2 p1 0 fun v5 =>
 AsNat .u64 v5 fun n6 =>
 AsNat .u64 xd fun n7 =>
 Cd (ltN n6 n7) (
 K (.bool true) H2) (
 LoopC Try.prog con (lpAt Try.prog 26 0) (upd (upd (upd (upd (upd (upd (upd (upd (upd (upd (upd (upd (upd (fun _ => undV) 2 xd) 1 xc) 0 (.agg ⟨[xa, xb]⟩)) 3 (ptr p1 0)) 6 (.bool false)) 8 xc) 9 xd) 10 (.bool (leN n4 n3))) 11 (ptr p1 0)) 12 v5) 13 xd) 14 (.bool (ltN n6 n7))) 7 (iN (0))) H2 (fun e => ceP e
 (fun a8 H9 =>
 K (.bool false) H9)
 (fun i10 => fun a8 H9 =>
 Cd (eqN i10 0) (
 K (.bool false) H9) (
 False))
 (fun a8 H9 =>
 K (a8 6) H9))))) := by kernel_rfl
theorem neededC_W (con : CallT) (x p q : Nat) (H : CH) (K : KP) : funW Try.prog con 47 [u64 x, ptr p 0, ptr q 0] H K =
 (Ld H p 0 fun v1 =>
 AsNat .u64 v1 fun n2 =>
 Cd (leN n2 x) (
 Ld H q 0 fun v3 =>
 AsNat .u64 v3 fun n4 =>
 K (.bool (ltN x n4)) H) (
 K (.bool false) H)) := by kernel_rfl
theorem containsF_W (con : CallT) (xa xf : Value) (H : CH) (K : KP) : funW Try.prog con 48 [xa, xf] H K =
 (Call1 Try.prog con 49 [xa, xf] H fun v1 H2 =>
 AsInt .i64 v1 fun z3 =>
 K (.bool (leZ (Int.ofNat 0) z3)) H2) := by kernel_rfl
theorem indexF_W (con : CallT) (xa xf : Value) (H : CH) (K : KP) : funW Try.prog con 49 [xa, xf] H K =
 (AsLen xa fun l1 =>
 LoopC Try.prog con (lpAt Try.prog 49 0) (upd (upd (upd (upd (upd (upd (fun _ => undV) 1 xf) 0 xa) 4 (iN (0))) 6 xa) 7 (iN (l1))) 8 (iN (0))) H (fun e => ceP e
 (fun a2 H3 =>
 K (i64 (Int.negSucc 0)) H3)
 (fun i4 => fun a2 H3 =>
 Cd (eqN i4 0) (
 K (i64 (Int.negSucc 0)) H3) (
 False))
 (fun a2 H3 =>
 K (a2 4) H3))) := by kernel_rfl
theorem newCut_W (con : CallT) (xa xb : Nat) (xc xd : Value) (H : CH) (K : KP) : funW Try.prog con 22 [u64 xa, u64 xb, .agg ⟨[xc, xd]⟩] H K =
 (Nw H (mkRow 45 0 [xc, xd]) fun p1 H2 =>
 Ld H2 p1 0 fun v3 =>
 Ld H2 p1 1 fun v4 =>
 Call1 Try.prog con 40 [v4] H2 fun v5 H6 =>
 Sc v3 (Sc v5 (Nw H6 (mkRow 95 0 [(u64 (xb)), v3, v5, (iN (0)), (u64 (0)), (u64 (0)), (u64 (0)), (u64 (0)), (u64 (0)), (u64 (0)), (u64 (0)), (u64 (0))]) fun p7 H8 =>
 Ld H2 p1 0 fun v9 =>
 Same v3 v9 (
 Ld H6 p1 0 fun v10 =>
 Same v3 v10 (
 K (ptr p7 0) H8))))) := by kernel_rfl
theorem cutStep_W (con : CallT) (p q : Nat) (H : CH) (K : KP) : funW Try.prog con 66 [ptr p 0, ptr q 0] H K =
 (Ld H p 3 fun v1 =>
 AsInt .i64 v1 fun z2 =>
 Cd (eqZ z2 (Int.ofNat 0)) (
 Ld H p 0 fun v3 =>
 Call1 Try.prog con 68 [(ptr q 0), v3] H fun v4 H5 =>
 Sc v4 (St H5 p 4 [v4] fun H6 =>
 St H6 p 3 [(iN (1))] fun H7 =>
 Ld H7 p 4 fun v8 =>
 AsNat .u64 v8 fun n9 =>
 Cd (eqN n9 0) (
 St H7 p 3 [(iN (7))] fun H10 =>
 Ld H10 p 3 fun v11 =>
 AsInt .i64 v11 fun z12 =>
 Cd (eqZ z12 (Int.ofNat 7)) (
 Ld H10 p 11 fun v13 =>
 Sc v13 (St H10 p 10 [v13] fun H14 =>
 Ld H14 p 3 fun v15 =>
 AsInt .i64 v15 fun z16 =>
 K (.bool (eqZ z16 (Int.ofNat 7))) H14)) (
 Ld H10 p 3 fun v17 =>
 AsInt .i64 v17 fun z18 =>
 K (.bool (eqZ z18 (Int.ofNat 7))) H10)) (
 Ld H7 p 3 fun v19 =>
 AsInt .i64 v19 fun z20 =>
 Cd (eqZ z20 (Int.ofNat 7)) (
 Ld H7 p 11 fun v21 =>
 Sc v21 (St H7 p 10 [v21] fun H22 =>
 Ld H22 p 3 fun v23 =>
 AsInt .i64 v23 fun z24 =>
 K (.bool (eqZ z24 (Int.ofNat 7))) H22)) (
 Ld H7 p 3 fun v25 =>
 AsInt .i64 v25 fun z26 =>
 K (.bool (eqZ z26 (Int.ofNat 7))) H7)))) (
 AsInt .i64 v1 fun z27 =>
 Cd (eqZ z27 (Int.ofNat 1)) (
 Ld H p 4 fun v28 =>
 AsNat .u64 v28 fun n29 =>
 Call1 Try.prog con 68 [(ptr q 0), (u64 ((Nat.mod (Nat.add n29 1) 18446744073709551616)))] H fun v30 H31 =>
 Sc v30 (St H31 p 5 [v30] fun H32 =>
 Ld H32 p 5 fun v33 =>
 AsNat .u64 v33 fun n34 =>
 Cd (eqN n34 0) (
 St H32 p 5 [(u64 (18446744073709551615))] fun H35 =>
 St H35 p 3 [(iN (2))] fun H36 =>
 Ld H36 p 3 fun v37 =>
 AsInt .i64 v37 fun z38 =>
 Cd (eqZ z38 (Int.ofNat 7)) (
 Ld H36 p 11 fun v39 =>
 Sc v39 (St H36 p 10 [v39] fun H40 =>
 Ld H40 p 3 fun v41 =>
 AsInt .i64 v41 fun z42 =>
 K (.bool (eqZ z42 (Int.ofNat 7))) H40)) (
 Ld H36 p 3 fun v43 =>
 AsInt .i64 v43 fun z44 =>
 K (.bool (eqZ z44 (Int.ofNat 7))) H36)) (
 St H32 p 3 [(iN (2))] fun H45 =>
 Ld H45 p 3 fun v46 =>
 AsInt .i64 v46 fun z47 =>
 Cd (eqZ z47 (Int.ofNat 7)) (
 Ld H45 p 11 fun v48 =>
 Sc v48 (St H45 p 10 [v48] fun H49 =>
 Ld H49 p 3 fun v50 =>
 AsInt .i64 v50 fun z51 =>
 K (.bool (eqZ z51 (Int.ofNat 7))) H49)) (
 Ld H45 p 3 fun v52 =>
 AsInt .i64 v52 fun z53 =>
 K (.bool (eqZ z53 (Int.ofNat 7))) H45)))) (
 AsInt .i64 v1 fun z54 =>
 Cd (eqZ z54 (Int.ofNat 2)) (
 Ld H p 4 fun v55 =>
 Call1 Try.prog con 68 [(ptr q 0), v55] H fun v56 H57 =>
 Sc v56 (St H57 p 11 [v56] fun H58 =>
 St H58 p 3 [(iN (3))] fun H59 =>
 Ld H59 p 3 fun v60 =>
 AsInt .i64 v60 fun z61 =>
 Cd (eqZ z61 (Int.ofNat 7)) (
 Ld H59 p 11 fun v62 =>
 Sc v62 (St H59 p 10 [v62] fun H63 =>
 Ld H63 p 3 fun v64 =>
 AsInt .i64 v64 fun z65 =>
 K (.bool (eqZ z65 (Int.ofNat 7))) H63)) (
 Ld H59 p 3 fun v66 =>
 AsInt .i64 v66 fun z67 =>
 K (.bool (eqZ z67 (Int.ofNat 7))) H59))) (
 AsInt .i64 v1 fun z68 =>
 Cd (eqZ z68 (Int.ofNat 3)) (
 Ld H p 4 fun v69 =>
 AsNat .u64 v69 fun n70 =>
 Call1 Try.prog con 68 [(ptr q 0), (u64 ((Nat.mod (Nat.add n70 2) 18446744073709551616)))] H fun v71 H72 =>
 Sc v71 (St H72 p 7 [v71] fun H73 =>
 Ld H73 p 7 fun v74 =>
 Sc v74 (St H73 p 6 [v74] fun H75 =>
 Call1 Try.prog con 69 [(ptr p 0)] H75 fun v76 H77 =>
 Ld H77 p 3 fun v78 =>
 AsInt .i64 v78 fun z79 =>
 Cd (eqZ z79 (Int.ofNat 7)) (
 Ld H77 p 11 fun v80 =>
 Sc v80 (St H77 p 10 [v80] fun H81 =>
 Ld H81 p 3 fun v82 =>
 AsInt .i64 v82 fun z83 =>
 K (.bool (eqZ z83 (Int.ofNat 7))) H81)) (
 Ld H77 p 3 fun v84 =>
 AsInt .i64 v84 fun z85 =>
 K (.bool (eqZ z85 (Int.ofNat 7))) H77)))) (
 AsInt .i64 v1 fun z86 =>
 Cd (eqZ z86 (Int.ofNat 4)) (
 Ld H p 6 fun v87 =>
 AsNat .u64 v87 fun n88 =>
 Call1 Try.prog con 68 [(ptr q 0), (u64 ((Nat.mod (Nat.add n88 1) 18446744073709551616)))] H fun v89 H90 =>
 Sc v89 (St H90 p 8 [v89] fun H91 =>
 Ld H91 p 1 fun v92 =>
 Ld H91 p 2 fun v93 =>
 Ld H91 p 8 fun v94 =>
 Ld H91 p 5 fun v95 =>
 Call1 Try.prog con 38 [(.agg ⟨[v92, v93]⟩), v94, v95] H91 fun v96 H97 =>
 AsBool v96 fun b98 =>
 Cd b98 (
 Call1 Try.prog con 70 [(ptr p 0)] H97 fun v99 H100 =>
 Ld H100 p 3 fun v101 =>
 AsInt .i64 v101 fun z102 =>
 Cd (eqZ z102 (Int.ofNat 7)) (
 Ld H100 p 11 fun v103 =>
 Sc v103 (St H100 p 10 [v103] fun H104 =>
 Ld H104 p 3 fun v105 =>
 AsInt .i64 v105 fun z106 =>
 K (.bool (eqZ z106 (Int.ofNat 7))) H104)) (
 Ld H100 p 3 fun v107 =>
 AsInt .i64 v107 fun z108 =>
 K (.bool (eqZ z108 (Int.ofNat 7))) H100)) (
 Ld H97 p 9 fun v109 =>
 AsNat .u64 v109 fun n110 =>
 St H97 p 9 [(u64 ((Nat.mod (Nat.add n110 1) 18446744073709551616)))] fun H111 =>
 St H111 p 3 [(iN (5))] fun H112 =>
 Ld H112 p 3 fun v113 =>
 AsInt .i64 v113 fun z114 =>
 Cd (eqZ z114 (Int.ofNat 7)) (
 Ld H112 p 11 fun v115 =>
 Sc v115 (St H112 p 10 [v115] fun H116 =>
 Ld H116 p 3 fun v117 =>
 AsInt .i64 v117 fun z118 =>
 K (.bool (eqZ z118 (Int.ofNat 7))) H116)) (
 Ld H112 p 3 fun v119 =>
 AsInt .i64 v119 fun z120 =>
 K (.bool (eqZ z120 (Int.ofNat 7))) H112)))) (
 AsInt .i64 v1 fun z121 =>
 Cd (eqZ z121 (Int.ofNat 5)) (
 Ld H p 6 fun v122 =>
 AsNat .u64 v122 fun n123 =>
 Call1 Try.prog con 68 [(ptr q 0), (u64 ((Nat.mod (Nat.add n123 2) 18446744073709551616)))] H fun v124 H125 =>
 Sc v124 (St H125 p 6 [v124] fun H126 =>
 Call1 Try.prog con 69 [(ptr p 0)] H126 fun v127 H128 =>
 Ld H128 p 3 fun v129 =>
 AsInt .i64 v129 fun z130 =>
 Cd (eqZ z130 (Int.ofNat 7)) (
 Ld H128 p 11 fun v131 =>
 Sc v131 (St H128 p 10 [v131] fun H132 =>
 Ld H132 p 3 fun v133 =>
 AsInt .i64 v133 fun z134 =>
 K (.bool (eqZ z134 (Int.ofNat 7))) H132)) (
 Ld H128 p 3 fun v135 =>
 AsInt .i64 v135 fun z136 =>
 K (.bool (eqZ z136 (Int.ofNat 7))) H128))) (
 AsInt .i64 v1 fun z137 =>
 Cd (eqZ z137 (Int.ofNat 6)) (
 Ld H p 4 fun v138 =>
 AsNat .u64 v138 fun n139 =>
 Ld H p 6 fun v140 =>
 Call1 Try.prog con 71 [(ptr q 0), (u64 ((Nat.mod (Nat.add n139 2) 18446744073709551616))), v140] H fun v141 H142 =>
 Call1 Try.prog con 67 [(ptr p 0)] H142 fun v143 H144 =>
 Ld H144 p 3 fun v145 =>
 AsInt .i64 v145 fun z146 =>
 Cd (eqZ z146 (Int.ofNat 7)) (
 Ld H144 p 11 fun v147 =>
 Sc v147 (St H144 p 10 [v147] fun H148 =>
 Ld H148 p 3 fun v149 =>
 AsInt .i64 v149 fun z150 =>
 K (.bool (eqZ z150 (Int.ofNat 7))) H148)) (
 Ld H144 p 3 fun v151 =>
 AsInt .i64 v151 fun z152 =>
 K (.bool (eqZ z152 (Int.ofNat 7))) H144)) (
 Ld H p 3 fun v153 =>
 AsInt .i64 v153 fun z154 =>
 Cd (eqZ z154 (Int.ofNat 7)) (
 Ld H p 11 fun v155 =>
 Sc v155 (St H p 10 [v155] fun H156 =>
 Ld H156 p 3 fun v157 =>
 AsInt .i64 v157 fun z158 =>
 K (.bool (eqZ z158 (Int.ofNat 7))) H156)) (
 Ld H p 3 fun v159 =>
 AsInt .i64 v159 fun z160 =>
 K (.bool (eqZ z160 (Int.ofNat 7))) H))))))))) := by kernel_rfl
theorem cutOn_W (con : CallT) (p : Nat) (H : CH) (K : KP) : funW Try.prog con 69 [ptr p 0] H K =
 (St H p 3 [(iN (4))] fun H1 =>
 Ld H1 p 6 fun v2 =>
 AsNat .u64 v2 fun n3 =>
 Cd (eqN n3 0) (
 Call1 Try.prog con 70 [(ptr p 0)] H1 fun v4 H5 =>
 K unit H5) (
 K unit H1)) := by kernel_rfl
theorem cutStay_W (con : CallT) (p : Nat) (H : CH) (K : KP) : funW Try.prog con 70 [ptr p 0] H K =
 (Ld H p 6 fun v1 =>
 Ld H p 7 fun v2 =>
 AsNat .u64 v1 fun n3 =>
 AsNat .u64 v2 fun n4 =>
 Cd (notB (eqN n3 n4)) (
 St H p 3 [(iN (6))] fun H5 =>
 K unit H5) (
 Call1 Try.prog con 67 [(ptr p 0)] H fun v6 H7 =>
 K unit H7)) := by kernel_rfl
theorem cutFurther_W (con : CallT) (p : Nat) (H : CH) (K : KP) : funW Try.prog con 67 [ptr p 0] H K =
 (St H p 3 [(iN (7))] fun H1 =>
 Ld H1 p 6 fun v2 =>
 AsNat .u64 v2 fun n3 =>
 Cd (notB (eqN n3 0)) (
 Ld H1 p 6 fun v4 =>
 Ld H1 p 8 fun v5 =>
 Sc v4 (St H1 p 4 [v4] fun H6 =>
 Sc v5 (St H6 p 5 [v5] fun H7 =>
 St H7 p 3 [(iN (3))] fun H8 =>
 K unit H8))) (
 K unit H1)) := by kernel_rfl
theorem cutCount_W (con : CallT) (p : Nat) (H : CH) (K : KP) : funW Try.prog con 24 [ptr p 0] H K =
 (Ld H p 3 fun v1 =>
 AsInt .i64 v1 fun z2 =>
 Cd (notB (eqZ z2 (Int.ofNat 7))) (
 K (u64 (0)) H) (
 Ld H p 9 fun v3 =>
 K v3 H)) := by kernel_rfl
theorem cutHead_W (con : CallT) (p : Nat) (H : CH) (K : KP) : funW Try.prog con 25 [ptr p 0] H K =
 (Ld H p 10 fun v1 =>
 K v1 H) := by kernel_rfl
theorem indexFL_W (con : CallT) (a : TF) (H : CH) (K : KX) : codeW (lpAt Try.prog 49 0) Try.prog con a H K =
 (AsInt .i64 (a 8) fun z1 =>
 AsInt .i64 (a 7) fun z2 =>
 Cd (ltZ z1 z2) (
 AsSlc (a 0) fun p3 o4 l5 c6 =>
 AsCnt (a 8) fun n7 =>
 Must (ltN n7 l5) (
 Ld H p3 (Nat.add o4 (Nat.mul n7 1)) fun v8 =>
 AsFn (a 1) fun g9 l10 l11 =>
 Must (isFunT Try.prog g9) (
 Call1 Try.prog con g9 (appF l10 (v8 :: l11)) H fun v12 H13 =>
 AsBool v12 fun b14 =>
 Cd b14 (
 K .ret (upd (upd (upd (upd (upd (upd (upd (upd (upd (upd (upd a 9 (.bool (ltZ z1 z2))) 10 (a 8)) 5 (a 8)) 11 (a 1)) 12 (a 0)) 13 (a 8)) 14 (ptr p3 (Nat.add o4 (Nat.mul n7 1)))) 15 v8) 16 v12) 17 (a 8)) 4 (a 8)) H13) (
 AsInt .i64 (a 8) fun z15 =>
 InR (Int.add z15 (Int.ofNat 1)) (
 K .normal (upd (upd (upd (upd (upd (upd (upd (upd (upd (upd (upd a 9 (.bool (ltZ z1 z2))) 10 (a 8)) 5 (a 8)) 11 (a 1)) 12 (a 0)) 13 (a 8)) 14 (ptr p3 (Nat.add o4 (Nat.mul n7 1)))) 15 v8) 16 v12) 18 (i64 (Int.add z15 (Int.ofNat 1)))) 8 (i64 (Int.add z15 (Int.ofNat 1)))) H13))))) (
 K (.exit 0) (upd a 9 (.bool (ltZ z1 z2))) H)) := by kernel_rfl
theorem refNeededL_W (con : CallT) (a : TF) (H : CH) (K : KX) : codeW (lpAt Try.prog 26 0) Try.prog con a H K =
 (AsPtr (a 3) fun p1 o2 =>
 Ld H p1 (Nat.add o2 1) fun v3 =>
 AsLen v3 fun l4 =>
 AsInt .i64 (a 7) fun z5 =>
 Cd (ltZ z5 (Int.ofNat l4)) (
 AsPtr (a 3) fun p6 o7 =>
 Ld H p6 (Nat.add o7 1) fun v8 =>
 AsSlc v8 fun p9 o10 l11 c12 =>
 AsCnt (a 7) fun n13 =>
 Must (ltN n13 l11) (
 Ld H p9 (Nat.add o10 (Nat.mul n13 1)) fun v14 =>
 AsNat .u64 v14 fun n15 =>
 AsNat .u64 (a 1) fun n16 =>
 Cd (leN n16 n15) (
 AsPtr (a 3) fun p17 o18 =>
 Ld H p17 (Nat.add o18 1) fun v19 =>
 AsSlc v19 fun p20 o21 l22 c23 =>
 AsCnt (a 7) fun n24 =>
 Must (ltN n24 l22) (
 Ld H p20 (Nat.add o21 (Nat.mul n24 1)) fun v25 =>
 AsNat .u64 v25 fun n26 =>
 AsNat .u64 (a 2) fun n27 =>
 Cd (ltN n26 n27) (
 K .ret (upd (upd (upd (upd (upd (upd (upd (upd (upd (upd (upd (upd (upd (upd (upd (upd (upd (upd (upd (upd (upd (upd (upd (upd (upd (upd (upd (upd (upd a 15 (a 7)) 16 (ptr p1 (Nat.add o2 1))) 17 v3) 18 (iN (l4))) 19 (.bool (ltZ z5 (Int.ofNat l4)))) 22 (ptr p6 (Nat.add o7 1))) 23 v8) 24 (a 7)) 25 (ptr p9 (Nat.add o10 (Nat.mul n13 1)))) 26 v14) 27 (a 1)) 28 (.bool (leN n16 n15))) 29 (.bool (leN n16 n15))) 29 (.bool true)) 30 (ptr p17 (Nat.add o18 1))) 29 (.bool true)) 31 v19) 29 (.bool true)) 32 (a 7)) 29 (.bool true)) 33 (ptr p20 (Nat.add o21 (Nat.mul n24 1)))) 29 (.bool true)) 34 v25) 29 (.bool true)) 35 (a 2)) 29 (.bool true)) 36 (.bool (ltN n26 n27))) 37 (.bool (ltN n26 n27))) 6 (.bool true)) H) (
 AsInt .i64 (a 7) fun z28 =>
 InR (Int.add z28 (Int.ofNat 1)) (
 K .normal (upd (upd (upd (upd (upd (upd (upd (upd (upd (upd (upd (upd (upd (upd (upd (upd (upd (upd (upd (upd (upd (upd (upd (upd (upd (upd (upd (upd (upd (upd (upd a 15 (a 7)) 16 (ptr p1 (Nat.add o2 1))) 17 v3) 18 (iN (l4))) 19 (.bool (ltZ z5 (Int.ofNat l4)))) 22 (ptr p6 (Nat.add o7 1))) 23 v8) 24 (a 7)) 25 (ptr p9 (Nat.add o10 (Nat.mul n13 1)))) 26 v14) 27 (a 1)) 28 (.bool (leN n16 n15))) 29 (.bool (leN n16 n15))) 29 (.bool true)) 30 (ptr p17 (Nat.add o18 1))) 29 (.bool true)) 31 v19) 29 (.bool true)) 32 (a 7)) 29 (.bool true)) 33 (ptr p20 (Nat.add o21 (Nat.mul n24 1)))) 29 (.bool true)) 34 v25) 29 (.bool true)) 35 (a 2)) 29 (.bool true)) 36 (.bool (ltN n26 n27))) 37 (.bool (ltN n26 n27))) 20 (a 7)) 21 (i64 (Int.add z28 (Int.ofNat 1)))) 7 (i64 (Int.add z28 (Int.ofNat 1)))) H)))) (
 AsInt .i64 (a 7) fun z29 =>
 InR (Int.add z29 (Int.ofNat 1)) (
 K .normal (upd (upd (upd (upd (upd (upd (upd (upd (upd (upd (upd (upd (upd (upd (upd (upd (upd (upd (upd (upd (upd (upd (upd (upd (upd (upd (upd (upd (upd (upd (upd a 15 (a 7)) 16 (ptr p1 (Nat.add o2 1))) 17 v3) 18 (iN (l4))) 19 (.bool (ltZ z5 (Int.ofNat l4)))) 22 (ptr p6 (Nat.add o7 1))) 23 v8) 24 (a 7)) 25 (ptr p9 (Nat.add o10 (Nat.mul n13 1)))) 26 v14) 27 (a 1)) 28 (.bool (leN n16 n15))) 29 (.bool (leN n16 n15))) 29 (.bool false)) 30 unit) 29 (.bool false)) 31 unit) 29 (.bool false)) 32 unit) 29 (.bool false)) 33 unit) 29 (.bool false)) 34 unit) 29 (.bool false)) 35 unit) 29 (.bool false)) 36 unit) 37 (.bool false)) 20 (a 7)) 21 (i64 (Int.add z29 (Int.ofNat 1)))) 7 (i64 (Int.add z29 (Int.ofNat 1)))) H)))) (
 K (.exit 0) (upd (upd (upd (upd (upd a 15 (a 7)) 16 (ptr p1 (Nat.add o2 1))) 17 v3) 18 (iN (l4))) 19 (.bool (ltZ z5 (Int.ofNat l4)))) H)) := by kernel_rfl
end Go.Proofs.Ytlabejmlkhgeoaa

/- What some functions' texts ask for, step by step, each checked by the kernel. No conditions. -/
set_option linter.unusedVariables false
set_option maxRecDepth 100000
namespace Go.Proofs.Ytlabejmlkhgeoaa
open Go Go.CM
theorem cutKeeps_W (con : CallT) (xv : Value) (fl : Nat) (xn xa : Value) (H : CH) (K : KP) : funW Try.prog con 4 [xv, .agg ⟨[u64 fl, xn]⟩, xa] H K =
 (Nw H (mkRow 45 0 [(u64 (fl)), xn]) fun p1 H2 =>
 Call1 Try.prog con 18 [] H2 fun v3 H4 =>
 AsBool v3 fun b5 =>
 Cd (notB b5) (
 K (.bool false) H4) (
 Call1 Try.prog con 19 [xv] H4 fun v6 H7 =>
 AsBool v6 fun b8 =>
 Cd (notB b8) (
 K (.bool true) H7) (
 AsLen xv fun l9 =>
 Cd (ltZ (Int.ofNat 1000) (Int.ofNat l9)) (
 K (.bool true) H7) (
 Call1 Try.prog con 7 [(iN (8192)), (.bool false)] H7 fun v10 H11 =>
 AsTup v10 fun l12 =>
 Nth l12 0 fun v13 =>
 AsTup v10 fun l14 =>
 Nth l14 1 fun v15 =>
 AsInt .i64 v15 fun z16 =>
 Cd (notB (eqZ z16 (Int.ofNat 0))) (
 K (.bool false) H11) (
 Call1 Try.prog con 11 [v13, (iN (0))] H11 fun v17 H18 =>
 Call1 Try.prog con 20 [v17, xv] H18 fun v19 H20 =>
 Call1 Try.prog con 21 [v13, v19] H20 fun v21 H22 =>
 Ld H22 p1 0 fun v23 =>
 Ld H22 p1 1 fun v24 =>
 Call1 Try.prog con 22 [(u64 (1)), v19, (.agg ⟨[v23, v24]⟩)] H22 fun v25 H26 =>
 Call1 Try.prog con 23 [v17, (.iface 50 v25), (iN (1099511627776))] H26 fun v27 H28 =>
 AsBool v27 fun b29 =>
 Cd (notB b29) (
 K (.bool false) H28) (
 Call1 Try.prog con 21 [v13, v19] H28 fun v30 H31 =>
 AsLen v21 fun l32 =>
 AsLen xv fun l33 =>
 Cd (notB (eqZ (Int.ofNat l32) (Int.ofNat l33))) (
 K (.bool false) H31) (
 AsLen v30 fun l34 =>
 Must (cvOk .i64 (Int.ofNat l34)) (
 Call1 Try.prog con 24 [v25] H31 fun v35 H36 =>
 AsNat .u64 v35 fun n37 =>
 AsLen v21 fun l38 =>
 Must (cvOk .i64 (Int.ofNat l38)) (
 Cd (notB (eqN (Nat.mod (Nat.add (wrapN .u64 (Int.ofNat l34)) n37) 18446744073709551616) (wrapN .u64 (Int.ofNat l38)))) (
 K (.bool false) H36) (
 AsLen v21 fun l39 =>
 Cd (ltZ (Int.ofNat 0) (Int.ofNat l39)) (
 AsLen v30 fun l40 =>
 Cd (eqZ (Int.ofNat l40) (Int.ofNat 0)) (
 K (.bool false) H36) (
 AsSlc v30 fun p41 o42 l43 c44 =>
 Must (ltN 0 l43) (
 Ld H36 p41 (Nat.add (Nat.add o42 0) 0) fun v45 =>
 Ld H36 p41 (Nat.add (Nat.add o42 0) 1) fun v46 =>
 AsSlc v21 fun p47 o48 l49 c50 =>
 Must (ltN 0 l49) (
 Ld H36 p47 (Nat.add (Nat.add o48 0) 0) fun v51 =>
 Ld H36 p47 (Nat.add (Nat.add o48 0) 1) fun v52 =>
 OpN Try.prog H36 (upd (upd (upd (upd (upd (upd (upd (upd (upd (upd (upd (upd (upd (upd (upd (upd (upd (upd (upd (upd (upd (upd (upd (upd (upd (upd (upd (upd (upd (upd (upd (upd (upd (upd (upd (upd (upd (upd (upd (upd (upd (upd (upd (upd (upd (upd (upd (upd (upd (upd (upd (upd (upd (upd (upd (upd (upd (upd (upd (upd (upd (upd (upd (upd (upd (upd (upd (upd (upd (upd (upd (upd (upd (upd (upd (upd (upd (upd (upd (upd (upd (upd (upd (upd (upd (upd (upd (upd (upd (upd (upd (upd (upd (upd (upd (upd (upd (upd (upd (upd (upd (upd (upd (upd (upd (upd (upd (fun _ => undV) 2 xa) 1 (.agg ⟨[(u64 (fl)), xn]⟩)) 0 xv) 4 (ptr p1 0)) 6 (.bool false)) 18 v3) 19 (.bool (notB b5))) 20 xv) 21 v6) 22 (.bool (notB b8))) 23 (.bool (notB b8))) 23 (.bool false)) 24 xv) 23 (.bool false)) 25 (iN (l9))) 23 (.bool false)) 26 (.bool (ltZ (Int.ofNat 1000) (Int.ofNat l9)))) 27 (.bool (ltZ (Int.ofNat 1000) (Int.ofNat l9)))) 29 v10) 28 v10) 30 v13) 31 v15) 7 v13) 8 v15) 32 v15) 33 (.bool (notB (eqZ z16 (Int.ofNat 0))))) 34 v13) 35 v17) 9 v17) 36 v17) 37 xv) 38 v19) 10 v19) 39 v13) 40 v19) 41 v21) 11 v21) 42 v19) 43 (.agg ⟨[v23, v24]⟩)) 44 v25) 12 v25) 45 v17) 46 v25) 47 (.iface 50 v25)) 48 v27) 49 (.bool (notB b29))) 50 v13) 51 v19) 52 v30) 13 v30) 53 v21) 54 (iN (l32))) 55 xv) 56 (iN (l33))) 57 (.bool (notB (eqZ (Int.ofNat l32) (Int.ofNat l33))))) 58 (.bool (notB (eqZ (Int.ofNat l32) (Int.ofNat l33))))) 58 (.bool false)) 59 v30) 58 (.bool false)) 60 (iN (l34))) 58 (.bool false)) 61 (u64 ((wrapN .u64 (Int.ofNat l34))))) 58 (.bool false)) 62 v25) 58 (.bool false)) 63 v35) 58 (.bool false)) 64 (u64 ((Nat.mod (Nat.add (wrapN .u64 (Int.ofNat l34)) n37) 18446744073709551616)))) 58 (.bool false)) 65 v21) 58 (.bool false)) 66 (iN (l38))) 58 (.bool false)) 67 (u64 ((wrapN .u64 (Int.ofNat l38))))) 58 (.bool false)) 68 (.bool (notB (eqN (Nat.mod (Nat.add (wrapN .u64 (Int.ofNat l34)) n37) 18446744073709551616) (wrapN .u64 (Int.ofNat l38)))))) 69 (.bool (notB (eqN (Nat.mod (Nat.add (wrapN .u64 (Int.ofNat l34)) n37) 18446744073709551616) (wrapN .u64 (Int.ofNat l38)))))) 70 (.bool (notB (eqN (Nat.mod (Nat.add (wrapN .u64 (Int.ofNat l34)) n37) 18446744073709551616) (wrapN .u64 (Int.ofNat l38)))))) 70 (.bool false)) 71 v21) 70 (.bool false)) 72 (iN (l39))) 70 (.bool false)) 73 (.bool (ltZ (Int.ofNat 0) (Int.ofNat l39)))) 70 (.bool false)) 74 (.bool (ltZ (Int.ofNat 0) (Int.ofNat l39)))) 74 (.bool true)) 75 v30) 74 (.bool true)) 76 (iN (l40))) 74 (.bool true)) 77 (.bool (eqZ (Int.ofNat l40) (Int.ofNat 0)))) 74 (.bool true)) 78 (.bool (eqZ (Int.ofNat l40) (Int.ofNat 0)))) 78 (.bool false)) 79 v30) 78 (.bool false)) 80 (ptr p41 (Nat.add o42 0))) 78 (.bool false)) 81 (.agg ⟨[v45, v46]⟩)) 78 (.bool false)) 82 v21) 78 (.bool false)) 83 (ptr p47 (Nat.add o48 0))) 78 (.bool false)) 84 (.agg ⟨[v51, v52]⟩)) 78 (.bool false)) (.binOp .neq 55 (.tmp 81) (.tmp 84) 55) fun v53 H54 =>
 AsWant v53 (False) fun b55 =>
 Cd b55 (
 K (.bool false) H54) (
 Call1 Try.prog con 25 [v25] H54 fun v56 H57 =>
 AsSlc v21 fun p58 o59 l60 c61 =>
 Must (ltN 0 l60) (
 Ld H57 p58 (Nat.add (Nat.add o59 0) 0) fun v62 =>
 AsNat .u64 v56 fun n63 =>
 AsNat .u64 v62 fun n64 =>
 Ld H54 p58 (Nat.add (Nat.add o59 0) 0) fun v65 =>
 Same v62 v65 (
 Ld H57 p58 (Nat.add (Nat.add o59 0) 0) fun v66 =>
 Same v62 v66 (
 Cd (notB (eqN n63 n64)) (
 K (.bool false) H57) (
 Nw H57 (mkRow 22 0 []) fun p67 H68 =>
 App Try.prog 23 23 H68 (.slice (some ⟨p67, 0, none⟩) 0 0) xa fun v69 H70 =>
 Ld H70 p1 1 fun v71 =>
 App Try.prog 23 23 H70 v69 v71 fun v72 H73 =>
 Ld H57 p1 1 fun v74 =>
 Same v71 v74 (
 Ld H68 p1 1 fun v75 =>
 Same v71 v75 (
 Ld H70 p1 1 fun v76 =>
 Same v71 v76 (
 LoopC Try.prog con (lpAt Try.prog 4 0) (upd (upd (upd (upd (upd (upd (upd (upd (upd (upd (upd (upd (upd (upd (upd (upd (upd (upd (upd (upd (upd (upd (upd (upd (upd (upd (upd (upd (upd (upd (upd (upd (upd (upd (upd (upd (upd (upd (upd (upd (upd (upd (upd (upd (upd (upd (upd (upd (upd (upd (upd (upd (upd (upd (upd (upd (upd (upd (upd (upd (upd (upd (upd (upd (upd (upd (upd (upd (upd (upd (upd (upd (upd (upd (upd (upd (upd (upd (upd (upd (upd (upd (upd (upd (upd (upd (upd (upd (upd (upd (upd (upd (upd (upd (upd (upd (upd (upd (upd (upd (upd (upd (upd (upd (upd (upd (upd (upd (upd (upd (upd (upd (upd (upd (upd (upd (upd (upd (upd (upd (upd (upd (upd (upd (upd (upd (upd (upd (upd (upd (upd (upd (upd (upd (upd (upd (upd (upd (upd (fun _ => undV) 2 xa) 1 (.agg ⟨[(u64 (fl)), xn]⟩)) 0 xv) 4 (ptr p1 0)) 6 (.bool false)) 18 v3) 19 (.bool (notB b5))) 20 xv) 21 v6) 22 (.bool (notB b8))) 23 (.bool (notB b8))) 23 (.bool false)) 24 xv) 23 (.bool false)) 25 (iN (l9))) 23 (.bool false)) 26 (.bool (ltZ (Int.ofNat 1000) (Int.ofNat l9)))) 27 (.bool (ltZ (Int.ofNat 1000) (Int.ofNat l9)))) 29 v10) 28 v10) 30 v13) 31 v15) 7 v13) 8 v15) 32 v15) 33 (.bool (notB (eqZ z16 (Int.ofNat 0))))) 34 v13) 35 v17) 9 v17) 36 v17) 37 xv) 38 v19) 10 v19) 39 v13) 40 v19) 41 v21) 11 v21) 42 v19) 43 (.agg ⟨[v23, v24]⟩)) 44 v25) 12 v25) 45 v17) 46 v25) 47 (.iface 50 v25)) 48 v27) 49 (.bool (notB b29))) 50 v13) 51 v19) 52 v30) 13 v30) 53 v21) 54 (iN (l32))) 55 xv) 56 (iN (l33))) 57 (.bool (notB (eqZ (Int.ofNat l32) (Int.ofNat l33))))) 58 (.bool (notB (eqZ (Int.ofNat l32) (Int.ofNat l33))))) 58 (.bool false)) 59 v30) 58 (.bool false)) 60 (iN (l34))) 58 (.bool false)) 61 (u64 ((wrapN .u64 (Int.ofNat l34))))) 58 (.bool false)) 62 v25) 58 (.bool false)) 63 v35) 58 (.bool false)) 64 (u64 ((Nat.mod (Nat.add (wrapN .u64 (Int.ofNat l34)) n37) 18446744073709551616)))) 58 (.bool false)) 65 v21) 58 (.bool false)) 66 (iN (l38))) 58 (.bool false)) 67 (u64 ((wrapN .u64 (Int.ofNat l38))))) 58 (.bool false)) 68 (.bool (notB (eqN (Nat.mod (Nat.add (wrapN .u64 (Int.ofNat l34)) n37) 18446744073709551616) (wrapN .u64 (Int.ofNat l38)))))) 69 (.bool (notB (eqN (Nat.mod (Nat.add (wrapN .u64 (Int.ofNat l34)) n37) 18446744073709551616) (wrapN .u64 (Int.ofNat l38)))))) 70 (.bool (notB (eqN (Nat.mod (Nat.add (wrapN .u64 (Int.ofNat l34)) n37) 18446744073709551616) (wrapN .u64 (Int.ofNat l38)))))) 70 (.bool false)) 71 v21) 70 (.bool false)) 72 (iN (l39))) 70 (.bool false)) 73 (.bool (ltZ (Int.ofNat 0) (Int.ofNat l39)))) 70 (.bool false)) 74 (.bool (ltZ (Int.ofNat 0) (Int.ofNat l39)))) 74 (.bool true)) 75 v30) 74 (.bool true)) 76 (iN (l40))) 74 (.bool true)) 77 (.bool (eqZ (Int.ofNat l40) (Int.ofNat 0)))) 74 (.bool true)) 78 (.bool (eqZ (Int.ofNat l40) (Int.ofNat 0)))) 78 (.bool false)) 79 v30) 78 (.bool false)) 80 (ptr p41 (Nat.add o42 0))) 78 (.bool false)) 81 (.agg ⟨[v45, v46]⟩)) 78 (.bool false)) 82 v21) 78 (.bool false)) 83 (ptr p47 (Nat.add o48 0))) 78 (.bool false)) 84 (.agg ⟨[v51, v52]⟩)) 78 (.bool false)) 85 v53) 74 (.bool true)) 86 v53) 74 (.bool true)) 87 v53) 87 (.bool false)) 88 v25) 87 (.bool false)) 89 v56) 87 (.bool false)) 90 v21) 87 (.bool false)) 91 (ptr p58 (Nat.add o59 0))) 87 (.bool false)) 92 (ptr p58 (Nat.add (Nat.add o59 0) 0))) 87 (.bool false)) 93 v62) 87 (.bool false)) 94 (.bool (notB (eqN n63 n64)))) 74 (.bool true)) 95 (.bool (notB (eqN n63 n64)))) 70 (.bool false)) 96 (.bool (notB (eqN n63 n64)))) 97 (.bool (notB (eqN n63 n64)))) 98 (.slice (some ⟨p67, 0, none⟩) 0 0)) 99 xa) 100 v69) 101 (ptr p1 1)) 102 v71) 103 v72) 14 v72) 15 (iN (0))) H73 (fun e => ceP e
 (fun a77 H78 =>
 LoopC Try.prog con (lpAt Try.prog 4 1) (upd a77 16 (iN (1))) H78 (fun e => ceP e
 (fun a80 H81 =>
 K (.bool true) H81)
 (fun i82 => fun a80 H81 =>
 Cd (eqN i82 2) (
 K (.bool true) H81) (
 False))
 (fun a80 H81 =>
 K (a80 6) H81)))
 (fun i79 => fun a77 H78 =>
 Cd (eqN i79 0) (
 LoopC Try.prog con (lpAt Try.prog 4 1) (upd a77 16 (iN (1))) H78 (fun e => ceP e
 (fun a83 H84 =>
 K (.bool true) H84)
 (fun i85 => fun a83 H84 =>
 Cd (eqN i85 2) (
 K (.bool true) H84) (
 False))
 (fun a83 H84 =>
 K (a83 6) H84))) (
 False))
 (fun a77 H78 =>
 K (a77 6) H78)))))))))))))) (
 Nw H36 (mkRow 22 0 []) fun p86 H87 =>
 App Try.prog 23 23 H87 (.slice (some ⟨p86, 0, none⟩) 0 0) xa fun v88 H89 =>
 Ld H89 p1 1 fun v90 =>
 App Try.prog 23 23 H89 v88 v90 fun v91 H92 =>
 Ld H36 p1 1 fun v93 =>
 Same v90 v93 (
 Ld H87 p1 1 fun v94 =>
 Same v90 v94 (
 Ld H89 p1 1 fun v95 =>
 Same v90 v95 (
 LoopC Try.prog con (lpAt Try.prog 4 0) (upd (upd (upd (upd (upd (upd (upd (upd (upd (upd (upd (upd (upd (upd (upd (upd (upd (upd (upd (upd (upd (upd (upd (upd (upd (upd (upd (upd (upd (upd (upd (upd (upd (upd (upd (upd (upd (upd (upd (upd (upd (upd (upd (upd (upd (upd (upd (upd (upd (upd (upd (upd (upd (upd (upd (upd (upd (upd (upd (upd (upd (upd (upd (upd (upd (upd (upd (upd (upd (upd (upd (upd (upd (upd (upd (upd (upd (upd (upd (upd (upd (upd (upd (upd (upd (upd (upd (upd (upd (upd (upd (upd (upd (upd (upd (upd (upd (upd (upd (upd (upd (upd (upd (upd (upd (upd (upd (upd (upd (upd (upd (upd (upd (upd (upd (upd (upd (upd (upd (upd (upd (upd (upd (upd (upd (upd (upd (upd (upd (upd (upd (upd (upd (upd (upd (upd (upd (upd (upd (fun _ => undV) 2 xa) 1 (.agg ⟨[(u64 (fl)), xn]⟩)) 0 xv) 4 (ptr p1 0)) 6 (.bool false)) 18 v3) 19 (.bool (notB b5))) 20 xv) 21 v6) 22 (.bool (notB b8))) 23 (.bool (notB b8))) 23 (.bool false)) 24 xv) 23 (.bool false)) 25 (iN (l9))) 23 (.bool false)) 26 (.bool (ltZ (Int.ofNat 1000) (Int.ofNat l9)))) 27 (.bool (ltZ (Int.ofNat 1000) (Int.ofNat l9)))) 29 v10) 28 v10) 30 v13) 31 v15) 7 v13) 8 v15) 32 v15) 33 (.bool (notB (eqZ z16 (Int.ofNat 0))))) 34 v13) 35 v17) 9 v17) 36 v17) 37 xv) 38 v19) 10 v19) 39 v13) 40 v19) 41 v21) 11 v21) 42 v19) 43 (.agg ⟨[v23, v24]⟩)) 44 v25) 12 v25) 45 v17) 46 v25) 47 (.iface 50 v25)) 48 v27) 49 (.bool (notB b29))) 50 v13) 51 v19) 52 v30) 13 v30) 53 v21) 54 (iN (l32))) 55 xv) 56 (iN (l33))) 57 (.bool (notB (eqZ (Int.ofNat l32) (Int.ofNat l33))))) 58 (.bool (notB (eqZ (Int.ofNat l32) (Int.ofNat l33))))) 58 (.bool false)) 59 v30) 58 (.bool false)) 60 (iN (l34))) 58 (.bool false)) 61 (u64 ((wrapN .u64 (Int.ofNat l34))))) 58 (.bool false)) 62 v25) 58 (.bool false)) 63 v35) 58 (.bool false)) 64 (u64 ((Nat.mod (Nat.add (wrapN .u64 (Int.ofNat l34)) n37) 18446744073709551616)))) 58 (.bool false)) 65 v21) 58 (.bool false)) 66 (iN (l38))) 58 (.bool false)) 67 (u64 ((wrapN .u64 (Int.ofNat l38))))) 58 (.bool false)) 68 (.bool (notB (eqN (Nat.mod (Nat.add (wrapN .u64 (Int.ofNat l34)) n37) 18446744073709551616) (wrapN .u64 (Int.ofNat l38)))))) 69 (.bool (notB (eqN (Nat.mod (Nat.add (wrapN .u64 (Int.ofNat l34)) n37) 18446744073709551616) (wrapN .u64 (Int.ofNat l38)))))) 70 (.bool (notB (eqN (Nat.mod (Nat.add (wrapN .u64 (Int.ofNat l34)) n37) 18446744073709551616) (wrapN .u64 (Int.ofNat l38)))))) 70 (.bool false)) 71 v21) 70 (.bool false)) 72 (iN (l39))) 70 (.bool false)) 73 (.bool (ltZ (Int.ofNat 0) (Int.ofNat l39)))) 70 (.bool false)) 74 (.bool (ltZ (Int.ofNat 0) (Int.ofNat l39)))) 74 (.bool false)) 75 unit) 74 (.bool false)) 76 unit) 74 (.bool false)) 77 unit) 74 (.bool false)) 78 unit) 78 unit) 79 unit) 78 unit) 80 unit) 78 unit) 81 unit) 78 unit) 82 unit) 78 unit) 83 unit) 78 unit) 84 unit) 78 unit) 85 unit) 74 (.bool false)) 86 unit) 74 (.bool false)) 87 unit) 87 unit) 88 unit) 87 unit) 89 unit) 87 unit) 90 unit) 87 unit) 91 unit) 87 unit) 92 unit) 87 unit) 93 unit) 87 unit) 94 unit) 74 (.bool false)) 95 unit) 70 (.bool false)) 96 (.bool false)) 97 (.bool false)) 98 (.slice (some ⟨p86, 0, none⟩) 0 0)) 99 xa) 100 v88) 101 (ptr p1 1)) 102 v90) 103 v91) 14 v91) 15 (iN (0))) H92 (fun e => ceP e
 (fun a96 H97 =>
 LoopC Try.prog con (lpAt Try.prog 4 1) (upd a96 16 (iN (1))) H97 (fun e => ceP e
 (fun a99 H100 =>
 K (.bool true) H100)
 (fun i101 => fun a99 H100 =>
 Cd (eqN i101 2) (
 K (.bool true) H100) (
 False))
 (fun a99 H100 =>
 K (a99 6) H100)))
 (fun i98 => fun a96 H97 =>
 Cd (eqN i98 0) (
 LoopC Try.prog con (lpAt Try.prog 4 1) (upd a96 16 (iN (1))) H97 (fun e => ceP e
 (fun a102 H103 =>
 K (.bool true) H103)
 (fun i104 => fun a102 H103 =>
 Cd (eqN i104 2) (
 K (.bool true) H103) (
 False))
 (fun a102 H103 =>
 K (a102 6) H103))) (
 False))
 (fun a96 H97 =>
 K (a96 6) H97)))))))))))))))) := by kernel_rfl
theorem cutKeepsA_W (con : CallT) (a : TF) (H : CH) (K : KX) : codeW (lpAt Try.prog 4 0) Try.prog con a H K =
 (AsLen (a 14) fun l1 =>
 AsInt .i64 (a 15) fun z2 =>
 Cd (ltZ z2 (Int.ofNat l1)) (
 AsPtr (a 4) fun p3 o4 =>
 Ld H p3 (Nat.add o4 0) fun v5 =>
 Ld H p3 (Nat.add o4 1) fun v6 =>
 AsSlc (a 14) fun p7 o8 l9 c10 =>
 AsCnt (a 15) fun n11 =>
 Must (ltN n11 l9) (
 Ld H p7 (Nat.add o8 (Nat.mul n11 1)) fun v12 =>
 AsSlc (a 14) fun p13 o14 l15 c16 =>
 AsCnt (a 15) fun n17 =>
 Must (ltN n17 l15) (
 Ld H p13 (Nat.add o14 (Nat.mul n17 1)) fun v18 =>
 AsNat .u64 v18 fun n19 =>
 Call1 Try.prog con 26 [(.agg ⟨[v5, v6]⟩), v12, (u64 ((Nat.mod (Nat.add n19 1) 18446744073709551616)))] H fun v20 H21 =>
 AsWant v20 (False) fun b22 =>
 Cd b22 (
 AsSlc (a 14) fun p23 o24 l25 c26 =>
 AsCnt (a 15) fun n27 =>
 Must (ltN n27 l25) (
 Ld H21 p23 (Nat.add o24 (Nat.mul n27 1)) fun v28 =>
 Call1 Try.prog con 27 [(a 13), v28] H21 fun v29 H30 =>
 AsSlc (a 14) fun p31 o32 l33 c34 =>
 AsCnt (a 15) fun n35 =>
 Must (ltN n35 l33) (
 Ld H30 p31 (Nat.add o32 (Nat.mul n35 1)) fun v36 =>
 Call1 Try.prog con 27 [(a 11), v36] H30 fun v37 H38 =>
 OpN Try.prog H38 (upd (upd (upd (upd (upd (upd (upd (upd (upd (upd (upd (upd (upd (upd (upd (upd (upd (upd (upd (upd (upd (upd (upd (upd (upd (upd (upd (upd (upd (upd (upd (upd (upd (upd (upd (upd (upd (upd (upd (upd (upd a 104 (a 15)) 105 (a 14)) 106 (iN (l1))) 107 (.bool (ltZ z2 (Int.ofNat l1)))) 110 (.agg ⟨[v5, v6]⟩)) 111 (a 14)) 112 (a 15)) 113 (ptr p7 (Nat.add o8 (Nat.mul n11 1)))) 114 v12) 115 (a 14)) 116 (a 15)) 117 (ptr p13 (Nat.add o14 (Nat.mul n17 1)))) 118 v18) 119 (u64 ((Nat.mod (Nat.add n19 1) 18446744073709551616)))) 120 v20) 121 v20) 121 (.bool true)) 122 (a 13)) 121 (.bool true)) 123 (a 14)) 121 (.bool true)) 124 (a 15)) 121 (.bool true)) 125 (ptr p23 (Nat.add o24 (Nat.mul n27 1)))) 121 (.bool true)) 126 v28) 121 (.bool true)) 127 v29) 121 (.bool true)) 128 (a 11)) 121 (.bool true)) 129 (a 14)) 121 (.bool true)) 130 (a 15)) 121 (.bool true)) 131 (ptr p31 (Nat.add o32 (Nat.mul n35 1)))) 121 (.bool true)) 132 v36) 121 (.bool true)) 133 v37) 121 (.bool true)) (.binOp .neq 55 (.tmp 127) (.tmp 133) 55) fun v39 H40 =>
 Ld H21 p31 (Nat.add o32 (Nat.mul n35 1)) fun v41 =>
 Same v36 v41 (
 Ld H30 p31 (Nat.add o32 (Nat.mul n35 1)) fun v42 =>
 Same v36 v42 (
 AsBool v39 fun b43 =>
 Cd b43 (
 K .ret (upd (upd (upd (upd (upd (upd (upd (upd (upd (upd (upd (upd (upd (upd (upd (upd (upd (upd (upd (upd (upd (upd (upd (upd (upd (upd (upd (upd (upd (upd (upd (upd (upd (upd (upd (upd (upd (upd (upd (upd (upd (upd (upd (upd a 104 (a 15)) 105 (a 14)) 106 (iN (l1))) 107 (.bool (ltZ z2 (Int.ofNat l1)))) 110 (.agg ⟨[v5, v6]⟩)) 111 (a 14)) 112 (a 15)) 113 (ptr p7 (Nat.add o8 (Nat.mul n11 1)))) 114 v12) 115 (a 14)) 116 (a 15)) 117 (ptr p13 (Nat.add o14 (Nat.mul n17 1)))) 118 v18) 119 (u64 ((Nat.mod (Nat.add n19 1) 18446744073709551616)))) 120 v20) 121 v20) 121 (.bool true)) 122 (a 13)) 121 (.bool true)) 123 (a 14)) 121 (.bool true)) 124 (a 15)) 121 (.bool true)) 125 (ptr p23 (Nat.add o24 (Nat.mul n27 1)))) 121 (.bool true)) 126 v28) 121 (.bool true)) 127 v29) 121 (.bool true)) 128 (a 11)) 121 (.bool true)) 129 (a 14)) 121 (.bool true)) 130 (a 15)) 121 (.bool true)) 131 (ptr p31 (Nat.add o32 (Nat.mul n35 1)))) 121 (.bool true)) 132 v36) 121 (.bool true)) 133 v37) 121 (.bool true)) 134 v39) 135 v39) 6 (.bool false)) H40) (
 AsInt .i64 (a 15) fun z44 =>
 InR (Int.add z44 (Int.ofNat 1)) (
 K .normal (upd (upd (upd (upd (upd (upd (upd (upd (upd (upd (upd (upd (upd (upd (upd (upd (upd (upd (upd (upd (upd (upd (upd (upd (upd (upd (upd (upd (upd (upd (upd (upd (upd (upd (upd (upd (upd (upd (upd (upd (upd (upd (upd (upd (upd (upd a 104 (a 15)) 105 (a 14)) 106 (iN (l1))) 107 (.bool (ltZ z2 (Int.ofNat l1)))) 110 (.agg ⟨[v5, v6]⟩)) 111 (a 14)) 112 (a 15)) 113 (ptr p7 (Nat.add o8 (Nat.mul n11 1)))) 114 v12) 115 (a 14)) 116 (a 15)) 117 (ptr p13 (Nat.add o14 (Nat.mul n17 1)))) 118 v18) 119 (u64 ((Nat.mod (Nat.add n19 1) 18446744073709551616)))) 120 v20) 121 v20) 121 (.bool true)) 122 (a 13)) 121 (.bool true)) 123 (a 14)) 121 (.bool true)) 124 (a 15)) 121 (.bool true)) 125 (ptr p23 (Nat.add o24 (Nat.mul n27 1)))) 121 (.bool true)) 126 v28) 121 (.bool true)) 127 v29) 121 (.bool true)) 128 (a 11)) 121 (.bool true)) 129 (a 14)) 121 (.bool true)) 130 (a 15)) 121 (.bool true)) 131 (ptr p31 (Nat.add o32 (Nat.mul n35 1)))) 121 (.bool true)) 132 v36) 121 (.bool true)) 133 v37) 121 (.bool true)) 134 v39) 135 v39) 108 (a 15)) 109 (i64 (Int.add z44 (Int.ofNat 1)))) 15 (i64 (Int.add z44 (Int.ofNat 1)))) H40))))))) (
 AsInt .i64 (a 15) fun z45 =>
 InR (Int.add z45 (Int.ofNat 1)) (
 K .normal (upd (upd (upd (upd (upd (upd (upd (upd (upd (upd (upd (upd (upd (upd (upd (upd (upd (upd (upd (upd (upd (upd (upd (upd (upd (upd (upd (upd (upd (upd (upd (upd (upd (upd (upd (upd (upd (upd (upd (upd (upd (upd (upd (upd (upd (upd a 104 (a 15)) 105 (a 14)) 106 (iN (l1))) 107 (.bool (ltZ z2 (Int.ofNat l1)))) 110 (.agg ⟨[v5, v6]⟩)) 111 (a 14)) 112 (a 15)) 113 (ptr p7 (Nat.add o8 (Nat.mul n11 1)))) 114 v12) 115 (a 14)) 116 (a 15)) 117 (ptr p13 (Nat.add o14 (Nat.mul n17 1)))) 118 v18) 119 (u64 ((Nat.mod (Nat.add n19 1) 18446744073709551616)))) 120 v20) 121 v20) 121 (.bool false)) 122 unit) 121 (.bool false)) 123 unit) 121 (.bool false)) 124 unit) 121 (.bool false)) 125 unit) 121 (.bool false)) 126 unit) 121 (.bool false)) 127 unit) 121 (.bool false)) 128 unit) 121 (.bool false)) 129 unit) 121 (.bool false)) 130 unit) 121 (.bool false)) 131 unit) 121 (.bool false)) 132 unit) 121 (.bool false)) 133 unit) 121 (.bool false)) 134 unit) 135 (.bool false)) 108 (a 15)) 109 (i64 (Int.add z45 (Int.ofNat 1)))) 15 (i64 (Int.add z45 (Int.ofNat 1)))) H21))))) (
 K (.exit 0) (upd (upd (upd (upd a 104 (a 15)) 105 (a 14)) 106 (iN (l1))) 107 (.bool (ltZ z2 (Int.ofNat l1)))) H)) := by kernel_rfl
theorem cutKeepsB_W (con : CallT) (a : TF) (H : CH) (K : KX) : codeW (lpAt Try.prog 4 1) Try.prog con a H K =
 (AsLen (a 13) fun l1 =>
 AsInt .i64 (a 16) fun z2 =>
 Cd (ltZ z2 (Int.ofNat l1)) (
 AsInt .i64 (a 16) fun z3 =>
 InR (Int.sub z3 (Int.ofNat 1)) (
 AsSlc (a 13) fun p4 o5 l6 c7 =>
 AsCnt (i64 (Int.sub z3 (Int.ofNat 1))) fun n8 =>
 Must (ltN n8 l6) (
 Ld H p4 (Nat.add (Nat.add o5 (Nat.mul n8 2)) 1) fun v9 =>
 AsNat .u64 v9 fun n10 =>
 Cd (eqN n10 0) (
 AsPtr (a 4) fun p11 o12 =>
 Ld H p11 (Nat.add o12 0) fun v13 =>
 Ld H p11 (Nat.add o12 1) fun v14 =>
 AsSlc (a 13) fun p15 o16 l17 c18 =>
 AsCnt (a 16) fun n19 =>
 Must (ltN n19 l17) (
 Ld H p15 (Nat.add (Nat.add o16 (Nat.mul n19 2)) 1) fun v20 =>
 Call1 Try.prog con 26 [(.agg ⟨[v13, v14]⟩), v20, (u64 (18446744073709551615))] H fun v21 H22 =>
 AsBool v21 fun b23 =>
 Cd (notB b23) (
 K .ret (upd (upd (upd (upd (upd (upd (upd (upd (upd (upd (upd (upd (upd (upd (upd (upd (upd (upd (upd (upd (upd (upd (upd (upd a 136 (a 16)) 137 (a 13)) 138 (iN (l1))) 139 (.bool (ltZ z2 (Int.ofNat l1)))) 142 (a 13)) 143 (a 16)) 144 (i64 (Int.sub z3 (Int.ofNat 1)))) 145 (ptr p4 (Nat.add o5 (Nat.mul n8 2)))) 146 (ptr p4 (Nat.add (Nat.add o5 (Nat.mul n8 2)) 1))) 147 v9) 17 v9) 148 v9) 149 (.bool (eqN n10 0))) 17 (u64 (18446744073709551615))) 150 (.agg ⟨[v13, v14]⟩)) 151 (a 13)) 152 (a 16)) 153 (ptr p15 (Nat.add o16 (Nat.mul n19 2)))) 154 (ptr p15 (Nat.add (Nat.add o16 (Nat.mul n19 2)) 1))) 155 v20) 156 (u64 (18446744073709551615))) 157 v21) 158 (.bool (notB b23))) 6 (.bool false)) H22) (
 AsInt .i64 (a 16) fun z24 =>
 InR (Int.add z24 (Int.ofNat 1)) (
 K .normal (upd (upd (upd (upd (upd (upd (upd (upd (upd (upd (upd (upd (upd (upd (upd (upd (upd (upd (upd (upd (upd (upd (upd (upd (upd (upd a 136 (a 16)) 137 (a 13)) 138 (iN (l1))) 139 (.bool (ltZ z2 (Int.ofNat l1)))) 142 (a 13)) 143 (a 16)) 144 (i64 (Int.sub z3 (Int.ofNat 1)))) 145 (ptr p4 (Nat.add o5 (Nat.mul n8 2)))) 146 (ptr p4 (Nat.add (Nat.add o5 (Nat.mul n8 2)) 1))) 147 v9) 17 v9) 148 v9) 149 (.bool (eqN n10 0))) 17 (u64 (18446744073709551615))) 150 (.agg ⟨[v13, v14]⟩)) 151 (a 13)) 152 (a 16)) 153 (ptr p15 (Nat.add o16 (Nat.mul n19 2)))) 154 (ptr p15 (Nat.add (Nat.add o16 (Nat.mul n19 2)) 1))) 155 v20) 156 (u64 (18446744073709551615))) 157 v21) 158 (.bool (notB b23))) 140 (a 16)) 141 (i64 (Int.add z24 (Int.ofNat 1)))) 16 (i64 (Int.add z24 (Int.ofNat 1)))) H22)))) (
 AsPtr (a 4) fun p25 o26 =>
 Ld H p25 (Nat.add o26 0) fun v27 =>
 Ld H p25 (Nat.add o26 1) fun v28 =>
 AsSlc (a 13) fun p29 o30 l31 c32 =>
 AsCnt (a 16) fun n33 =>
 Must (ltN n33 l31) (
 Ld H p29 (Nat.add (Nat.add o30 (Nat.mul n33 2)) 1) fun v34 =>
 Call1 Try.prog con 26 [(.agg ⟨[v27, v28]⟩), v34, v9] H fun v35 H36 =>
 AsBool v35 fun b37 =>
 Cd (notB b37) (
 K .ret (upd (upd (upd (upd (upd (upd (upd (upd (upd (upd (upd (upd (upd (upd (upd (upd (upd (upd (upd (upd (upd (upd (upd a 136 (a 16)) 137 (a 13)) 138 (iN (l1))) 139 (.bool (ltZ z2 (Int.ofNat l1)))) 142 (a 13)) 143 (a 16)) 144 (i64 (Int.sub z3 (Int.ofNat 1)))) 145 (ptr p4 (Nat.add o5 (Nat.mul n8 2)))) 146 (ptr p4 (Nat.add (Nat.add o5 (Nat.mul n8 2)) 1))) 147 v9) 17 v9) 148 v9) 149 (.bool (eqN n10 0))) 150 (.agg ⟨[v27, v28]⟩)) 151 (a 13)) 152 (a 16)) 153 (ptr p29 (Nat.add o30 (Nat.mul n33 2)))) 154 (ptr p29 (Nat.add (Nat.add o30 (Nat.mul n33 2)) 1))) 155 v34) 156 v9) 157 v35) 158 (.bool (notB b37))) 6 (.bool false)) H36) (
 AsInt .i64 (a 16) fun z38 =>
 InR (Int.add z38 (Int.ofNat 1)) (
 K .normal (upd (upd (upd (upd (upd (upd (upd (upd (upd (upd (upd (upd (upd (upd (upd (upd (upd (upd (upd (upd (upd (upd (upd (upd (upd a 136 (a 16)) 137 (a 13)) 138 (iN (l1))) 139 (.bool (ltZ z2 (Int.ofNat l1)))) 142 (a 13)) 143 (a 16)) 144 (i64 (Int.sub z3 (Int.ofNat 1)))) 145 (ptr p4 (Nat.add o5 (Nat.mul n8 2)))) 146 (ptr p4 (Nat.add (Nat.add o5 (Nat.mul n8 2)) 1))) 147 v9) 17 v9) 148 v9) 149 (.bool (eqN n10 0))) 150 (.agg ⟨[v27, v28]⟩)) 151 (a 13)) 152 (a 16)) 153 (ptr p29 (Nat.add o30 (Nat.mul n33 2)))) 154 (ptr p29 (Nat.add (Nat.add o30 (Nat.mul n33 2)) 1))) 155 v34) 156 v9) 157 v35) 158 (.bool (notB b37))) 140 (a 16)) 141 (i64 (Int.add z38 (Int.ofNat 1)))) 16 (i64 (Int.add z38 (Int.ofNat 1)))) H36))))))) (
 K (.exit 2) (upd (upd (upd (upd a 136 (a 16)) 137 (a 13)) 138 (iN (l1))) 139 (.bool (ltZ z2 (Int.ofNat l1)))) H)) := by kernel_rfl
theorem law15Row_W (con : CallT) (p : Nat) (v : Value) (H : CH) (K : KP) : funW Try.prog con 20 [ptr p 0, v] H K =
 (AsLen v fun l1 =>
 InR (Int.sub (Int.ofNat l1) (Int.ofNat 1)) (
 LoopC Try.prog con (lpAt Try.prog 20 0) (upd (upd (upd (upd (upd (upd (upd (upd (fun _ => undV) 1 v) 0 (ptr p 0)) 4 (u64 (0))) 5 (u64 (0))) 7 v) 8 (iN (l1))) 9 (i64 (Int.sub (Int.ofNat l1) (Int.ofNat 1)))) 6 (i64 (Int.sub (Int.ofNat l1) (Int.ofNat 1)))) H (fun e => ceP e
 (fun a2 H3 =>
 Sc (a2 5) (Nw H3 (mkRow 22 0 [(a2 5)]) fun p5 H6 =>
 Call1 Try.prog con 29 [(a2 0), (.slice (some ⟨p5, 0, none⟩) 1 1)] H6 fun v7 H8 =>
 K v7 H8))
 (fun i4 => fun a2 H3 =>
 Cd (eqN i4 0) (
 Sc (a2 5) (Nw H3 (mkRow 22 0 [(a2 5)]) fun p9 H10 =>
 Call1 Try.prog con 29 [(a2 0), (.slice (some ⟨p9, 0, none⟩) 1 1)] H10 fun v11 H12 =>
 K v11 H12)) (
 False))
 (fun a2 H3 =>
 K (a2 4) H3)))) := by kernel_rfl
theorem law15RowL_W (con : CallT) (a : TF) (H : CH) (K : KX) : codeW (lpAt Try.prog 20 0) Try.prog con a H K =
 (AsInt .i64 (a 6) fun z1 =>
 Cd (leZ (Int.ofNat 0) z1) (
 AsInt .i64 (a 6) fun z2 =>
 Must (cvOk .i64 z2) (
 AsSlc (a 1) fun p3 o4 l5 c6 =>
 AsCnt (a 6) fun n7 =>
 Must (ltN n7 l5) (
 Ld H p3 (Nat.add o4 (Nat.mul n7 1)) fun v8 =>
 Sc v8 (Sc (a 5) (Nw H (mkRow 22 0 [(u64 ((Nat.mod (Nat.add (wrapN .u64 z2) 1) 18446744073709551616))), v8, (a 5)]) fun p9 H10 =>
 Call1 Try.prog con 29 [(a 0), (.slice (some ⟨p9, 0, none⟩) 3 3)] H10 fun v11 H12 =>
 AsInt .i64 (a 6) fun z13 =>
 InR (Int.sub z13 (Int.ofNat 1)) (
 K .normal (upd (upd (upd (upd (upd (upd (upd (upd (upd (upd (upd (upd (upd (upd (upd (upd (upd a 10 (a 6)) 11 (.bool (leZ (Int.ofNat 0) z1))) 14 (a 0)) 15 (a 6)) 16 (u64 ((wrapN .u64 z2)))) 17 (u64 ((Nat.mod (Nat.add (wrapN .u64 z2) 1) 18446744073709551616)))) 18 (a 1)) 19 (a 6)) 20 (ptr p3 (Nat.add o4 (Nat.mul n7 1)))) 21 v8) 22 (a 5)) 23 (.slice (some ⟨p9, 0, none⟩) 3 3)) 24 v11) 5 v11) 12 (a 6)) 13 (i64 (Int.sub z13 (Int.ofNat 1)))) 6 (i64 (Int.sub z13 (Int.ofNat 1)))) H12)))))) (
 K (.exit 0) (upd (upd a 10 (a 6)) 11 (.bool (leZ (Int.ofNat 0) z1))) H)) := by kernel_rfl
theorem law15Falling_W (con : CallT) (v : Value) (H : CH) (K : KP) : funW Try.prog con 19 [v] H K =
 (LoopC Try.prog con (lpAt Try.prog 19 0) (upd (upd (upd (fun _ => undV) 0 v) 2 (.bool false)) 3 (iN (1))) H (fun e => ceP e
 (fun a1 H2 =>
 K (.bool true) H2)
 (fun i3 => fun a1 H2 =>
 Cd (eqN i3 0) (
 K (.bool true) H2) (
 False))
 (fun a1 H2 =>
 K (a1 2) H2))) := by kernel_rfl
theorem law15FallingL_W (con : CallT) (a : TF) (H : CH) (K : KX) : codeW (lpAt Try.prog 19 0) Try.prog con a H K =
 (AsLen (a 0) fun l1 =>
 AsInt .i64 (a 3) fun z2 =>
 Cd (ltZ z2 (Int.ofNat l1)) (
 AsSlc (a 0) fun p3 o4 l5 c6 =>
 AsCnt (a 3) fun n7 =>
 Must (ltN n7 l5) (
 Ld H p3 (Nat.add o4 (Nat.mul n7 1)) fun v8 =>
 AsNat .u64 v8 fun n9 =>
 Cd (eqN n9 0) (
 K .ret (upd (upd (upd (upd (upd (upd (upd (upd (upd (upd (upd (upd (upd (upd (upd (upd (upd (upd (upd (upd (upd (upd (upd (upd (upd (upd (upd (upd (upd (upd (upd (upd (upd (upd (upd (upd (upd (upd (upd (upd (upd (upd (upd (upd (upd (upd (upd (upd a 4 (a 3)) 5 (a 0)) 6 (iN (l1))) 7 (.bool (ltZ z2 (Int.ofNat l1)))) 10 (a 0)) 11 (a 3)) 12 (ptr p3 (Nat.add o4 (Nat.mul n7 1)))) 13 v8) 14 (.bool (eqN n9 0))) 15 (.bool (eqN n9 0))) 15 (.bool true)) 16 unit) 15 (.bool true)) 17 unit) 15 (.bool true)) 18 unit) 15 (.bool true)) 19 unit) 15 (.bool true)) 20 unit) 15 (.bool true)) 21 unit) 15 (.bool true)) 22 unit) 22 unit) 23 unit) 22 unit) 24 unit) 22 unit) 25 unit) 22 unit) 26 unit) 22 unit) 27 unit) 22 unit) 28 unit) 22 unit) 29 unit) 22 unit) 30 unit) 22 unit) 31 unit) 22 unit) 32 unit) 15 (.bool true)) 33 unit) 34 (.bool true)) 2 (.bool false)) H) (
 AsInt .i64 (a 3) fun z10 =>
 InR (Int.sub z10 (Int.ofNat 1)) (
 AsSlc (a 0) fun p11 o12 l13 c14 =>
 AsCnt (i64 (Int.sub z10 (Int.ofNat 1))) fun n15 =>
 Must (ltN n15 l13) (
 Ld H p11 (Nat.add o12 (Nat.mul n15 1)) fun v16 =>
 AsNat .u64 v16 fun n17 =>
 Cd (notB (eqN n17 0)) (
 AsSlc (a 0) fun p18 o19 l20 c21 =>
 AsCnt (a 3) fun n22 =>
 Must (ltN n22 l20) (
 Ld H p18 (Nat.add o19 (Nat.mul n22 1)) fun v23 =>
 AsInt .i64 (a 3) fun z24 =>
 InR (Int.sub z24 (Int.ofNat 1)) (
 AsSlc (a 0) fun p25 o26 l27 c28 =>
 AsCnt (i64 (Int.sub z24 (Int.ofNat 1))) fun n29 =>
 Must (ltN n29 l27) (
 Ld H p25 (Nat.add o26 (Nat.mul n29 1)) fun v30 =>
 AsNat .u64 v23 fun n31 =>
 AsNat .u64 v30 fun n32 =>
 Cd (ltN n32 n31) (
 K .ret (upd (upd (upd (upd (upd (upd (upd (upd (upd (upd (upd (upd (upd (upd (upd (upd (upd (upd (upd (upd (upd (upd (upd (upd (upd (upd (upd (upd (upd (upd (upd (upd (upd (upd (upd (upd (upd (upd (upd (upd (upd (upd (upd (upd (upd (upd (upd (upd a 4 (a 3)) 5 (a 0)) 6 (iN (l1))) 7 (.bool (ltZ z2 (Int.ofNat l1)))) 10 (a 0)) 11 (a 3)) 12 (ptr p3 (Nat.add o4 (Nat.mul n7 1)))) 13 v8) 14 (.bool (eqN n9 0))) 15 (.bool (eqN n9 0))) 15 (.bool false)) 16 (a 0)) 15 (.bool false)) 17 (a 3)) 15 (.bool false)) 18 (i64 (Int.sub z10 (Int.ofNat 1)))) 15 (.bool false)) 19 (ptr p11 (Nat.add o12 (Nat.mul n15 1)))) 15 (.bool false)) 20 v16) 15 (.bool false)) 21 (.bool (notB (eqN n17 0)))) 15 (.bool false)) 22 (.bool (notB (eqN n17 0)))) 22 (.bool true)) 23 (a 0)) 22 (.bool true)) 24 (a 3)) 22 (.bool true)) 25 (ptr p18 (Nat.add o19 (Nat.mul n22 1)))) 22 (.bool true)) 26 v23) 22 (.bool true)) 27 (a 0)) 22 (.bool true)) 28 (a 3)) 22 (.bool true)) 29 (i64 (Int.sub z24 (Int.ofNat 1)))) 22 (.bool true)) 30 (ptr p25 (Nat.add o26 (Nat.mul n29 1)))) 22 (.bool true)) 31 v30) 22 (.bool true)) 32 (.bool (ltN n32 n31))) 15 (.bool false)) 33 (.bool (ltN n32 n31))) 34 (.bool (ltN n32 n31))) 2 (.bool false)) H) (
 AsInt .i64 (a 3) fun z33 =>
 InR (Int.add z33 (Int.ofNat 1)) (
 K .normal (upd (upd (upd (upd (upd (upd (upd (upd (upd (upd (upd (upd (upd (upd (upd (upd (upd (upd (upd (upd (upd (upd (upd (upd (upd (upd (upd (upd (upd (upd (upd (upd (upd (upd (upd (upd (upd (upd (upd (upd (upd (upd (upd (upd (upd (upd (upd (upd (upd (upd a 4 (a 3)) 5 (a 0)) 6 (iN (l1))) 7 (.bool (ltZ z2 (Int.ofNat l1)))) 10 (a 0)) 11 (a 3)) 12 (ptr p3 (Nat.add o4 (Nat.mul n7 1)))) 13 v8) 14 (.bool (eqN n9 0))) 15 (.bool (eqN n9 0))) 15 (.bool false)) 16 (a 0)) 15 (.bool false)) 17 (a 3)) 15 (.bool false)) 18 (i64 (Int.sub z10 (Int.ofNat 1)))) 15 (.bool false)) 19 (ptr p11 (Nat.add o12 (Nat.mul n15 1)))) 15 (.bool false)) 20 v16) 15 (.bool false)) 21 (.bool (notB (eqN n17 0)))) 15 (.bool false)) 22 (.bool (notB (eqN n17 0)))) 22 (.bool true)) 23 (a 0)) 22 (.bool true)) 24 (a 3)) 22 (.bool true)) 25 (ptr p18 (Nat.add o19 (Nat.mul n22 1)))) 22 (.bool true)) 26 v23) 22 (.bool true)) 27 (a 0)) 22 (.bool true)) 28 (a 3)) 22 (.bool true)) 29 (i64 (Int.sub z24 (Int.ofNat 1)))) 22 (.bool true)) 30 (ptr p25 (Nat.add o26 (Nat.mul n29 1)))) 22 (.bool true)) 31 v30) 22 (.bool true)) 32 (.bool (ltN n32 n31))) 15 (.bool false)) 33 (.bool (ltN n32 n31))) 34 (.bool (ltN n32 n31))) 8 (a 3)) 9 (i64 (Int.add z33 (Int.ofNat 1)))) 3 (i64 (Int.add z33 (Int.ofNat 1)))) H)))))) (
 AsInt .i64 (a 3) fun z34 =>
 InR (Int.add z34 (Int.ofNat 1)) (
 K .normal (upd (upd (upd (upd (upd (upd (upd (upd (upd (upd (upd (upd (upd (upd (upd (upd (upd (upd (upd (upd (upd (upd (upd (upd (upd (upd (upd (upd (upd (upd (upd (upd (upd (upd (upd (upd (upd (upd (upd (upd (upd (upd (upd (upd (upd (upd (upd (upd (upd (upd a 4 (a 3)) 5 (a 0)) 6 (iN (l1))) 7 (.bool (ltZ z2 (Int.ofNat l1)))) 10 (a 0)) 11 (a 3)) 12 (ptr p3 (Nat.add o4 (Nat.mul n7 1)))) 13 v8) 14 (.bool (eqN n9 0))) 15 (.bool (eqN n9 0))) 15 (.bool false)) 16 (a 0)) 15 (.bool false)) 17 (a 3)) 15 (.bool false)) 18 (i64 (Int.sub z10 (Int.ofNat 1)))) 15 (.bool false)) 19 (ptr p11 (Nat.add o12 (Nat.mul n15 1)))) 15 (.bool false)) 20 v16) 15 (.bool false)) 21 (.bool (notB (eqN n17 0)))) 15 (.bool false)) 22 (.bool (notB (eqN n17 0)))) 22 (.bool false)) 23 unit) 22 (.bool false)) 24 unit) 22 (.bool false)) 25 unit) 22 (.bool false)) 26 unit) 22 (.bool false)) 27 unit) 22 (.bool false)) 28 unit) 22 (.bool false)) 29 unit) 22 (.bool false)) 30 unit) 22 (.bool false)) 31 unit) 22 (.bool false)) 32 unit) 15 (.bool false)) 33 (.bool false)) 34 (.bool false)) 8 (a 3)) 9 (i64 (Int.add z34 (Int.ofNat 1)))) 3 (i64 (Int.add z34 (Int.ofNat 1)))) H))))))) (
 K (.exit 0) (upd (upd (upd (upd a 4 (a 3)) 5 (a 0)) 6 (iN (l1))) 7 (.bool (ltZ z2 (Int.ofNat l1)))) H)) := by kernel_rfl
theorem law15At_W (con : CallT) (v : Value) (t : Nat) (H : CH) (K : KP) : funW Try.prog con 27 [v, u64 t] H K =
 (Nw H (mkRow 55 0 [(u64 (0)), (u64 (0))]) fun p1 H2 =>
 LoopC Try.prog con (lpAt Try.prog 27 0) (upd (upd (upd (upd (fun _ => undV) 1 (u64 (t))) 0 v) 4 (ptr p1 0)) 5 (iN (0))) H2 (fun e => ceP e
 (fun a3 H4 =>
 AsPtr (a3 4) fun p6 o7 =>
 St H4 p6 o7 [(u64 (0)), (u64 (0))] fun H8 =>
 AsPtr (a3 4) fun p9 o10 =>
 Ld H8 p9 (Nat.add o10 0) fun v11 =>
 Ld H8 p9 (Nat.add o10 1) fun v12 =>
 K (.agg ⟨[v11, v12]⟩) H8)
 (fun i5 => fun a3 H4 =>
 Cd (eqN i5 0) (
 AsPtr (a3 4) fun p13 o14 =>
 St H4 p13 o14 [(u64 (0)), (u64 (0))] fun H15 =>
 AsPtr (a3 4) fun p16 o17 =>
 Ld H15 p16 (Nat.add o17 0) fun v18 =>
 Ld H15 p16 (Nat.add o17 1) fun v19 =>
 K (.agg ⟨[v18, v19]⟩) H15) (
 False))
 (fun a3 H4 =>
 AsPtr (a3 4) fun p20 o21 =>
 Ld H4 p20 (Nat.add o21 0) fun v22 =>
 Ld H4 p20 (Nat.add o21 1) fun v23 =>
 K (.agg ⟨[v22, v23]⟩) H4))) := by kernel_rfl
theorem law15AtL_W (con : CallT) (a : TF) (H : CH) (K : KX) : codeW (lpAt Try.prog 27 0) Try.prog con a H K =
 (AsLen (a 0) fun l1 =>
 AsInt .i64 (a 5) fun z2 =>
 Cd (ltZ z2 (Int.ofNat l1)) (
 AsSlc (a 0) fun p3 o4 l5 c6 =>
 AsCnt (a 5) fun n7 =>
 Must (ltN n7 l5) (
 Ld H p3 (Nat.add (Nat.add o4 (Nat.mul n7 2)) 1) fun v8 =>
 AsNat .u64 v8 fun n9 =>
 Cd (notB (eqN n9 0)) (
 AsSlc (a 0) fun p10 o11 l12 c13 =>
 AsCnt (a 5) fun n14 =>
 Must (ltN n14 l12) (
 Ld H p10 (Nat.add (Nat.add o11 (Nat.mul n14 2)) 1) fun v15 =>
 AsNat .u64 v15 fun n16 =>
 AsNat .u64 (a 1) fun n17 =>
 Cd (leN n16 n17) (
 AsSlc (a 0) fun p18 o19 l20 c21 =>
 AsCnt (a 5) fun n22 =>
 Must (ltN n22 l20) (
 Ld H p18 (Nat.add (Nat.add o19 (Nat.mul n22 2)) 0) fun v23 =>
 Ld H p18 (Nat.add (Nat.add o19 (Nat.mul n22 2)) 1) fun v24 =>
 AsPtr (a 4) fun p25 o26 =>
 St H p25 o26 [v23, v24] fun H27 =>
 K .ret (upd (upd (upd (upd (upd (upd (upd (upd (upd (upd (upd (upd (upd (upd (upd (upd (upd (upd (upd (upd (upd (upd (upd (upd (upd (upd (upd (upd (upd (upd a 6 (a 5)) 7 (a 0)) 8 (iN (l1))) 9 (.bool (ltZ z2 (Int.ofNat l1)))) 12 (a 0)) 13 (a 5)) 14 (ptr p3 (Nat.add o4 (Nat.mul n7 2)))) 15 (ptr p3 (Nat.add (Nat.add o4 (Nat.mul n7 2)) 1))) 16 v8) 17 (.bool (notB (eqN n9 0)))) 18 (.bool (notB (eqN n9 0)))) 18 (.bool true)) 19 (a 0)) 18 (.bool true)) 20 (a 5)) 18 (.bool true)) 21 (ptr p10 (Nat.add o11 (Nat.mul n14 2)))) 18 (.bool true)) 22 (ptr p10 (Nat.add (Nat.add o11 (Nat.mul n14 2)) 1))) 18 (.bool true)) 23 v15) 18 (.bool true)) 24 (a 1)) 18 (.bool true)) 25 (.bool (leN n16 n17))) 26 (.bool (leN n16 n17))) 27 (a 0)) 28 (a 5)) 29 (ptr p18 (Nat.add o19 (Nat.mul n22 2)))) 30 (.agg ⟨[v23, v24]⟩)) H27)) (
 AsInt .i64 (a 5) fun z28 =>
 InR (Int.add z28 (Int.ofNat 1)) (
 K .normal (upd (upd (upd (upd (upd (upd (upd (upd (upd (upd (upd (upd (upd (upd (upd (upd (upd (upd (upd (upd (upd (upd (upd (upd (upd (upd (upd (upd (upd a 6 (a 5)) 7 (a 0)) 8 (iN (l1))) 9 (.bool (ltZ z2 (Int.ofNat l1)))) 12 (a 0)) 13 (a 5)) 14 (ptr p3 (Nat.add o4 (Nat.mul n7 2)))) 15 (ptr p3 (Nat.add (Nat.add o4 (Nat.mul n7 2)) 1))) 16 v8) 17 (.bool (notB (eqN n9 0)))) 18 (.bool (notB (eqN n9 0)))) 18 (.bool true)) 19 (a 0)) 18 (.bool true)) 20 (a 5)) 18 (.bool true)) 21 (ptr p10 (Nat.add o11 (Nat.mul n14 2)))) 18 (.bool true)) 22 (ptr p10 (Nat.add (Nat.add o11 (Nat.mul n14 2)) 1))) 18 (.bool true)) 23 v15) 18 (.bool true)) 24 (a 1)) 18 (.bool true)) 25 (.bool (leN n16 n17))) 26 (.bool (leN n16 n17))) 10 (a 5)) 11 (i64 (Int.add z28 (Int.ofNat 1)))) 5 (i64 (Int.add z28 (Int.ofNat 1)))) H)))) (
 AsInt .i64 (a 5) fun z29 =>
 InR (Int.add z29 (Int.ofNat 1)) (
 K .normal (upd (upd (upd (upd (upd (upd (upd (upd (upd (upd (upd (upd (upd (upd (upd (upd (upd (upd (upd (upd (upd (upd (upd (upd (upd (upd (upd (upd (upd a 6 (a 5)) 7 (a 0)) 8 (iN (l1))) 9 (.bool (ltZ z2 (Int.ofNat l1)))) 12 (a 0)) 13 (a 5)) 14 (ptr p3 (Nat.add o4 (Nat.mul n7 2)))) 15 (ptr p3 (Nat.add (Nat.add o4 (Nat.mul n7 2)) 1))) 16 v8) 17 (.bool (notB (eqN n9 0)))) 18 (.bool (notB (eqN n9 0)))) 18 (.bool false)) 19 unit) 18 (.bool false)) 20 unit) 18 (.bool false)) 21 unit) 18 (.bool false)) 22 unit) 18 (.bool false)) 23 unit) 18 (.bool false)) 24 unit) 18 (.bool false)) 25 unit) 26 (.bool false)) 10 (a 5)) 11 (i64 (Int.add z29 (Int.ofNat 1)))) 5 (i64 (Int.add z29 (Int.ofNat 1)))) H)))) (
 K (.exit 0) (upd (upd (upd (upd a 6 (a 5)) 7 (a 0)) 8 (iN (l1))) 9 (.bool (ltZ z2 (Int.ofNat l1)))) H)) := by kernel_rfl
theorem vcasVersions_W (con : CallT) (m a : Nat) (H : CH) (K : KP) : funW Try.prog con 21 [ptr m 0, u64 a] H K =
 (Call1 Try.prog con 39 [(ptr m 0)] H fun v1 H2 =>
 AsInt .i64 v1 fun z3 =>
 Must (cvOk .i64 z3) (
 Call1 Try.prog con 31 [(ptr m 0), (u64 (a))] H2 fun v4 H5 =>
 LoopC Try.prog con (lpAt Try.prog 21 0) (upd (upd (upd (upd (upd (upd (upd (upd (upd (upd (upd (upd (fun _ => undV) 1 (u64 (a))) 0 (ptr m 0)) 4 (snil)) 5 (snil)) 8 (ptr m 0)) 9 v1) 10 (u64 ((wrapN .u64 z3)))) 6 (u64 ((wrapN .u64 z3)))) 11 (ptr m 0)) 12 (u64 (a))) 13 v4) 7 v4) H5 (fun e => ceP e
 (fun a6 H7 =>
 K (a6 5) H7)
 (fun i8 => fun a6 H7 =>
 Cd (eqN i8 0) (
 K (a6 5) H7) (
 False))
 (fun a6 H7 =>
 K (a6 4) H7)))) := by kernel_rfl
theorem vcasVersionsL_W (con : CallT) (a : TF) (H : CH) (K : KX) : codeW (lpAt Try.prog 21 0) Try.prog con a H K =
 (AsNat .u64 (a 7) fun n1 =>
 Cd (notB (eqN n1 0)) (
 AsNat .u64 (a 7) fun n2 =>
 AsNat .u64 (a 6) fun n3 =>
 Cd (ltN n2 n3) (
 AsNat .u64 (a 6) fun n4 =>
 AsNat .u64 (a 7) fun n5 =>
 Cd (ltN 2 (Go.CM.subM 18446744073709551616 n4 n5)) (
 AsLen (a 5) fun l6 =>
 Call1 Try.prog con 39 [(a 0)] H fun v7 H8 =>
 AsInt .i64 v7 fun z9 =>
 Cd (ltZ (Int.ofNat l6) z9) (
 Call1 Try.prog con 31 [(a 0), (a 7)] H8 fun v10 H11 =>
 AsNat .u64 (a 7) fun n12 =>
 Call1 Try.prog con 31 [(a 0), (u64 ((Nat.mod (Nat.add n12 1) 18446744073709551616)))] H11 fun v13 H14 =>
 Sc v10 (Sc v13 (Nw H14 (mkRow 55 0 [v10, v13]) fun p15 H16 =>
 App Try.prog 48 48 H16 (a 5) (.slice (some ⟨p15, 0, none⟩) 1 1) fun v17 H18 =>
 AsNat .u64 (a 7) fun n19 =>
 Call1 Try.prog con 31 [(a 0), (u64 ((Nat.mod (Nat.add n19 2) 18446744073709551616)))] H18 fun v20 H21 =>
 K .normal (upd (upd (upd (upd (upd (upd (upd (upd (upd (upd (upd (upd (upd (upd (upd (upd (upd (upd (upd (upd (upd (upd (upd (upd (upd (upd (upd (upd (upd (upd (upd (upd (upd (upd (upd (upd (upd (upd (upd (upd (upd (upd (upd (upd (upd (upd (upd (upd (upd a 14 (a 7)) 15 (.bool (notB (eqN n1 0)))) 16 (.bool (notB (eqN n1 0)))) 16 (.bool true)) 17 (a 7)) 16 (.bool true)) 18 (a 6)) 16 (.bool true)) 19 (.bool (ltN n2 n3))) 20 (.bool (ltN n2 n3))) 21 (.bool (ltN n2 n3))) 21 (.bool true)) 22 (a 6)) 21 (.bool true)) 23 (a 7)) 21 (.bool true)) 24 (u64 ((Go.CM.subM 18446744073709551616 n4 n5)))) 21 (.bool true)) 25 (.bool (ltN 2 (Go.CM.subM 18446744073709551616 n4 n5)))) 26 (.bool (ltN 2 (Go.CM.subM 18446744073709551616 n4 n5)))) 27 (.bool (ltN 2 (Go.CM.subM 18446744073709551616 n4 n5)))) 27 (.bool true)) 28 (a 5)) 27 (.bool true)) 29 (iN (l6))) 27 (.bool true)) 30 (a 0)) 27 (.bool true)) 31 v7) 27 (.bool true)) 32 (.bool (ltZ (Int.ofNat l6) z9))) 33 (.bool (ltZ (Int.ofNat l6) z9))) 38 (a 5)) 39 (a 0)) 40 (a 7)) 41 v10) 42 (a 0)) 43 (a 7)) 44 (u64 ((Nat.mod (Nat.add n12 1) 18446744073709551616)))) 45 v13) 46 (.agg ⟨[v10, v13]⟩)) 47 (.slice (some ⟨p15, 0, none⟩) 1 1)) 48 v17) 5 v17) 34 (a 0)) 35 (a 7)) 36 (u64 ((Nat.mod (Nat.add n19 2) 18446744073709551616)))) 37 v20) 7 v20) H21))) (
 K (.exit 0) (upd (upd (upd (upd (upd (upd (upd (upd (upd (upd (upd (upd (upd (upd (upd (upd (upd (upd (upd (upd (upd (upd (upd (upd (upd (upd (upd (upd (upd (upd (upd (upd a 14 (a 7)) 15 (.bool (notB (eqN n1 0)))) 16 (.bool (notB (eqN n1 0)))) 16 (.bool true)) 17 (a 7)) 16 (.bool true)) 18 (a 6)) 16 (.bool true)) 19 (.bool (ltN n2 n3))) 20 (.bool (ltN n2 n3))) 21 (.bool (ltN n2 n3))) 21 (.bool true)) 22 (a 6)) 21 (.bool true)) 23 (a 7)) 21 (.bool true)) 24 (u64 ((Go.CM.subM 18446744073709551616 n4 n5)))) 21 (.bool true)) 25 (.bool (ltN 2 (Go.CM.subM 18446744073709551616 n4 n5)))) 26 (.bool (ltN 2 (Go.CM.subM 18446744073709551616 n4 n5)))) 27 (.bool (ltN 2 (Go.CM.subM 18446744073709551616 n4 n5)))) 27 (.bool true)) 28 (a 5)) 27 (.bool true)) 29 (iN (l6))) 27 (.bool true)) 30 (a 0)) 27 (.bool true)) 31 v7) 27 (.bool true)) 32 (.bool (ltZ (Int.ofNat l6) z9))) 33 (.bool (ltZ (Int.ofNat l6) z9))) H8)) (
 K (.exit 0) (upd (upd (upd (upd (upd (upd (upd (upd (upd (upd (upd (upd (upd (upd (upd (upd (upd (upd (upd (upd (upd (upd (upd (upd (upd (upd (upd (upd (upd (upd (upd (upd a 14 (a 7)) 15 (.bool (notB (eqN n1 0)))) 16 (.bool (notB (eqN n1 0)))) 16 (.bool true)) 17 (a 7)) 16 (.bool true)) 18 (a 6)) 16 (.bool true)) 19 (.bool (ltN n2 n3))) 20 (.bool (ltN n2 n3))) 21 (.bool (ltN n2 n3))) 21 (.bool true)) 22 (a 6)) 21 (.bool true)) 23 (a 7)) 21 (.bool true)) 24 (u64 ((Go.CM.subM 18446744073709551616 n4 n5)))) 21 (.bool true)) 25 (.bool (ltN 2 (Go.CM.subM 18446744073709551616 n4 n5)))) 26 (.bool (ltN 2 (Go.CM.subM 18446744073709551616 n4 n5)))) 27 (.bool (ltN 2 (Go.CM.subM 18446744073709551616 n4 n5)))) 27 (.bool false)) 28 unit) 27 (.bool false)) 29 unit) 27 (.bool false)) 30 unit) 27 (.bool false)) 31 unit) 27 (.bool false)) 32 unit) 33 (.bool false)) H)) (
 K (.exit 0) (upd (upd (upd (upd (upd (upd (upd (upd (upd (upd (upd (upd (upd (upd (upd (upd (upd (upd (upd (upd (upd (upd (upd (upd (upd (upd (upd (upd (upd (upd (upd (upd a 14 (a 7)) 15 (.bool (notB (eqN n1 0)))) 16 (.bool (notB (eqN n1 0)))) 16 (.bool true)) 17 (a 7)) 16 (.bool true)) 18 (a 6)) 16 (.bool true)) 19 (.bool (ltN n2 n3))) 20 (.bool (ltN n2 n3))) 21 (.bool (ltN n2 n3))) 21 (.bool false)) 22 unit) 21 (.bool false)) 23 unit) 21 (.bool false)) 24 unit) 21 (.bool false)) 25 unit) 26 (.bool false)) 27 (.bool false)) 27 (.bool false)) 28 unit) 27 (.bool false)) 29 unit) 27 (.bool false)) 30 unit) 27 (.bool false)) 31 unit) 27 (.bool false)) 32 unit) 33 (.bool false)) H)) (
 K (.exit 0) (upd (upd (upd (upd (upd (upd (upd (upd (upd (upd (upd (upd (upd (upd (upd (upd (upd (upd (upd (upd (upd (upd (upd (upd (upd (upd (upd (upd (upd (upd (upd (upd a 14 (a 7)) 15 (.bool (notB (eqN n1 0)))) 16 (.bool (notB (eqN n1 0)))) 16 (.bool false)) 17 unit) 16 (.bool false)) 18 unit) 16 (.bool false)) 19 unit) 20 (.bool false)) 21 (.bool false)) 21 (.bool false)) 22 unit) 21 (.bool false)) 23 unit) 21 (.bool false)) 24 unit) 21 (.bool false)) 25 unit) 26 (.bool false)) 27 (.bool false)) 27 (.bool false)) 28 unit) 27 (.bool false)) 29 unit) 27 (.bool false)) 30 unit) 27 (.bool false)) 31 unit) 27 (.bool false)) 32 unit) 33 (.bool false)) H)) := by kernel_rfl
theorem stepAlone_W (con : CallT) (q : Nat) (v : Value) (n : Int) (H : CH) (K : KP) : funW Try.prog con 23 [ptr q 0, v, i64 n] H K =
 (LoopC Try.prog con (lpAt Try.prog 23 0) (upd (upd (upd (upd (upd (upd (fun _ => undV) 2 (i64 n)) 1 v) 0 (ptr q 0)) 6 (.bool false)) 7 (i64 n)) 8 (iN (0))) H (fun e => ceP e
 (fun a1 H2 =>
 K (.bool false) H2)
 (fun i3 => fun a1 H2 =>
 Cd (eqN i3 0) (
 K (.bool false) H2) (
 False))
 (fun a1 H2 =>
 K (a1 6) H2))) := by kernel_rfl
theorem stepAloneL_W (con : CallT) (a : TF) (H : CH) (K : KX) : codeW (lpAt Try.prog 23 0) Try.prog con a H K =
 (AsInt .i64 (a 8) fun z1 =>
 AsInt .i64 (a 7) fun z2 =>
 Cd (ltZ z1 z2) (
 IsNil .ifc (a 1) fun b3 =>
 Cd b3 (
 K .ret (upd (upd (upd (upd (upd (upd (upd (upd (upd (upd (upd (upd a 9 (.bool (ltZ z1 z2))) 10 (a 1)) 11 (.bool b3)) 12 (.bool b3)) 12 (.bool true)) 13 unit) 12 (.bool true)) 14 unit) 12 (.bool true)) 15 unit) 16 (.bool true)) 6 (.bool true)) H) (
 Mth Try.prog con (a 1) "Step" [(a 0)] H fun v4 H5 =>
 AsBool v4 fun b6 =>
 Cd b6 (
 K .ret (upd (upd (upd (upd (upd (upd (upd (upd (upd (upd (upd (upd a 9 (.bool (ltZ z1 z2))) 10 (a 1)) 11 (.bool b3)) 12 (.bool b3)) 12 (.bool false)) 13 (a 1)) 12 (.bool false)) 14 (a 0)) 12 (.bool false)) 15 v4) 16 v4) 6 (.bool true)) H5) (
 AsInt .i64 (a 8) fun z7 =>
 InR (Int.add z7 (Int.ofNat 1)) (
 K .normal (upd (upd (upd (upd (upd (upd (upd (upd (upd (upd (upd (upd (upd a 9 (.bool (ltZ z1 z2))) 10 (a 1)) 11 (.bool b3)) 12 (.bool b3)) 12 (.bool false)) 13 (a 1)) 12 (.bool false)) 14 (a 0)) 12 (.bool false)) 15 v4) 16 v4) 17 (i64 (Int.add z7 (Int.ofNat 1)))) 8 (i64 (Int.add z7 (Int.ofNat 1)))) H5)))) (
 K (.exit 0) (upd a 9 (.bool (ltZ z1 z2))) H)) := by kernel_rfl
theorem memCells_W (con : CallT) (m : Nat) (H : CH) (K : KP) : funW Try.prog con 39 [ptr m 0] H K =
 (Ld H m 0 fun v1 =>
 Mth Try.prog con v1 "shutter/arena.size" [] H fun v2 H3 =>
 K v2 H3) := by kernel_rfl
end Go.Proofs.Ytlabejmlkhgeoaa

