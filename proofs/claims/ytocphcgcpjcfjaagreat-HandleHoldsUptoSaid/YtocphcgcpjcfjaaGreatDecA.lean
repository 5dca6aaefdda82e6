/- What some functions' texts ask for, step by step, each checked by the kernel. No conditions. -/
import Derived.Test.YtocphcgcpjcfjaaGreatProg
import Derived.Test.YtocphcgcpjcfjaaGreatCmE
set_option linter.unusedVariables false
set_option linter.unusedSimpArgs false

/- What some functions' texts ask for, step by step, each checked by the kernel. No conditions. -/
set_option linter.unusedVariables false
set_option maxRecDepth 100000
namespace Go.Proofs.YtocphcgcpjcfjaaGreat
open Go Go.CM
theorem hOpen_W (con : CallT) (cam first : Nat) (count : Int) (most h : Nat) (H : CH) (K : KP) : funW Tryz.prog con 25 [.agg ⟨[u64 cam, u64 first, i64 count, u64 most]⟩, u64 h] H K =
 (Nw H (mkRow 29 0 [(u64 (cam)), (u64 (first)), (i64 count), (u64 (most))]) fun p1 H2 =>
 Ld H2 p1 0 fun v3 =>
 Ld H2 p1 1 fun v4 =>
 Ld H2 p1 2 fun v5 =>
 Ld H2 p1 3 fun v6 =>
 Nw H2 (mkRow 163 0 [v3, v4, v5, v6, (u64 (h)), (.bool false), (u8 (0)), (u64 (0)), (u64 (0)), (.bool false)]) fun p7 H8 =>
 K (ptr p7 0) H8) := by kernel_rfl
theorem hClose_W (con : CallT) (cam first : Nat) (count : Int) (most h st : Nat) (H : CH) (K : KP) : funW Tryz.prog con 67 [.agg ⟨[u64 cam, u64 first, i64 count, u64 most]⟩, u64 h, u64 st] H K =
 (Nw H (mkRow 29 0 [(u64 (cam)), (u64 (first)), (i64 count), (u64 (most))]) fun p1 H2 =>
 Ld H2 p1 0 fun v3 =>
 Ld H2 p1 1 fun v4 =>
 Ld H2 p1 2 fun v5 =>
 Ld H2 p1 3 fun v6 =>
 Nw H2 (mkRow 171 0 [v3, v4, v5, v6, (u64 (h)), (.bool false), (u8 (0)), (u64 (0)), (u64 (0)), (.bool false), (u64 (st))]) fun p7 H8 =>
 K (ptr p7 0) H8) := by kernel_rfl
theorem hOpenStep_W (con : CallT) (p v : Nat) (H : CH) (K : KP) : funW Tryz.prog con 26 [ptr p 0, ptr v 0] H K =
 (Ld H p 5 fun v1 =>
 AsBool v1 fun b2 =>
 Cd (notB b2) (
 Call1 Tryz.prog con 80 [(ptr p 0), (ptr v 0)] H fun v3 H4 =>
 K (.bool true) H4) (
 K (.bool true) H)) := by kernel_rfl
theorem hCloseStep_W (con : CallT) (p v : Nat) (H : CH) (K : KP) : funW Tryz.prog con 68 [ptr p 0, ptr v 0] H K =
 (Ld H p 5 fun v1 =>
 AsBool v1 fun b2 =>
 Cd (notB b2) (
 Call1 Tryz.prog con 80 [(ptr p 0), (ptr v 0)] H fun v3 H4 =>
 K (.bool true) H4) (
 K (.bool true) H)) := by kernel_rfl
theorem hOpenErr_W (con : CallT) (p : Nat) (H : CH) (K : KP) : funW Tryz.prog con 27 [ptr p 0] H K =
 (Ld H p 5 fun v1 =>
 AsWant v1 (False) fun b2 =>
 Cd b2 (
 Ld H p 9 fun v3 =>
 AsBool v3 fun b4 =>
 Cd (notB b4) (
 K (iN (33)) H) (
 K (iN (0)) H)) (
 K (iN (0)) H)) := by kernel_rfl
theorem hOpenStamp_W (con : CallT) (p : Nat) (H : CH) (K : KP) : funW Tryz.prog con 33 [ptr p 0] H K =
 (Ld H p 9 fun v1 =>
 AsBool v1 fun b2 =>
 Cd (notB b2) (
 K (u64 (0)) H) (
 Ld H p 8 fun v3 =>
 K v3 H)) := by kernel_rfl
theorem hCloseErr_W (con : CallT) (p : Nat) (H : CH) (K : KP) : funW Tryz.prog con 34 [ptr p 0] H K =
 (Ld H p 5 fun v1 =>
 AsWant v1 (False) fun b2 =>
 Cd b2 (
 Ld H p 9 fun v3 =>
 AsBool v3 fun b4 =>
 Cd (notB b4) (
 K (iN (34)) H) (
 Ld H p 8 fun v5 =>
 Ld H p 10 fun v6 =>
 AsNat .u64 v5 fun n7 =>
 AsNat .u64 v6 fun n8 =>
 Cd (notB (eqN n7 n8)) (
 K (iN (34)) H) (
 K (iN (0)) H))) (
 K (iN (0)) H)) := by kernel_rfl
theorem hLook_W (con : CallT) (p v : Nat) (H : CH) (K : KP) : funW Tryz.prog con 80 [ptr p 0, ptr v 0] H K =
 (St H p 5 [(.bool true)] fun H1 =>
 Ld H1 p 4 fun v2 =>
 Call1 Tryz.prog con 104 [v2] H1 fun v3 H4 =>
 AsTup v3 fun l5 =>
 Nth l5 0 fun v6 =>
 AsTup v3 fun l7 =>
 Nth l7 1 fun v8 =>
 AsTup v3 fun l9 =>
 Nth l9 2 fun v10 =>
 AsInt .i64 v10 fun z11 =>
 Bnd (upd (upd (upd (upd (upd (upd (upd (upd (upd (upd (upd (upd (upd (upd (upd (upd (upd (upd (upd (upd (upd (upd (upd (upd (upd (upd (upd (upd (upd (upd (upd (fun _ => undV) 1 (ptr v 0)) 0 (ptr p 0)) 7 (ptr p 0)) 8 (ptr p 0)) 9 (ptr p 5)) 11 (ptr p 0)) 12 (ptr p 0)) 13 (ptr p 4)) 14 v2) 15 v3) 10 v3) 16 v6) 17 v8) 18 v10) 4 v6) 5 v8) 6 v10) 19 v10) 20 (.bool (notB (eqZ z11 (Int.ofNat 0))))) 21 (.bool (notB (eqZ z11 (Int.ofNat 0))))) 21 (.bool false)) 22 v6) 21 (.bool false)) 23 (ptr p 0)) 21 (.bool false)) 24 (ptr p 0)) 21 (.bool false)) 25 (ptr p 0)) 21 (.bool false)) 26 (ptr p 2)) 21 (.bool false)) fun s1 =>
Cd (notB (eqZ z11 (Int.ofNat 0))) (
 K unit H4) (
 Ld H4 p 2 fun v12 =>
 AsInt .i64 v12 fun z13 =>
 Cd (ltZ (Int.ofNat 256) z13) (
 AsInt .i64 v6 fun z14 =>
 Cd (leZ (Int.ofNat 256) z14) (
 K unit H4) (
 Ld H4 p 1 fun v15 =>
 AsInt .i64 v6 fun z16 =>
 Must (cvOk .i64 z16) (
 AsNat .u64 v15 fun n17 =>
 Call1 Tryz.prog con 105 [(ptr v 0), (u64 ((Nat.mod (Nat.add n17 (wrapN .u64 z16)) 18446744073709551616)))] H4 fun v18 H19 =>
 Call1 Tryz.prog con 100 [v18] H19 fun v20 H21 =>
 AsAgg v20 fun l22 =>
 Must (eqN (lenF l22) 3) (
 Nth l22 0 fun v23 =>
 Nth l22 1 fun v24 =>
 Nth l22 2 fun v25 =>
 St H21 p 6 [v23, v24, v25] fun H26 =>
 Ld H26 p 6 fun v27 =>
 Ld H26 p 7 fun v28 =>
 Ld H26 p 8 fun v29 =>
 Ld H26 p 8 fun v30 =>
 Sc v8 (Sc v30 (OpN Tryz.prog H26 (upd (upd (upd (upd (upd (upd (upd (upd (upd (upd (upd (upd (upd (upd (upd (upd (upd (upd (upd (upd (upd (upd (upd (upd (upd (upd (upd (upd (upd (upd (upd (upd s1 27 v12) 21 (.bool false)) 28 (iN (256))) 21 (.bool false)) 29 (.bool (leZ (Int.ofNat 256) z14))) 30 (.bool (leZ (Int.ofNat 256) z14))) 31 (ptr p 0)) 32 (ptr v 0)) 33 (ptr p 0)) 34 (ptr p 0)) 35 (ptr p 0)) 36 (ptr p 1)) 37 v15) 38 v6) 39 (u64 ((wrapN .u64 z16)))) 40 (u64 ((Nat.mod (Nat.add n17 (wrapN .u64 z16)) 18446744073709551616)))) 41 v18) 42 v20) 43 (ptr p 0)) 44 (ptr p 6)) 45 (ptr p 0)) 46 (ptr p 0)) 47 (ptr p 0)) 48 (ptr p 6)) 49 (.agg ⟨[v27, v28, v29]⟩)) 50 v8) 51 (ptr p 0)) 52 (ptr p 0)) 53 (ptr p 6)) 54 (ptr p 8)) 55 v30) 56 (.agg ⟨[(u8 (3)), v8, v30]⟩)) (.binOp .eql 157 (.tmp 49) (.tmp 56) 157) fun v31 H32 =>
 Sc v31 (St H32 p 9 [v31] fun H33 =>
 K unit H33))))))) (
 AsInt .i64 v6 fun z34 =>
 Cd (leZ z13 z34) (
 K unit H4) (
 Ld H4 p 1 fun v35 =>
 AsInt .i64 v6 fun z36 =>
 Must (cvOk .i64 z36) (
 AsNat .u64 v35 fun n37 =>
 Call1 Tryz.prog con 105 [(ptr v 0), (u64 ((Nat.mod (Nat.add n37 (wrapN .u64 z36)) 18446744073709551616)))] H4 fun v38 H39 =>
 Call1 Tryz.prog con 100 [v38] H39 fun v40 H41 =>
 AsAgg v40 fun l42 =>
 Must (eqN (lenF l42) 3) (
 Nth l42 0 fun v43 =>
 Nth l42 1 fun v44 =>
 Nth l42 2 fun v45 =>
 St H41 p 6 [v43, v44, v45] fun H46 =>
 Ld H46 p 6 fun v47 =>
 Ld H46 p 7 fun v48 =>
 Ld H46 p 8 fun v49 =>
 Ld H46 p 8 fun v50 =>
 Sc v8 (Sc v50 (OpN Tryz.prog H46 (upd (upd (upd (upd (upd (upd (upd (upd (upd (upd (upd (upd (upd (upd (upd (upd (upd (upd (upd (upd (upd (upd (upd (upd (upd (upd (upd (upd (upd (upd (upd (upd s1 27 v12) 21 (.bool false)) 28 (i64 z13)) 21 (.bool false)) 29 (.bool (leZ z13 z34))) 30 (.bool (leZ z13 z34))) 31 (ptr p 0)) 32 (ptr v 0)) 33 (ptr p 0)) 34 (ptr p 0)) 35 (ptr p 0)) 36 (ptr p 1)) 37 v35) 38 v6) 39 (u64 ((wrapN .u64 z36)))) 40 (u64 ((Nat.mod (Nat.add n37 (wrapN .u64 z36)) 18446744073709551616)))) 41 v38) 42 v40) 43 (ptr p 0)) 44 (ptr p 6)) 45 (ptr p 0)) 46 (ptr p 0)) 47 (ptr p 0)) 48 (ptr p 6)) 49 (.agg ⟨[v47, v48, v49]⟩)) 50 v8) 51 (ptr p 0)) 52 (ptr p 0)) 53 (ptr p 6)) 54 (ptr p 8)) 55 v50) 56 (.agg ⟨[(u8 (3)), v8, v50]⟩)) (.binOp .eql 157 (.tmp 49) (.tmp 56) 157) fun v51 H52 =>
 Sc v51 (St H52 p 9 [v51] fun H53 =>
 K unit H53))))))))) := by kernel_rfl
theorem hLive_W (con : CallT) (m : Nat) (cam first : Nat) (count : Int) (most : Nat) (H : CH) (K : KP) : funW Tryz.prog con 24 [ptr m 0, .agg ⟨[u64 cam, u64 first, i64 count, u64 most]⟩] H K =
 (Nw H (mkRow 29 0 [(u64 (cam)), (u64 (first)), (i64 count), (u64 (most))]) fun p1 H2 =>
 Ld H2 p1 0 fun v3 =>
 Ld H2 p1 1 fun v4 =>
 Ld H2 p1 2 fun v5 =>
 Ld H2 p1 3 fun v6 =>
 Call1 Tryz.prog con 77 [(ptr m 0), (.agg ⟨[v3, v4, v5, v6]⟩)] H2 fun v7 H8 =>
 AsLen v7 fun l9 =>
 LoopC Tryz.prog con (lpAt Tryz.prog 24 0) (upd (upd (upd (upd (upd (upd (upd (upd (upd (upd (fun _ => undV) 1 (.agg ⟨[(u64 (cam)), (u64 (first)), (i64 count), (u64 (most))]⟩)) 0 (ptr m 0)) 3 (ptr p1 0)) 4 (snil)) 5 (snil)) 10 (ptr m 0)) 11 (.agg ⟨[v3, v4, v5, v6]⟩)) 12 v7) 13 (iN (l9))) 14 (iN (0))) H8 (fun e => ceP e
 (fun a10 H11 =>
 Call1 Tryz.prog con 79 [(a10 5)] H11 fun v13 H14 =>
 K (a10 5) H14)
 (fun i12 => fun a10 H11 =>
 Cd (eqN i12 0) (
 Call1 Tryz.prog con 79 [(a10 5)] H11 fun v15 H16 =>
 K (a10 5) H16) (
 False))
 (fun a10 H11 =>
 K (a10 4) H11))) := by kernel_rfl
theorem hLiveL_W (con : CallT) (a : TF) (H : CH) (K : KX) : codeW (lpAt Tryz.prog 24 0) Tryz.prog con a H K =
 (AsInt .i64 (a 14) fun z1 =>
 AsInt .i64 (a 13) fun z2 =>
 Cd (ltZ z1 z2) (
 AsSlc (a 12) fun p3 o4 l5 c6 =>
 AsCnt (a 14) fun n7 =>
 Must (ltN n7 l5) (
 Ld H p3 (Nat.add (Nat.add o4 (Nat.mul n7 3)) 0) fun v8 =>
 Ld H p3 (Nat.add (Nat.add o4 (Nat.mul n7 3)) 1) fun v9 =>
 Ld H p3 (Nat.add (Nat.add o4 (Nat.mul n7 3)) 2) fun v10 =>
 Nw H (mkRow 157 0 [(u8 (0)), (u64 (0)), (u64 (0))]) fun p11 H12 =>
 St H12 p11 0 [v8, v9, v10] fun H13 =>
 Ld H13 p11 0 fun v14 =>
 AsNat .u8 v14 fun n15 =>
 Bnd (upd (upd (upd (upd (upd (upd (upd (upd (upd a 15 (.bool (ltZ z1 z2))) 16 (a 14)) 17 (ptr p3 (Nat.add o4 (Nat.mul n7 3)))) 18 (.agg ⟨[v8, v9, v10]⟩)) 7 (ptr p11 0)) 6 (a 14)) 19 (ptr p11 0)) 20 v14) 21 (.bool (notB (eqN n15 3)))) fun s1 =>
Cd (notB (eqN n15 3)) (
 AsInt .i64 (a 14) fun z16 =>
 InR (Int.add z16 (Int.ofNat 1)) (
 K .normal (upd (upd s1 35 (i64 (Int.add z16 (Int.ofNat 1)))) 14 (i64 (Int.add z16 (Int.ofNat 1)))) H13)) (
 Ld H13 p11 1 fun v17 =>
 Call1 Tryz.prog con 78 [(a 14), v17] H13 fun v18 H19 =>
 AsTup v18 fun l20 =>
 Nth l20 0 fun v21 =>
 AsTup v18 fun l22 =>
 Nth l22 1 fun v23 =>
 AsInt .i64 v23 fun z24 =>
 Bnd (upd (upd (upd (upd (upd (upd (upd (upd (upd (upd (upd s1 23 (a 14)) 24 (ptr p11 1)) 25 v17) 26 v18) 22 v18) 27 v21) 28 v23) 8 v21) 9 v23) 29 v23) 30 (.bool (eqZ z24 (Int.ofNat 0)))) fun s2 =>
Cd (eqZ z24 (Int.ofNat 0)) (
 Sc v21 (Nw H19 (mkRow 22 0 [v21]) fun p25 H26 =>
 App Tryz.prog 39 39 H26 (a 5) (.slice (some ⟨p25, 0, none⟩) 1 1) fun v27 H28 =>
 AsInt .i64 (a 14) fun z29 =>
 InR (Int.add z29 (Int.ofNat 1)) (
 K .normal (upd (upd (upd (upd (upd (upd (upd s2 31 (a 5)) 32 v21) 33 (.slice (some ⟨p25, 0, none⟩) 1 1)) 34 v27) 5 v27) 35 (i64 (Int.add z29 (Int.ofNat 1)))) 14 (i64 (Int.add z29 (Int.ofNat 1)))) H28))) (
 AsInt .i64 (a 14) fun z30 =>
 InR (Int.add z30 (Int.ofNat 1)) (
 K .normal (upd (upd s2 35 (i64 (Int.add z30 (Int.ofNat 1)))) 14 (i64 (Int.add z30 (Int.ofNat 1)))) H19))))) (
 K (.exit 0) (upd a 15 (.bool (ltZ z1 z2))) H)) := by kernel_rfl
theorem rWhere_W (con : CallT) (cam first : Nat) (count : Int) (most h : Nat) (H : CH) (K : KP) : funW Tryz.prog con 116 [.agg ⟨[u64 cam, u64 first, i64 count, u64 most]⟩, u64 h] H K =
 (Nw H (mkRow 29 0 [(u64 (cam)), (u64 (first)), (i64 count), (u64 (most))]) fun p1 H2 =>
 Ld H2 p1 2 fun v3 =>
 AsInt .i64 v3 fun z4 =>
 Cd (ltZ (Int.ofNat 256) z4) (
 Call1 Tryz.prog con 20 [(u64 (h))] H2 fun v5 H6 =>
 AsTup v5 fun l7 =>
 Nth l7 0 fun v8 =>
 AsTup v5 fun l9 =>
 Nth l9 1 fun v10 =>
 AsTup v5 fun l11 =>
 Nth l11 2 fun v12 =>
 AsInt .i64 v12 fun z13 =>
 Cd (notB (eqZ z13 (Int.ofNat 0))) (
 K (.tuple ⟨[(u64 (0)), (u64 (0)), (.bool false)]⟩) H6) (
 AsInt .i64 v8 fun z14 =>
 Cd (leZ (Int.ofNat 256) z14) (
 K (.tuple ⟨[(u64 (0)), (u64 (0)), (.bool false)]⟩) H6) (
 Ld H6 p1 1 fun v15 =>
 AsInt .i64 v8 fun z16 =>
 Must (cvOk .i64 z16) (
 AsNat .u64 v15 fun n17 =>
 K (.tuple ⟨[(u64 ((Nat.mod (Nat.add n17 (wrapN .u64 z16)) 18446744073709551616))), v10, (.bool true)]⟩) H6)))) (
 Call1 Tryz.prog con 20 [(u64 (h))] H2 fun v18 H19 =>
 AsTup v18 fun l20 =>
 Nth l20 0 fun v21 =>
 AsTup v18 fun l22 =>
 Nth l22 1 fun v23 =>
 AsTup v18 fun l24 =>
 Nth l24 2 fun v25 =>
 AsInt .i64 v25 fun z26 =>
 Cd (notB (eqZ z26 (Int.ofNat 0))) (
 K (.tuple ⟨[(u64 (0)), (u64 (0)), (.bool false)]⟩) H19) (
 AsInt .i64 v21 fun z27 =>
 AsInt .i64 v3 fun z28 =>
 Cd (leZ z28 z27) (
 K (.tuple ⟨[(u64 (0)), (u64 (0)), (.bool false)]⟩) H19) (
 Ld H19 p1 1 fun v29 =>
 AsInt .i64 v21 fun z30 =>
 Must (cvOk .i64 z30) (
 AsNat .u64 v29 fun n31 =>
 K (.tuple ⟨[(u64 ((Nat.mod (Nat.add n31 (wrapN .u64 z30)) 18446744073709551616))), v23, (.bool true)]⟩) H19))))) := by kernel_rfl
theorem rOpenStep_W (con : CallT) (p o m : Nat) (t : Int) (H : CH) (K : KP) : funW Tryz.prog con 93 [ptr p o, ptr m 0, i64 t] H K =
 (Ld H p (Nat.add o 0) fun v1 =>
 AsInt .i64 v1 fun z2 =>
 Cd (eqZ z2 (Int.ofNat 1)) (
 K (.bool true) H) (
 St H p (Nat.add o 0) [(iN (1))] fun H3 =>
 St H3 p (Nat.add o 7) [(iN (33))] fun H4 =>
 Ld H4 p (Nat.add (Nat.add o 1) 0) fun v5 =>
 Ld H4 p (Nat.add (Nat.add o 1) 1) fun v6 =>
 Ld H4 p (Nat.add (Nat.add o 1) 2) fun v7 =>
 Ld H4 p (Nat.add (Nat.add o 1) 3) fun v8 =>
 Ld H4 p (Nat.add o 5) fun v9 =>
 Call1 Tryz.prog con 116 [(.agg ⟨[v5, v6, v7, v8]⟩), v9] H4 fun v10 H11 =>
 AsTup v10 fun l12 =>
 Nth l12 0 fun v13 =>
 AsTup v10 fun l14 =>
 Nth l14 1 fun v15 =>
 AsTup v10 fun l16 =>
 Nth l16 2 fun v17 =>
 AsBool v17 fun b18 =>
 Cd (notB b18) (
 K (.bool true) H11) (
 Call1 Tryz.prog con 117 [(ptr m 0), (i64 t), v13] H11 fun v19 H20 =>
 Call1 Tryz.prog con 95 [v19] H20 fun v21 H22 =>
 Nw H22 (mkRow 157 0 [(u8 (0)), (u64 (0)), (u64 (0))]) fun p23 H24 =>
 AsAgg v21 fun l25 =>
 Must (eqN (lenF l25) 3) (
 Nth l25 0 fun v26 =>
 Nth l25 1 fun v27 =>
 Nth l25 2 fun v28 =>
 St H24 p23 0 [v26, v27, v28] fun H29 =>
 Ld H29 p23 0 fun v30 =>
 AsNat .u8 v30 fun n31 =>
 Cd (eqN n31 3) (
 Ld H29 p23 1 fun v32 =>
 AsNat .u64 v32 fun n33 =>
 AsNat .u64 v15 fun n34 =>
 Cd (eqN n33 n34) (
 St H29 p (Nat.add o 7) [(iN (0))] fun H35 =>
 Ld H35 p23 2 fun v36 =>
 Sc v36 (St H35 p (Nat.add o 6) [v36] fun H37 =>
 K (.bool true) H37)) (
 K (.bool true) H29)) (
 K (.bool true) H29))))) := by kernel_rfl
theorem rCloseStep_W (con : CallT) (p o m : Nat) (t : Int) (H : CH) (K : KP) : funW Tryz.prog con 94 [ptr p o, ptr m 0, i64 t] H K =
 (Ld H p (Nat.add o 0) fun v1 =>
 AsInt .i64 v1 fun z2 =>
 Cd (eqZ z2 (Int.ofNat 1)) (
 K (.bool true) H) (
 St H p (Nat.add o 0) [(iN (1))] fun H3 =>
 St H3 p (Nat.add o 7) [(iN (34))] fun H4 =>
 Ld H4 p (Nat.add (Nat.add o 1) 0) fun v5 =>
 Ld H4 p (Nat.add (Nat.add o 1) 1) fun v6 =>
 Ld H4 p (Nat.add (Nat.add o 1) 2) fun v7 =>
 Ld H4 p (Nat.add (Nat.add o 1) 3) fun v8 =>
 Ld H4 p (Nat.add o 5) fun v9 =>
 Call1 Tryz.prog con 116 [(.agg ⟨[v5, v6, v7, v8]⟩), v9] H4 fun v10 H11 =>
 AsTup v10 fun l12 =>
 Nth l12 0 fun v13 =>
 AsTup v10 fun l14 =>
 Nth l14 1 fun v15 =>
 AsTup v10 fun l16 =>
 Nth l16 2 fun v17 =>
 AsBool v17 fun b18 =>
 Cd (notB b18) (
 K (.bool true) H11) (
 Call1 Tryz.prog con 117 [(ptr m 0), (i64 t), v13] H11 fun v19 H20 =>
 Call1 Tryz.prog con 95 [v19] H20 fun v21 H22 =>
 Nw H22 (mkRow 157 0 [(u8 (0)), (u64 (0)), (u64 (0))]) fun p23 H24 =>
 AsAgg v21 fun l25 =>
 Must (eqN (lenF l25) 3) (
 Nth l25 0 fun v26 =>
 Nth l25 1 fun v27 =>
 Nth l25 2 fun v28 =>
 St H24 p23 0 [v26, v27, v28] fun H29 =>
 Ld H29 p23 0 fun v30 =>
 AsNat .u8 v30 fun n31 =>
 Cd (eqN n31 3) (
 Ld H29 p23 1 fun v32 =>
 AsNat .u64 v32 fun n33 =>
 AsNat .u64 v15 fun n34 =>
 Cd (eqN n33 n34) (
 Ld H29 p23 2 fun v35 =>
 Ld H29 p (Nat.add o 6) fun v36 =>
 AsNat .u64 v35 fun n37 =>
 AsNat .u64 v36 fun n38 =>
 Cd (eqN n37 n38) (
 St H29 p (Nat.add o 7) [(iN (0))] fun H39 =>
 K (.bool true) H39) (
 K (.bool true) H29)) (
 K (.bool true) H29)) (
 K (.bool true) H29))))) := by kernel_rfl
theorem rLive14_W (con : CallT) (m : Nat) (cam first : Nat) (count : Int) (most : Nat) (H : CH) (K : KP) : funW Tryz.prog con 74 [ptr m 0, .agg ⟨[u64 cam, u64 first, i64 count, u64 most]⟩] H K =
 (Nw H (mkRow 29 0 [(u64 (cam)), (u64 (first)), (i64 count), (u64 (most))]) fun p1 H2 =>
 LoopC Tryz.prog con (lpAt Tryz.prog 74 0) (upd (upd (upd (upd (upd (upd (fun _ => undV) 1 (.agg ⟨[(u64 (cam)), (u64 (first)), (i64 count), (u64 (most))]⟩)) 0 (ptr m 0)) 3 (ptr p1 0)) 4 (snil)) 5 (snil)) 6 (iN (0))) H2 (fun e => ceP e
 (fun a3 H4 =>
 LoopC Tryz.prog con (lpAt Tryz.prog 74 1) (upd (upd a3 10 (snil)) 11 (iN (0))) H4 (fun e => ceP e
 (fun a6 H7 =>
 K (a6 10) H7)
 (fun i8 => fun a6 H7 =>
 Cd (eqN i8 2) (
 K (a6 10) H7) (
 False))
 (fun a6 H7 =>
 K (a6 4) H7)))
 (fun i5 => fun a3 H4 =>
 Cd (eqN i5 0) (
 LoopC Tryz.prog con (lpAt Tryz.prog 74 1) (upd (upd a3 10 (snil)) 11 (iN (0))) H4 (fun e => ceP e
 (fun a9 H10 =>
 K (a9 10) H10)
 (fun i11 => fun a9 H10 =>
 Cd (eqN i11 2) (
 K (a9 10) H10) (
 False))
 (fun a9 H10 =>
 K (a9 4) H10))) (
 False))
 (fun a3 H4 =>
 K (a3 4) H4))) := by kernel_rfl
theorem rLive14A_W (con : CallT) (a : TF) (H : CH) (K : KX) : codeW (lpAt Tryz.prog 74 0) Tryz.prog con a H K =
 (IsNil .ptr (a 0) fun b1 =>
 Bnd (upd (upd (upd a 14 (a 0)) 15 (.bool (notB b1))) 16 (.bool (notB b1))) fun s1 =>
Cd (notB b1) (
 AsPtr (a 3) fun p2 o3 =>
 Ld H p2 (Nat.add o3 2) fun v4 =>
 AsInt .i64 (a 6) fun z5 =>
 AsInt .i64 v4 fun z6 =>
 Bnd (upd (upd (upd (upd (upd (upd (upd (upd (upd (upd s1 16 (.bool true)) 17 (a 6)) 16 (.bool true)) 18 (ptr p2 (Nat.add o3 2))) 16 (.bool true)) 19 v4) 16 (.bool true)) 20 (.bool (ltZ z5 z6))) 21 (.bool (ltZ z5 z6))) 22 (.bool (ltZ z5 z6))) fun s2 =>
Cd (ltZ z5 z6) (
 AsInt .i64 (a 6) fun z7 =>
 Bnd (upd (upd (upd (upd (upd s2 22 (.bool true)) 23 (a 6)) 22 (.bool true)) 24 (.bool (ltZ z7 (Int.ofNat 256)))) 25 (.bool (ltZ z7 (Int.ofNat 256)))) fun s3 =>
Cd (ltZ z7 (Int.ofNat 256)) (
 AsPtr (a 3) fun p8 o9 =>
 Ld H p8 (Nat.add o9 1) fun v10 =>
 AsInt .i64 (a 6) fun z11 =>
 Must (cvOk .i64 z11) (
 AsNat .u64 v10 fun n12 =>
 Call1 Tryz.prog con 96 [(a 0), (u64 ((Nat.mod (Nat.add n12 (wrapN .u64 z11)) 18446744073709551616)))] H fun v13 H14 =>
 Call1 Tryz.prog con 95 [v13] H14 fun v15 H16 =>
 Nw H16 (mkRow 157 0 [(u8 (0)), (u64 (0)), (u64 (0))]) fun p17 H18 =>
 AsAgg v15 fun l19 =>
 Must (eqN (lenF l19) 3) (
 Nth l19 0 fun v20 =>
 Nth l19 1 fun v21 =>
 Nth l19 2 fun v22 =>
 St H18 p17 0 [v20, v21, v22] fun H23 =>
 Ld H23 p17 0 fun v24 =>
 AsNat .u8 v24 fun n25 =>
 Bnd (upd (upd (upd (upd (upd (upd (upd (upd (upd (upd (upd (upd s3 28 (a 0)) 29 (ptr p8 (Nat.add o9 1))) 30 v10) 31 (a 6)) 32 (u64 ((wrapN .u64 z11)))) 33 (u64 ((Nat.mod (Nat.add n12 (wrapN .u64 z11)) 18446744073709551616)))) 34 v13) 35 v15) 7 (ptr p17 0)) 36 (ptr p17 0)) 37 v24) 38 (.bool (notB (eqN n25 3)))) fun s4 =>
Cd (notB (eqN n25 3)) (
 AsInt .i64 (a 6) fun z26 =>
 InR (Int.add z26 (Int.ofNat 1)) (
 K .normal (upd (upd (upd s4 26 (a 6)) 27 (i64 (Int.add z26 (Int.ofNat 1)))) 6 (i64 (Int.add z26 (Int.ofNat 1)))) H23)) (
 Ld H23 p17 1 fun v27 =>
 Call1 Tryz.prog con 97 [(a 6), v27] H23 fun v28 H29 =>
 AsTup v28 fun l30 =>
 Nth l30 0 fun v31 =>
 AsTup v28 fun l32 =>
 Nth l32 1 fun v33 =>
 AsInt .i64 v33 fun z34 =>
 Cd (eqZ z34 (Int.ofNat 0)) (
 Sc v31 (Nw H29 (mkRow 22 0 [v31]) fun p35 H36 =>
 App Tryz.prog 39 39 H36 (a 5) (.slice (some ⟨p35, 0, none⟩) 1 1) fun v37 H38 =>
 AsInt .i64 (a 6) fun z39 =>
 InR (Int.add z39 (Int.ofNat 1)) (
 K .normal (upd (upd (upd (upd (upd (upd (upd (upd (upd (upd (upd (upd (upd (upd (upd (upd (upd (upd (upd s4 40 (a 6)) 41 (ptr p17 1)) 42 v27) 43 v28) 39 v28) 44 v31) 45 v33) 8 v31) 9 v33) 46 v33) 47 (.bool (eqZ z34 (Int.ofNat 0)))) 48 (a 5)) 49 v31) 50 (.slice (some ⟨p35, 0, none⟩) 1 1)) 51 v37) 5 v37) 26 (a 6)) 27 (i64 (Int.add z39 (Int.ofNat 1)))) 6 (i64 (Int.add z39 (Int.ofNat 1)))) H38))) (
 AsInt .i64 (a 6) fun z40 =>
 InR (Int.add z40 (Int.ofNat 1)) (
 K .normal (upd (upd (upd (upd (upd (upd (upd (upd (upd (upd (upd (upd (upd (upd s4 40 (a 6)) 41 (ptr p17 1)) 42 v27) 43 v28) 39 v28) 44 v31) 45 v33) 8 v31) 9 v33) 46 v33) 47 (.bool (eqZ z34 (Int.ofNat 0)))) 26 (a 6)) 27 (i64 (Int.add z40 (Int.ofNat 1)))) 6 (i64 (Int.add z40 (Int.ofNat 1)))) H29)))))) (
 K (.exit 0) s3 H)) (
 K (.exit 0) (upd (Rz false 22 s2 23 2) 25 (.bool false)) H)) (
 K (.exit 0) (upd (Rz false 22 (upd (upd (Rz false 16 s1 17 4) 21 (.bool false)) 22 (.bool false)) 23 2) 25 (.bool false)) H)) := by kernel_rfl
theorem rLive14B_W (con : CallT) (a : TF) (H : CH) (K : KX) : codeW (lpAt Tryz.prog 74 1) Tryz.prog con a H K =
 (AsLen (a 5) fun l1 =>
 AsInt .i64 (a 11) fun z2 =>
 Cd (ltZ z2 (Int.ofNat l1)) (
 LoopC Tryz.prog con (lpAt Tryz.prog 74 2) (upd (upd (upd (upd (upd (upd a 52 (a 11)) 53 (a 5)) 54 (iN (l1))) 55 (.bool (ltZ z2 (Int.ofNat l1)))) 12 (snil)) 13 (iN (0))) H (fun e => ceP e
 (fun a3 H4 =>
 AsSlc (a3 5) fun p6 o7 l8 c9 =>
 AsCnt (a3 11) fun n10 =>
 Must (ltN n10 l8) (
 Ld H4 p6 (Nat.add o7 (Nat.mul n10 1)) fun v11 =>
 Sc v11 (Nw H4 (mkRow 22 0 [v11]) fun p12 H13 =>
 App Tryz.prog 39 39 H13 (a3 12) (.slice (some ⟨p12, 0, none⟩) 1 1) fun v14 H15 =>
 Slc Tryz.prog H15 39 (a3 10) (some (a3 13)) none none fun v16 =>
 App Tryz.prog 39 39 H15 v14 v16 fun v17 H18 =>
 AsInt .i64 (a3 11) fun z19 =>
 InR (Int.add z19 (Int.ofNat 1)) (
 K .normal (upd (upd (upd (upd (upd (upd (upd (upd (upd (upd (upd (upd (upd (upd (upd (upd (upd a3 82 (a3 12)) 83 (a3 5)) 84 (a3 11)) 85 (ptr p6 (Nat.add o7 (Nat.mul n10 1)))) 86 v11) 87 (.slice (some ⟨p12, 0, none⟩) 1 1)) 88 v14) 12 v14) 89 v14) 90 (a3 10)) 91 (a3 13)) 92 v16) 93 v17) 10 v17) 56 (a3 11)) 57 (i64 (Int.add z19 (Int.ofNat 1)))) 11 (i64 (Int.add z19 (Int.ofNat 1)))) H18))))
 (fun i5 => fun a3 H4 =>
 Cd (eqN i5 4) (
 AsSlc (a3 5) fun p20 o21 l22 c23 =>
 AsCnt (a3 11) fun n24 =>
 Must (ltN n24 l22) (
 Ld H4 p20 (Nat.add o21 (Nat.mul n24 1)) fun v25 =>
 Sc v25 (Nw H4 (mkRow 22 0 [v25]) fun p26 H27 =>
 App Tryz.prog 39 39 H27 (a3 12) (.slice (some ⟨p26, 0, none⟩) 1 1) fun v28 H29 =>
 Slc Tryz.prog H29 39 (a3 10) (some (a3 13)) none none fun v30 =>
 App Tryz.prog 39 39 H29 v28 v30 fun v31 H32 =>
 AsInt .i64 (a3 11) fun z33 =>
 InR (Int.add z33 (Int.ofNat 1)) (
 K .normal (upd (upd (upd (upd (upd (upd (upd (upd (upd (upd (upd (upd (upd (upd (upd (upd (upd a3 82 (a3 12)) 83 (a3 5)) 84 (a3 11)) 85 (ptr p20 (Nat.add o21 (Nat.mul n24 1)))) 86 v25) 87 (.slice (some ⟨p26, 0, none⟩) 1 1)) 88 v28) 12 v28) 89 v28) 90 (a3 10)) 91 (a3 13)) 92 v30) 93 v31) 10 v31) 56 (a3 11)) 57 (i64 (Int.add z33 (Int.ofNat 1)))) 11 (i64 (Int.add z33 (Int.ofNat 1)))) H32)))) (
 Cd (eqN i5 3) (
 AsInt .i64 (a3 11) fun z34 =>
 InR (Int.add z34 (Int.ofNat 1)) (
 K .normal (upd (upd (upd a3 56 (a3 11)) 57 (i64 (Int.add z34 (Int.ofNat 1)))) 11 (i64 (Int.add z34 (Int.ofNat 1)))) H4)) (
 K (.exit i5) a3 H4)))
 (fun a3 H4 =>
 K .ret a3 H4))) (
 K (.exit 2) (upd (upd (upd (upd a 52 (a 11)) 53 (a 5)) 54 (iN (l1))) 55 (.bool (ltZ z2 (Int.ofNat l1)))) H)) := by kernel_rfl
theorem rLive14C_W (con : CallT) (a : TF) (H : CH) (K : KX) : codeW (lpAt Tryz.prog 74 2) Tryz.prog con a H K =
 (AsLen (a 10) fun l1 =>
 AsInt .i64 (a 13) fun z2 =>
 Bnd (upd (upd (upd (upd (upd a 58 (a 13)) 59 (a 10)) 60 (iN (l1))) 61 (.bool (ltZ z2 (Int.ofNat l1)))) 62 (.bool (ltZ z2 (Int.ofNat l1)))) fun s1 =>
Cd (ltZ z2 (Int.ofNat l1)) (
 AsSlc (a 10) fun p3 o4 l5 c6 =>
 AsCnt (a 13) fun n7 =>
 Must (ltN n7 l5) (
 Ld H p3 (Nat.add o4 (Nat.mul n7 1)) fun v8 =>
 AsSlc (a 5) fun p9 o10 l11 c12 =>
 AsCnt (a 11) fun n13 =>
 Must (ltN n13 l11) (
 Ld H p9 (Nat.add o10 (Nat.mul n13 1)) fun v14 =>
 AsNat .u64 v8 fun n15 =>
 AsNat .u64 v14 fun n16 =>
 Bnd (upd (upd (upd (upd (upd (upd (upd (upd (upd (upd (upd (upd (upd (upd (upd (upd (upd (upd (upd s1 62 (.bool true)) 63 (a 10)) 62 (.bool true)) 64 (a 13)) 62 (.bool true)) 65 (ptr p3 (Nat.add o4 (Nat.mul n7 1)))) 62 (.bool true)) 66 v8) 62 (.bool true)) 67 (a 5)) 62 (.bool true)) 68 (a 11)) 62 (.bool true)) 69 (ptr p9 (Nat.add o10 (Nat.mul n13 1)))) 62 (.bool true)) 70 v14) 62 (.bool true)) 71 (.bool (ltN n15 n16))) 72 (.bool (ltN n15 n16))) fun s2 =>
Cd (ltN n15 n16) (
 AsSlc (a 10) fun p17 o18 l19 c20 =>
 AsCnt (a 13) fun n21 =>
 Must (ltN n21 l19) (
 Ld H p17 (Nat.add o18 (Nat.mul n21 1)) fun v22 =>
 Sc v22 (Nw H (mkRow 22 0 [v22]) fun p23 H24 =>
 App Tryz.prog 39 39 H24 (a 12) (.slice (some ⟨p23, 0, none⟩) 1 1) fun v25 H26 =>
 AsInt .i64 (a 13) fun z27 =>
 InR (Int.add z27 (Int.ofNat 1)) (
 K .normal (upd (upd (upd (upd (upd (upd (upd (upd (upd (upd (upd s2 73 (a 12)) 74 (a 10)) 75 (a 13)) 76 (ptr p17 (Nat.add o18 (Nat.mul n21 1)))) 77 v22) 78 (.slice (some ⟨p23, 0, none⟩) 1 1)) 79 v25) 12 v25) 80 (a 13)) 81 (i64 (Int.add z27 (Int.ofNat 1)))) 13 (i64 (Int.add z27 (Int.ofNat 1)))) H26)))) (
 K (.exit 4) s2 H)))) (
 K (.exit 4) (upd (Rz false 62 s1 63 9) 72 (.bool false)) H)) := by kernel_rfl
theorem l14begin_W (con : CallT) (cam first : Nat) (count : Int) (most : Nat) (kind : Int) (h st : Nat) (H : CH) (K : KP) : funW Tryz.prog con 72 [.agg ⟨[u64 cam, u64 first, i64 count, u64 most]⟩, .agg ⟨[i64 kind, u64 h, u64 st]⟩] H K =
 (Nw H (mkRow 29 0 [(u64 (cam)), (u64 (first)), (i64 count), (u64 (most))]) fun p1 H2 =>
 Nw H2 (mkRow 98 0 [(i64 kind), (u64 (h)), (u64 (st))]) fun p3 H4 =>
 Ld H4 p3 0 fun v5 =>
 Ld H4 p3 1 fun v6 =>
 Ld H4 p3 2 fun v7 =>
 Ld H4 p1 0 fun v8 =>
 Ld H4 p1 1 fun v9 =>
 Ld H4 p1 2 fun v10 =>
 Ld H4 p1 3 fun v11 =>
 Call1 Tryz.prog con 38 [(.agg ⟨[v8, v9, v10, v11]⟩)] H4 fun v12 H13 =>
 Ld H13 p1 0 fun v14 =>
 Ld H13 p1 1 fun v15 =>
 Ld H13 p1 2 fun v16 =>
 Ld H13 p1 3 fun v17 =>
 Ld H13 p3 1 fun v18 =>
 Call1 Tryz.prog con 83 [(.agg ⟨[v14, v15, v16, v17]⟩), v18] H13 fun v19 H20 =>
 Ld H20 p1 0 fun v21 =>
 Ld H20 p1 1 fun v22 =>
 Ld H20 p1 2 fun v23 =>
 Ld H20 p1 3 fun v24 =>
 Ld H20 p3 1 fun v25 =>
 Call1 Tryz.prog con 25 [(.agg ⟨[v21, v22, v23, v24]⟩), v25] H20 fun v26 H27 =>
 Ld H27 p1 0 fun v28 =>
 Ld H27 p1 1 fun v29 =>
 Ld H27 p1 2 fun v30 =>
 Ld H27 p1 3 fun v31 =>
 Ld H27 p3 1 fun v32 =>
 Ld H27 p3 2 fun v33 =>
 Call1 Tryz.prog con 67 [(.agg ⟨[v28, v29, v30, v31]⟩), v32, v33] H27 fun v34 H35 =>
 Ld H35 p1 0 fun v36 =>
 Ld H35 p1 1 fun v37 =>
 Ld H35 p1 2 fun v38 =>
 Ld H35 p1 3 fun v39 =>
 Ld H35 p3 0 fun v40 =>
 Ld H35 p3 1 fun v41 =>
 Sc v40 (Sc v41 (Call1 Tryz.prog con 91 [(.agg ⟨[v36, v37, v38, v39]⟩), (.agg ⟨[v40, v41]⟩), (snil)] H35 fun v42 H43 =>
 Ld H43 p1 0 fun v44 =>
 Ld H43 p1 1 fun v45 =>
 Ld H43 p1 2 fun v46 =>
 Ld H43 p1 3 fun v47 =>
 Ld H43 p3 1 fun v48 =>
 Sc v48 (Ld H43 p1 0 fun v49 =>
 Ld H43 p1 1 fun v50 =>
 Ld H43 p1 2 fun v51 =>
 Ld H43 p1 3 fun v52 =>
 Ld H43 p3 1 fun v53 =>
 Ld H43 p3 2 fun v54 =>
 Sc v53 (Sc v54 (Sc v12 (Sc v19 (Sc v26 (Sc v34 (Sc v42 (Nw H43 (mkRow 107 0 [v5, v6, v7, v12, v19, v26, v34, v42, (iN (0)), v44, v45, v46, v47, v48, (u64 (0)), (iN (0)), (iN (0)), v49, v50, v51, v52, v53, v54, (iN (0)), (iN (0)), (i64 (Int.negSucc 0))]) fun p55 H56 =>
 Ld H4 p3 2 fun v57 =>
 Same v54 v57 (
 Ld H13 p3 2 fun v58 =>
 Same v54 v58 (
 Ld H20 p3 2 fun v59 =>
 Same v54 v59 (
 Ld H27 p3 2 fun v60 =>
 Same v54 v60 (
 Ld H35 p3 2 fun v61 =>
 Same v54 v61 (
 Ld H43 p3 2 fun v62 =>
 Same v54 v62 (
 Ld H4 p3 1 fun v63 =>
 Same v53 v63 (
 Ld H13 p3 1 fun v64 =>
 Same v53 v64 (
 Ld H20 p3 1 fun v65 =>
 Same v53 v65 (
 Ld H27 p3 1 fun v66 =>
 Same v53 v66 (
 Ld H35 p3 1 fun v67 =>
 Same v53 v67 (
 Ld H43 p3 1 fun v68 =>
 Same v53 v68 (
 Ld H4 p1 0 fun v69 =>
 Ld H4 p1 1 fun v70 =>
 Ld H4 p1 2 fun v71 =>
 Ld H4 p1 3 fun v72 =>
 Same (.agg ⟨[v49, v50, v51, v52]⟩) (.agg ⟨[v69, v70, v71, v72]⟩) (
 Ld H13 p1 0 fun v73 =>
 Ld H13 p1 1 fun v74 =>
 Ld H13 p1 2 fun v75 =>
 Ld H13 p1 3 fun v76 =>
 Same (.agg ⟨[v49, v50, v51, v52]⟩) (.agg ⟨[v73, v74, v75, v76]⟩) (
 Ld H20 p1 0 fun v77 =>
 Ld H20 p1 1 fun v78 =>
 Ld H20 p1 2 fun v79 =>
 Ld H20 p1 3 fun v80 =>
 Same (.agg ⟨[v49, v50, v51, v52]⟩) (.agg ⟨[v77, v78, v79, v80]⟩) (
 Ld H27 p1 0 fun v81 =>
 Ld H27 p1 1 fun v82 =>
 Ld H27 p1 2 fun v83 =>
 Ld H27 p1 3 fun v84 =>
 Same (.agg ⟨[v49, v50, v51, v52]⟩) (.agg ⟨[v81, v82, v83, v84]⟩) (
 Ld H35 p1 0 fun v85 =>
 Ld H35 p1 1 fun v86 =>
 Ld H35 p1 2 fun v87 =>
 Ld H35 p1 3 fun v88 =>
 Same (.agg ⟨[v49, v50, v51, v52]⟩) (.agg ⟨[v85, v86, v87, v88]⟩) (
 Ld H43 p1 0 fun v89 =>
 Ld H43 p1 1 fun v90 =>
 Ld H43 p1 2 fun v91 =>
 Ld H43 p1 3 fun v92 =>
 Same (.agg ⟨[v49, v50, v51, v52]⟩) (.agg ⟨[v89, v90, v91, v92]⟩) (
 Ld H4 p3 1 fun v93 =>
 Same v48 v93 (
 Ld H13 p3 1 fun v94 =>
 Same v48 v94 (
 Ld H20 p3 1 fun v95 =>
 Same v48 v95 (
 Ld H27 p3 1 fun v96 =>
 Same v48 v96 (
 Ld H35 p3 1 fun v97 =>
 Same v48 v97 (
 Ld H43 p3 1 fun v98 =>
 Same v48 v98 (
 Ld H4 p1 0 fun v99 =>
 Ld H4 p1 1 fun v100 =>
 Ld H4 p1 2 fun v101 =>
 Ld H4 p1 3 fun v102 =>
 Same (.agg ⟨[v44, v45, v46, v47]⟩) (.agg ⟨[v99, v100, v101, v102]⟩) (
 Ld H13 p1 0 fun v103 =>
 Ld H13 p1 1 fun v104 =>
 Ld H13 p1 2 fun v105 =>
 Ld H13 p1 3 fun v106 =>
 Same (.agg ⟨[v44, v45, v46, v47]⟩) (.agg ⟨[v103, v104, v105, v106]⟩) (
 Ld H20 p1 0 fun v107 =>
 Ld H20 p1 1 fun v108 =>
 Ld H20 p1 2 fun v109 =>
 Ld H20 p1 3 fun v110 =>
 Same (.agg ⟨[v44, v45, v46, v47]⟩) (.agg ⟨[v107, v108, v109, v110]⟩) (
 Ld H27 p1 0 fun v111 =>
 Ld H27 p1 1 fun v112 =>
 Ld H27 p1 2 fun v113 =>
 Ld H27 p1 3 fun v114 =>
 Same (.agg ⟨[v44, v45, v46, v47]⟩) (.agg ⟨[v111, v112, v113, v114]⟩) (
 Ld H35 p1 0 fun v115 =>
 Ld H35 p1 1 fun v116 =>
 Ld H35 p1 2 fun v117 =>
 Ld H35 p1 3 fun v118 =>
 Same (.agg ⟨[v44, v45, v46, v47]⟩) (.agg ⟨[v115, v116, v117, v118]⟩) (
 Ld H43 p1 0 fun v119 =>
 Ld H43 p1 1 fun v120 =>
 Ld H43 p1 2 fun v121 =>
 Ld H43 p1 3 fun v122 =>
 Same (.agg ⟨[v44, v45, v46, v47]⟩) (.agg ⟨[v119, v120, v121, v122]⟩) (
 Ld H4 p3 1 fun v123 =>
 Same v41 v123 (
 Ld H13 p3 1 fun v124 =>
 Same v41 v124 (
 Ld H20 p3 1 fun v125 =>
 Same v41 v125 (
 Ld H27 p3 1 fun v126 =>
 Same v41 v126 (
 Ld H35 p3 1 fun v127 =>
 Same v41 v127 (
 Ld H4 p3 0 fun v128 =>
 Same v40 v128 (
 Ld H13 p3 0 fun v129 =>
 Same v40 v129 (
 Ld H20 p3 0 fun v130 =>
 Same v40 v130 (
 Ld H27 p3 0 fun v131 =>
 Same v40 v131 (
 Ld H35 p3 0 fun v132 =>
 Same v40 v132 (
 Ld H4 p1 0 fun v133 =>
 Ld H4 p1 1 fun v134 =>
 Ld H4 p1 2 fun v135 =>
 Ld H4 p1 3 fun v136 =>
 Same (.agg ⟨[v36, v37, v38, v39]⟩) (.agg ⟨[v133, v134, v135, v136]⟩) (
 Ld H13 p1 0 fun v137 =>
 Ld H13 p1 1 fun v138 =>
 Ld H13 p1 2 fun v139 =>
 Ld H13 p1 3 fun v140 =>
 Same (.agg ⟨[v36, v37, v38, v39]⟩) (.agg ⟨[v137, v138, v139, v140]⟩) (
 Ld H20 p1 0 fun v141 =>
 Ld H20 p1 1 fun v142 =>
 Ld H20 p1 2 fun v143 =>
 Ld H20 p1 3 fun v144 =>
 Same (.agg ⟨[v36, v37, v38, v39]⟩) (.agg ⟨[v141, v142, v143, v144]⟩) (
 Ld H27 p1 0 fun v145 =>
 Ld H27 p1 1 fun v146 =>
 Ld H27 p1 2 fun v147 =>
 Ld H27 p1 3 fun v148 =>
 Same (.agg ⟨[v36, v37, v38, v39]⟩) (.agg ⟨[v145, v146, v147, v148]⟩) (
 Ld H35 p1 0 fun v149 =>
 Ld H35 p1 1 fun v150 =>
 Ld H35 p1 2 fun v151 =>
 Ld H35 p1 3 fun v152 =>
 Same (.agg ⟨[v36, v37, v38, v39]⟩) (.agg ⟨[v149, v150, v151, v152]⟩) (
 Ld H4 p3 2 fun v153 =>
 Same v33 v153 (
 Ld H13 p3 2 fun v154 =>
 Same v33 v154 (
 Ld H20 p3 2 fun v155 =>
 Same v33 v155 (
 Ld H27 p3 2 fun v156 =>
 Same v33 v156 (
 Ld H4 p3 1 fun v157 =>
 Same v32 v157 (
 Ld H13 p3 1 fun v158 =>
 Same v32 v158 (
 Ld H20 p3 1 fun v159 =>
 Same v32 v159 (
 Ld H27 p3 1 fun v160 =>
 Same v32 v160 (
 Ld H4 p1 0 fun v161 =>
 Ld H4 p1 1 fun v162 =>
 Ld H4 p1 2 fun v163 =>
 Ld H4 p1 3 fun v164 =>
 Same (.agg ⟨[v28, v29, v30, v31]⟩) (.agg ⟨[v161, v162, v163, v164]⟩) (
 Ld H13 p1 0 fun v165 =>
 Ld H13 p1 1 fun v166 =>
 Ld H13 p1 2 fun v167 =>
 Ld H13 p1 3 fun v168 =>
 Same (.agg ⟨[v28, v29, v30, v31]⟩) (.agg ⟨[v165, v166, v167, v168]⟩) (
 Ld H20 p1 0 fun v169 =>
 Ld H20 p1 1 fun v170 =>
 Ld H20 p1 2 fun v171 =>
 Ld H20 p1 3 fun v172 =>
 Same (.agg ⟨[v28, v29, v30, v31]⟩) (.agg ⟨[v169, v170, v171, v172]⟩) (
 Ld H27 p1 0 fun v173 =>
 Ld H27 p1 1 fun v174 =>
 Ld H27 p1 2 fun v175 =>
 Ld H27 p1 3 fun v176 =>
 Same (.agg ⟨[v28, v29, v30, v31]⟩) (.agg ⟨[v173, v174, v175, v176]⟩) (
 Ld H4 p3 1 fun v177 =>
 Same v25 v177 (
 Ld H13 p3 1 fun v178 =>
 Same v25 v178 (
 Ld H20 p3 1 fun v179 =>
 Same v25 v179 (
 Ld H4 p1 0 fun v180 =>
 Ld H4 p1 1 fun v181 =>
 Ld H4 p1 2 fun v182 =>
 Ld H4 p1 3 fun v183 =>
 Same (.agg ⟨[v21, v22, v23, v24]⟩) (.agg ⟨[v180, v181, v182, v183]⟩) (
 Ld H13 p1 0 fun v184 =>
 Ld H13 p1 1 fun v185 =>
 Ld H13 p1 2 fun v186 =>
 Ld H13 p1 3 fun v187 =>
 Same (.agg ⟨[v21, v22, v23, v24]⟩) (.agg ⟨[v184, v185, v186, v187]⟩) (
 Ld H20 p1 0 fun v188 =>
 Ld H20 p1 1 fun v189 =>
 Ld H20 p1 2 fun v190 =>
 Ld H20 p1 3 fun v191 =>
 Same (.agg ⟨[v21, v22, v23, v24]⟩) (.agg ⟨[v188, v189, v190, v191]⟩) (
 Ld H4 p3 1 fun v192 =>
 Same v18 v192 (
 Ld H13 p3 1 fun v193 =>
 Same v18 v193 (
 Ld H4 p1 0 fun v194 =>
 Ld H4 p1 1 fun v195 =>
 Ld H4 p1 2 fun v196 =>
 Ld H4 p1 3 fun v197 =>
 Same (.agg ⟨[v14, v15, v16, v17]⟩) (.agg ⟨[v194, v195, v196, v197]⟩) (
 Ld H13 p1 0 fun v198 =>
 Ld H13 p1 1 fun v199 =>
 Ld H13 p1 2 fun v200 =>
 Ld H13 p1 3 fun v201 =>
 Same (.agg ⟨[v14, v15, v16, v17]⟩) (.agg ⟨[v198, v199, v200, v201]⟩) (
 Ld H4 p3 0 fun v202 =>
 Ld H4 p3 1 fun v203 =>
 Ld H4 p3 2 fun v204 =>
 Same (.agg ⟨[v5, v6, v7]⟩) (.agg ⟨[v202, v203, v204]⟩) (
 Ld H13 p3 0 fun v205 =>
 Ld H13 p3 1 fun v206 =>
 Ld H13 p3 2 fun v207 =>
 Same (.agg ⟨[v5, v6, v7]⟩) (.agg ⟨[v205, v206, v207]⟩) (
 Ld H20 p3 0 fun v208 =>
 Ld H20 p3 1 fun v209 =>
 Ld H20 p3 2 fun v210 =>
 Same (.agg ⟨[v5, v6, v7]⟩) (.agg ⟨[v208, v209, v210]⟩) (
 Ld H27 p3 0 fun v211 =>
 Ld H27 p3 1 fun v212 =>
 Ld H27 p3 2 fun v213 =>
 Same (.agg ⟨[v5, v6, v7]⟩) (.agg ⟨[v211, v212, v213]⟩) (
 Ld H35 p3 0 fun v214 =>
 Ld H35 p3 1 fun v215 =>
 Ld H35 p3 2 fun v216 =>
 Same (.agg ⟨[v5, v6, v7]⟩) (.agg ⟨[v214, v215, v216]⟩) (
 Ld H43 p3 0 fun v217 =>
 Ld H43 p3 1 fun v218 =>
 Ld H43 p3 2 fun v219 =>
 Same (.agg ⟨[v5, v6, v7]⟩) (.agg ⟨[v217, v218, v219]⟩) (
 K (ptr p55 0) H56)))))))))))))))))))))))))))))))))))))))))))))))))))))))))))))))))))))))))))))))))))) := by kernel_rfl
theorem l14step_W (con : CallT) (p v m : Nat) (cam first : Nat) (count : Int) (most : Nat) (t : Int) (H : CH) (K : KP) : funW Tryz.prog con 73 [ptr p 0, ptr v 0, ptr m 0, .agg ⟨[u64 cam, u64 first, i64 count, u64 most]⟩, i64 t] H K =
 (Nw H (mkRow 29 0 [(u64 (cam)), (u64 (first)), (i64 count), (u64 (most))]) fun p1 H2 =>
 Ld H2 p 0 fun v3 =>
 AsInt .i64 v3 fun z4 =>
 Cd (eqZ z4 (Int.ofNat 0)) (
 Ld H2 p 3 fun v5 =>
 Call1 Tryz.prog con 84 [v5, (ptr v 0)] H2 fun v6 H7 =>
 Ld H7 p 7 fun v8 =>
 Call1 Tryz.prog con 92 [v8, (ptr m 0), (i64 t)] H7 fun v9 H10 =>
 AsBool v6 fun b11 =>
 AsBool v9 fun b12 =>
 K (.tuple ⟨[v6, (.bool (eqB b11 b12))]⟩) H10) (
 AsInt .i64 v3 fun z13 =>
 Cd (eqZ z13 (Int.ofNat 1)) (
 Ld H2 p 4 fun v14 =>
 Call1 Tryz.prog con 86 [v14, (ptr v 0)] H2 fun v15 H16 =>
 Ld H16 p 7 fun v17 =>
 Call1 Tryz.prog con 92 [v17, (ptr m 0), (i64 t)] H16 fun v18 H19 =>
 AsBool v15 fun b20 =>
 AsBool v18 fun b21 =>
 K (.tuple ⟨[v15, (.bool (eqB b20 b21))]⟩) H19) (
 AsInt .i64 v3 fun z22 =>
 Cd (eqZ z22 (Int.ofNat 2)) (
 Ld H2 p 5 fun v23 =>
 Call1 Tryz.prog con 26 [v23, (ptr v 0)] H2 fun v24 H25 =>
 Call1 Tryz.prog con 93 [(ptr p 8), (ptr m 0), (i64 t)] H25 fun v26 H27 =>
 AsBool v24 fun b28 =>
 AsBool v26 fun b29 =>
 Cd (eqB b28 b29) (
 Ld H27 p 5 fun v30 =>
 Call1 Tryz.prog con 33 [v30] H27 fun v31 H32 =>
 Ld H32 p 14 fun v33 =>
 AsNat .u64 v31 fun n34 =>
 AsNat .u64 v33 fun n35 =>
 Cd (eqN n34 n35) (
 Ld H32 p 5 fun v36 =>
 Call1 Tryz.prog con 27 [v36] H32 fun v37 H38 =>
 Ld H38 p 15 fun v39 =>
 AsInt .i64 v37 fun z40 =>
 AsInt .i64 v39 fun z41 =>
 Ld H32 p 15 fun v42 =>
 Same v39 v42 (
 Ld H38 p 15 fun v43 =>
 Same v39 v43 (
 Ld H27 p 14 fun v44 =>
 Same v33 v44 (
 Ld H32 p 14 fun v45 =>
 Same v33 v45 (
 K (.tuple ⟨[v24, (.bool (eqZ z40 z41))]⟩) H38))))) (
 Ld H27 p 14 fun v46 =>
 Same v33 v46 (
 Ld H32 p 14 fun v47 =>
 Same v33 v47 (
 K (.tuple ⟨[v24, (.bool false)]⟩) H32)))) (
 K (.tuple ⟨[v24, (.bool false)]⟩) H27)) (
 AsInt .i64 v3 fun z48 =>
 Cd (eqZ z48 (Int.ofNat 3)) (
 Ld H2 p 6 fun v49 =>
 Call1 Tryz.prog con 68 [v49, (ptr v 0)] H2 fun v50 H51 =>
 Call1 Tryz.prog con 94 [(ptr p 16), (ptr m 0), (i64 t)] H51 fun v52 H53 =>
 AsBool v50 fun b54 =>
 AsBool v52 fun b55 =>
 Cd (eqB b54 b55) (
 Ld H53 p 6 fun v56 =>
 Call1 Tryz.prog con 34 [v56] H53 fun v57 H58 =>
 Ld H58 p 23 fun v59 =>
 AsInt .i64 v57 fun z60 =>
 AsInt .i64 v59 fun z61 =>
 Ld H53 p 23 fun v62 =>
 Same v59 v62 (
 Ld H58 p 23 fun v63 =>
 Same v59 v63 (
 K (.tuple ⟨[v50, (.bool (eqZ z60 z61))]⟩) H58))) (
 K (.tuple ⟨[v50, (.bool false)]⟩) H53)) (
 AsInt .i64 v3 fun z64 =>
 Cd (eqZ z64 (Int.ofNat 4)) (
 Ld H2 p1 1 fun v65 =>
 Ld H2 p 1 fun v66 =>
 AsNat .u64 v65 fun n67 =>
 AsNat .u64 v66 fun n68 =>
 Ld H2 p 2 fun v69 =>
 Call1 Tryz.prog con 66 [(ptr v 0), (u64 ((Nat.mod (Nat.add n67 n68) 18446744073709551616))), v69] H2 fun v70 H71 =>
 Ld H71 p1 1 fun v72 =>
 Ld H71 p 1 fun v73 =>
 AsNat .u64 v72 fun n74 =>
 AsNat .u64 v73 fun n75 =>
 Ld H71 p 2 fun v76 =>
 Call1 Tryz.prog con 70 [(ptr m 0), (i64 t), (u64 ((Nat.mod (Nat.add n74 n75) 18446744073709551616))), v76] H71 fun v77 H78 =>
 K (.tuple ⟨[(.bool true), (.bool true)]⟩) H78) (
 K (.tuple ⟨[(.bool true), (.bool true)]⟩) H2)))))) := by kernel_rfl
theorem l14ran_W (con : CallT) (n : Int) (most : Nat) (v w : Value) (b : Bool) (H : CH) (K : KP) : funW Tryz.prog con 23 [.agg ⟨[i64 n, u64 most, v, w]⟩, .bool b] H K =
 (Nw H (mkRow 83 0 [(i64 n), (u64 (most)), v, w]) fun p1 H2 =>
 Nw H2 (mkRow 29 0 [(u64 (0)), (u64 (0)), (iN (0)), (u64 (0))]) fun p3 H4 =>
 Call1 Tryz.prog con 35 [(iN (400)), (.bool false)] H4 fun v5 H6 =>
 AsTup v5 fun l7 =>
 Nth l7 0 fun v8 =>
 AsTup v5 fun l9 =>
 Nth l9 1 fun v10 =>
 Call1 Tryz.prog con 69 [(iN (400)), (.bool false)] H6 fun v11 H12 =>
 AsTup v11 fun l13 =>
 Nth l13 0 fun v14 =>
 AsTup v11 fun l15 =>
 Nth l15 1 fun v16 =>
 IsNil .ptr v8 fun b17 =>
 Cd b17 (
 St H12 p3 0 [(u64 (0)), (u64 (0)), (iN (0)), (u64 (0))] fun H18 =>
 Ld H18 p3 0 fun v19 =>
 Ld H18 p3 1 fun v20 =>
 Ld H18 p3 2 fun v21 =>
 Ld H18 p3 3 fun v22 =>
 K (.tuple ⟨[(snil), (.pointer none), (.agg ⟨[v19, v20, v21, v22]⟩), (.bool false)]⟩) H18) (
 Call1 Tryz.prog con 17 [v8, (i64 (Int.negSucc 0))] H12 fun v23 H24 =>
 Call1 Tryz.prog con 66 [v23, (u64 (399)), (u64 (1))] H24 fun v25 H26 =>
 Call1 Tryz.prog con 70 [v14, (i64 (Int.negSucc 0)), (u64 (399)), (u64 (1))] H26 fun v27 H28 =>
 Nw H28 (mkRow 29 0 [(u64 (0)), (u64 (0)), (iN (0)), (u64 (0))]) fun p29 H30 =>
 Call1 Tryz.prog con 17 [v8, (i64 (Int.negSucc 0))] H30 fun v31 H32 =>
 Ld H32 p1 0 fun v33 =>
 Ld H32 p1 1 fun v34 =>
 Call1 Tryz.prog con 37 [v31, (u64 (399)), v33, v34] H32 fun v35 H36 =>
 AsTup v35 fun l37 =>
 Nth l37 0 fun v38 =>
 AsTup v35 fun l39 =>
 Nth l39 1 fun v40 =>
 AsAgg v38 fun l41 =>
 Must (eqN (lenF l41) 4) (
 Nth l41 0 fun v42 =>
 Nth l41 1 fun v43 =>
 Nth l41 2 fun v44 =>
 Nth l41 3 fun v45 =>
 St H36 p29 0 [v42, v43, v44, v45] fun H46 =>
 Ld H30 p1 1 fun v47 =>
 Same v34 v47 (
 Ld H32 p1 1 fun v48 =>
 Same v34 v48 (
 Ld H30 p1 0 fun v49 =>
 Same v33 v49 (
 Ld H32 p1 0 fun v50 =>
 Same v33 v50 (
 Ld H46 p1 0 fun v51 =>
 Ld H46 p1 1 fun v52 =>
 Call1 Tryz.prog con 71 [v14, (i64 (Int.negSucc 0)), (u64 (399)), v51, v52] H46 fun v53 H54 =>
 AsTup v53 fun l55 =>
 Nth l55 0 fun v56 =>
 AsTup v53 fun l57 =>
 Nth l57 1 fun v58 =>
 Nw H54 (mkRow 29 0 [(u64 (0)), (u64 (0)), (iN (0)), (u64 (0))]) fun p59 H60 =>
 AsAgg v56 fun l61 =>
 Must (eqN (lenF l61) 4) (
 Nth l61 0 fun v62 =>
 Nth l61 1 fun v63 =>
 Nth l61 2 fun v64 =>
 Nth l61 3 fun v65 =>
 St H60 p59 0 [v62, v63, v64, v65] fun H66 =>
 AsInt .i64 v40 fun z67 =>
 AsInt .i64 v58 fun z68 =>
 Cd (notB (eqZ z67 z68)) (
 Ld H66 p29 0 fun v69 =>
 Ld H66 p29 1 fun v70 =>
 Ld H66 p29 2 fun v71 =>
 Ld H66 p29 3 fun v72 =>
 St H66 p3 0 [v69, v70, v71, v72] fun H73 =>
 Ld H73 p3 0 fun v74 =>
 Ld H73 p3 1 fun v75 =>
 Ld H73 p3 2 fun v76 =>
 Ld H73 p3 3 fun v77 =>
 K (.tuple ⟨[(snil), (.pointer none), (.agg ⟨[v74, v75, v76, v77]⟩), (.bool false)]⟩) H73) (
 Ld H66 p29 0 fun v78 =>
 Ld H66 p29 1 fun v79 =>
 Ld H66 p29 2 fun v80 =>
 Ld H66 p29 3 fun v81 =>
 Ld H66 p59 0 fun v82 =>
 Ld H66 p59 1 fun v83 =>
 Ld H66 p59 2 fun v84 =>
 Ld H66 p59 3 fun v85 =>
 OpN Tryz.prog H66 (upd (upd (upd (upd (upd (upd (upd (upd (upd (upd (upd (upd (upd (upd (upd (upd (upd (upd (upd (upd (upd (upd (upd (upd (upd (upd (upd (upd (upd (upd (upd (upd (upd (upd (upd (upd (upd (upd (upd (upd (upd (upd (upd (upd (upd (upd (upd (upd (upd (upd (upd (upd (upd (upd (upd (upd (upd (upd (fun _ => undV) 1 (.bool b)) 0 (.agg ⟨[(i64 n), (u64 (most)), v, w]⟩)) 2 (ptr p1 0)) 4 (snil)) 5 (.pointer none)) 6 (ptr p3 0)) 7 (.bool false)) 25 v5) 24 v5) 26 v8) 27 v10) 8 v8) 9 v10) 29 v11) 28 v11) 30 v14) 31 v16) 10 v14) 11 v16) 32 v8) 33 (.bool b17)) 35 v8) 36 v23) 37 v25) 38 v14) 39 v27) 12 (ptr p29 0)) 41 v8) 42 v31) 43 (ptr p1 0)) 44 v33) 45 (ptr p1 1)) 46 v34) 47 v35) 40 v35) 48 v38) 49 v40) 13 v40) 51 v14) 52 (ptr p1 0)) 53 v51) 54 (ptr p1 1)) 55 v52) 56 v53) 50 v53) 57 v56) 58 v58) 14 (ptr p59 0)) 15 v58) 59 v40) 60 v58) 61 (.bool (notB (eqZ z67 z68)))) 62 (.bool (notB (eqZ z67 z68)))) 62 (.bool false)) 63 (.agg ⟨[v78, v79, v80, v81]⟩)) 62 (.bool false)) 64 (.agg ⟨[v82, v83, v84, v85]⟩)) 62 (.bool false)) (.binOp .neq 29 (.tmp 63) (.tmp 64) 29) fun v86 H87 =>
 AsBool v86 fun b88 =>
 Cd b88 (
 Ld H87 p29 0 fun v89 =>
 Ld H87 p29 1 fun v90 =>
 Ld H87 p29 2 fun v91 =>
 Ld H87 p29 3 fun v92 =>
 St H87 p3 0 [v89, v90, v91, v92] fun H93 =>
 Ld H93 p3 0 fun v94 =>
 Ld H93 p3 1 fun v95 =>
 Ld H93 p3 2 fun v96 =>
 Ld H93 p3 3 fun v97 =>
 K (.tuple ⟨[(snil), (.pointer none), (.agg ⟨[v94, v95, v96, v97]⟩), (.bool false)]⟩) H93) (
 AsInt .i64 v40 fun z98 =>
 Cd (notB (eqZ z98 (Int.ofNat 0))) (
 Ld H87 p29 0 fun v99 =>
 Ld H87 p29 1 fun v100 =>
 Ld H87 p29 2 fun v101 =>
 Ld H87 p29 3 fun v102 =>
 St H87 p3 0 [v99, v100, v101, v102] fun H103 =>
 Ld H103 p3 0 fun v104 =>
 Ld H103 p3 1 fun v105 =>
 Ld H103 p3 2 fun v106 =>
 Ld H103 p3 3 fun v107 =>
 K (.tuple ⟨[(snil), (.pointer none), (.agg ⟨[v104, v105, v106, v107]⟩), (.bool true)]⟩) H103) (
 Ld H87 p1 2 fun v108 =>
 AsLen v108 fun l109 =>
 MkS Tryz.prog H87 84 (iN (l109)) (iN (l109)) fun v110 H111 =>
 Ld H111 p1 2 fun v112 =>
 AsLen v112 fun l113 =>
 MkS Tryz.prog H111 24 (iN (l113)) (iN (l113)) fun v114 H115 =>
 LoopC Tryz.prog con (lpAt Tryz.prog 23 0) (upd (upd (upd (upd (upd (upd (upd (upd (upd (upd (upd (upd (upd (upd (upd (upd (upd (upd (upd (upd (upd (upd (upd (upd (upd (upd (upd (upd (upd (upd (upd (upd (upd (upd (upd (upd (upd (upd (upd (upd (upd (upd (upd (upd (upd (upd (upd (upd (upd (upd (upd (upd (upd (upd (upd (upd (upd (upd (upd (upd (upd (upd (upd (upd (upd (upd (upd (upd (upd (upd (upd (upd (upd (upd (fun _ => undV) 1 (.bool b)) 0 (.agg ⟨[(i64 n), (u64 (most)), v, w]⟩)) 2 (ptr p1 0)) 4 (snil)) 5 (.pointer none)) 6 (ptr p3 0)) 7 (.bool false)) 25 v5) 24 v5) 26 v8) 27 v10) 8 v8) 9 v10) 29 v11) 28 v11) 30 v14) 31 v16) 10 v14) 11 v16) 32 v8) 33 (.bool b17)) 35 v8) 36 v23) 37 v25) 38 v14) 39 v27) 12 (ptr p29 0)) 41 v8) 42 v31) 43 (ptr p1 0)) 44 v33) 45 (ptr p1 1)) 46 v34) 47 v35) 40 v35) 48 v38) 49 v40) 13 v40) 51 v14) 52 (ptr p1 0)) 53 v51) 54 (ptr p1 1)) 55 v52) 56 v53) 50 v53) 57 v56) 58 v58) 14 (ptr p59 0)) 15 v58) 59 v40) 60 v58) 61 (.bool (notB (eqZ z67 z68)))) 62 (.bool (notB (eqZ z67 z68)))) 62 (.bool false)) 63 (.agg ⟨[v78, v79, v80, v81]⟩)) 62 (.bool false)) 64 (.agg ⟨[v82, v83, v84, v85]⟩)) 62 (.bool false)) 65 v86) 66 v86) 68 v40) 69 (.bool (notB (eqZ z98 (Int.ofNat 0))))) 71 (ptr p1 2)) 72 v108) 73 (iN (l109))) 74 v110) 16 v110) 75 (ptr p1 2)) 76 v112) 77 (iN (l113))) 78 v114) 17 v114) 18 (snil)) 19 (iN (0))) H115 (fun e => ceP e
 (fun a116 H117 =>
 AsPtr (a116 12) fun p119 o120 =>
 Ld H117 p119 (Nat.add o120 0) fun v121 =>
 Ld H117 p119 (Nat.add o120 1) fun v122 =>
 Ld H117 p119 (Nat.add o120 2) fun v123 =>
 Ld H117 p119 (Nat.add o120 3) fun v124 =>
 Call1 Tryz.prog con 76 [(a116 8)] H117 fun v125 H126 =>
 NotNil Tryz.prog (a116 10) (
 AsPtr (a116 10) fun p127 o128 =>
 Ld H126 p127 (Nat.add o128 2) fun v129 =>
 Call1 Tryz.prog con 75 [v125, v129] H126 fun v130 H131 =>
 AsPtr (a116 6) fun p132 o133 =>
 St H131 p132 o133 [v121, v122, v123, v124] fun H134 =>
 Ld H117 p127 (Nat.add o128 2) fun v135 =>
 Same v129 v135 (
 Ld H126 p127 (Nat.add o128 2) fun v136 =>
 Same v129 v136 (
 AsPtr (a116 12) fun p137 o138 =>
 Ld H117 p137 (Nat.add o138 0) fun v139 =>
 Ld H117 p137 (Nat.add o138 1) fun v140 =>
 Ld H117 p137 (Nat.add o138 2) fun v141 =>
 Ld H117 p137 (Nat.add o138 3) fun v142 =>
 Same (.agg ⟨[v121, v122, v123, v124]⟩) (.agg ⟨[v139, v140, v141, v142]⟩) (
 AsPtr (a116 12) fun p143 o144 =>
 Ld H126 p143 (Nat.add o144 0) fun v145 =>
 Ld H126 p143 (Nat.add o144 1) fun v146 =>
 Ld H126 p143 (Nat.add o144 2) fun v147 =>
 Ld H126 p143 (Nat.add o144 3) fun v148 =>
 Same (.agg ⟨[v121, v122, v123, v124]⟩) (.agg ⟨[v145, v146, v147, v148]⟩) (
 AsPtr (a116 12) fun p149 o150 =>
 Ld H131 p149 (Nat.add o150 0) fun v151 =>
 Ld H131 p149 (Nat.add o150 1) fun v152 =>
 Ld H131 p149 (Nat.add o150 2) fun v153 =>
 Ld H131 p149 (Nat.add o150 3) fun v154 =>
 Same (.agg ⟨[v121, v122, v123, v124]⟩) (.agg ⟨[v151, v152, v153, v154]⟩) (
 AsPtr (a116 6) fun p155 o156 =>
 Ld H134 p155 (Nat.add o156 0) fun v157 =>
 Ld H134 p155 (Nat.add o156 1) fun v158 =>
 Ld H134 p155 (Nat.add o156 2) fun v159 =>
 Ld H134 p155 (Nat.add o156 3) fun v160 =>
 K (.tuple ⟨[(a116 18), (a116 8), (.agg ⟨[v157, v158, v159, v160]⟩), v130]⟩) H134)))))))
 (fun i118 => fun a116 H117 =>
 Cd (eqN i118 0) (
 AsPtr (a116 12) fun p161 o162 =>
 Ld H117 p161 (Nat.add o162 0) fun v163 =>
 Ld H117 p161 (Nat.add o162 1) fun v164 =>
 Ld H117 p161 (Nat.add o162 2) fun v165 =>
 Ld H117 p161 (Nat.add o162 3) fun v166 =>
 Call1 Tryz.prog con 76 [(a116 8)] H117 fun v167 H168 =>
 NotNil Tryz.prog (a116 10) (
 AsPtr (a116 10) fun p169 o170 =>
 Ld H168 p169 (Nat.add o170 2) fun v171 =>
 Call1 Tryz.prog con 75 [v167, v171] H168 fun v172 H173 =>
 AsPtr (a116 6) fun p174 o175 =>
 St H173 p174 o175 [v163, v164, v165, v166] fun H176 =>
 Ld H117 p169 (Nat.add o170 2) fun v177 =>
 Same v171 v177 (
 Ld H168 p169 (Nat.add o170 2) fun v178 =>
 Same v171 v178 (
 AsPtr (a116 12) fun p179 o180 =>
 Ld H117 p179 (Nat.add o180 0) fun v181 =>
 Ld H117 p179 (Nat.add o180 1) fun v182 =>
 Ld H117 p179 (Nat.add o180 2) fun v183 =>
 Ld H117 p179 (Nat.add o180 3) fun v184 =>
 Same (.agg ⟨[v163, v164, v165, v166]⟩) (.agg ⟨[v181, v182, v183, v184]⟩) (
 AsPtr (a116 12) fun p185 o186 =>
 Ld H168 p185 (Nat.add o186 0) fun v187 =>
 Ld H168 p185 (Nat.add o186 1) fun v188 =>
 Ld H168 p185 (Nat.add o186 2) fun v189 =>
 Ld H168 p185 (Nat.add o186 3) fun v190 =>
 Same (.agg ⟨[v163, v164, v165, v166]⟩) (.agg ⟨[v187, v188, v189, v190]⟩) (
 AsPtr (a116 12) fun p191 o192 =>
 Ld H173 p191 (Nat.add o192 0) fun v193 =>
 Ld H173 p191 (Nat.add o192 1) fun v194 =>
 Ld H173 p191 (Nat.add o192 2) fun v195 =>
 Ld H173 p191 (Nat.add o192 3) fun v196 =>
 Same (.agg ⟨[v163, v164, v165, v166]⟩) (.agg ⟨[v193, v194, v195, v196]⟩) (
 AsPtr (a116 6) fun p197 o198 =>
 Ld H176 p197 (Nat.add o198 0) fun v199 =>
 Ld H176 p197 (Nat.add o198 1) fun v200 =>
 Ld H176 p197 (Nat.add o198 2) fun v201 =>
 Ld H176 p197 (Nat.add o198 3) fun v202 =>
 K (.tuple ⟨[(a116 18), (a116 8), (.agg ⟨[v199, v200, v201, v202]⟩), v172]⟩) H176))))))) (
 False))
 (fun a116 H117 =>
 AsPtr (a116 6) fun p203 o204 =>
 Ld H117 p203 (Nat.add o204 0) fun v205 =>
 Ld H117 p203 (Nat.add o204 1) fun v206 =>
 Ld H117 p203 (Nat.add o204 2) fun v207 =>
 Ld H117 p203 (Nat.add o204 3) fun v208 =>
 K (.tuple ⟨[(a116 4), (a116 5), (.agg ⟨[v205, v206, v207, v208]⟩), (a116 7)]⟩) H117))))))))))))) := by kernel_rfl
theorem hHolds_W (con : CallT) (n : Int) (most : Nat) (v w : Value) (H : CH) (K : KP) : funW Tryz.prog con 8 [.agg ⟨[i64 n, u64 most, v, w]⟩] H K =
 (Nw H (mkRow 83 0 [(i64 n), (u64 (most)), v, w]) fun p1 H2 =>
 Call1 Tryz.prog con 22 [] H2 fun v3 H4 =>
 AsBool v3 fun b5 =>
 Cd (notB b5) (
 K (.bool false) H4) (
 Ld H4 p1 0 fun v6 =>
 Ld H4 p1 1 fun v7 =>
 Ld H4 p1 2 fun v8 =>
 Ld H4 p1 3 fun v9 =>
 Call1 Tryz.prog con 23 [(.agg ⟨[v6, v7, v8, v9]⟩), (.bool false)] H4 fun v10 H11 =>
 AsTup v10 fun l12 =>
 Nth l12 0 fun v13 =>
 AsTup v10 fun l14 =>
 Nth l14 1 fun v15 =>
 AsTup v10 fun l16 =>
 Nth l16 2 fun v17 =>
 AsTup v10 fun l18 =>
 Nth l18 3 fun v19 =>
 Nw H11 (mkRow 29 0 [(u64 (0)), (u64 (0)), (iN (0)), (u64 (0))]) fun p20 H21 =>
 AsAgg v17 fun l22 =>
 Must (eqN (lenF l22) 4) (
 Nth l22 0 fun v23 =>
 Nth l22 1 fun v24 =>
 Nth l22 2 fun v25 =>
 Nth l22 3 fun v26 =>
 St H21 p20 0 [v23, v24, v25, v26] fun H27 =>
 AsBool v19 fun b28 =>
 Cd (notB b28) (
 K (.bool false) H27) (
 LoopC Tryz.prog con (lpAt Tryz.prog 8 0) (upd (upd (upd (upd (upd (upd (upd (upd (upd (upd (upd (upd (upd (upd (upd (upd (upd (upd (upd (fun _ => undV) 0 (.agg ⟨[(i64 n), (u64 (most)), v, w]⟩)) 1 (ptr p1 0)) 2 (.bool false)) 17 v3) 18 (.bool (notB b5))) 20 (.agg ⟨[v6, v7, v8, v9]⟩)) 21 v10) 19 v10) 22 v13) 23 v15) 24 v17) 25 v19) 5 (ptr p20 0)) 3 v13) 4 v15) 6 v19) 26 v19) 27 (.bool (notB b28))) 7 (iN (0))) H27 (fun e => ceP e
 (fun a29 H30 =>
 K (.bool true) H30)
 (fun i31 => fun a29 H30 =>
 Cd (eqN i31 0) (
 K (.bool true) H30) (
 False))
 (fun a29 H30 =>
 K (a29 2) H30)))))) := by kernel_rfl
theorem sameU_W (con : CallT) (v w : Value) (H : CH) (K : KP) : funW Tryz.prog con 28 [v, w] H K =
 (AsLen v fun l1 =>
 AsLen w fun l2 =>
 Cd (notB (eqZ (Int.ofNat l1) (Int.ofNat l2))) (
 K (.bool false) H) (
 LoopC Tryz.prog con (lpAt Tryz.prog 28 0) (upd (upd (upd (upd (upd (upd (upd (upd (upd (fun _ => undV) 1 w) 0 v) 4 (.bool false)) 6 v) 7 (iN (l1))) 8 w) 9 (iN (l2))) 10 (.bool (notB (eqZ (Int.ofNat l1) (Int.ofNat l2))))) 5 (iN (0))) H (fun e => ceP e
 (fun a3 H4 =>
 K (.bool true) H4)
 (fun i5 => fun a3 H4 =>
 Cd (eqN i5 0) (
 K (.bool true) H4) (
 False))
 (fun a3 H4 =>
 K (a3 4) H4)))) := by kernel_rfl
theorem sameUL_W (con : CallT) (a : TF) (H : CH) (K : KX) : codeW (lpAt Tryz.prog 28 0) Tryz.prog con a H K =
 (AsLen (a 0) fun l1 =>
 AsInt .i64 (a 5) fun z2 =>
 Cd (ltZ z2 (Int.ofNat l1)) (
 AsSlc (a 0) fun p3 o4 l5 c6 =>
 AsCnt (a 5) fun n7 =>
 Must (ltN n7 l5) (
 Ld H p3 (Nat.add o4 (Nat.mul n7 1)) fun v8 =>
 AsSlc (a 1) fun p9 o10 l11 c12 =>
 AsCnt (a 5) fun n13 =>
 Must (ltN n13 l11) (
 Ld H p9 (Nat.add o10 (Nat.mul n13 1)) fun v14 =>
 AsNat .u64 v8 fun n15 =>
 AsNat .u64 v14 fun n16 =>
 Cd (notB (eqN n15 n16)) (
 K .ret (upd (upd (upd (upd (upd (upd (upd (upd (upd (upd (upd (upd (upd (upd a 11 (a 5)) 12 (a 0)) 13 (iN (l1))) 14 (.bool (ltZ z2 (Int.ofNat l1)))) 17 (a 0)) 18 (a 5)) 19 (ptr p3 (Nat.add o4 (Nat.mul n7 1)))) 20 v8) 21 (a 1)) 22 (a 5)) 23 (ptr p9 (Nat.add o10 (Nat.mul n13 1)))) 24 v14) 25 (.bool (notB (eqN n15 n16)))) 4 (.bool false)) H) (
 AsInt .i64 (a 5) fun z17 =>
 InR (Int.add z17 (Int.ofNat 1)) (
 K .normal (upd (upd (upd (upd (upd (upd (upd (upd (upd (upd (upd (upd (upd (upd (upd (upd a 11 (a 5)) 12 (a 0)) 13 (iN (l1))) 14 (.bool (ltZ z2 (Int.ofNat l1)))) 17 (a 0)) 18 (a 5)) 19 (ptr p3 (Nat.add o4 (Nat.mul n7 1)))) 20 v8) 21 (a 1)) 22 (a 5)) 23 (ptr p9 (Nat.add o10 (Nat.mul n13 1)))) 24 v14) 25 (.bool (notB (eqN n15 n16)))) 15 (a 5)) 16 (i64 (Int.add z17 (Int.ofNat 1)))) 5 (i64 (Int.add z17 (Int.ofNat 1)))) H))))) (
 K (.exit 0) (upd (upd (upd (upd a 11 (a 5)) 12 (a 0)) 13 (iN (l1))) 14 (.bool (ltZ z2 (Int.ofNat l1)))) H)) := by kernel_rfl
theorem sameAcs_W (con : CallT) (v w : Value) (H : CH) (K : KP) : funW Tryz.prog con 75 [v, w] H K =
 (AsLen v fun l1 =>
 AsLen w fun l2 =>
 Cd (notB (eqZ (Int.ofNat l1) (Int.ofNat l2))) (
 K (.bool false) H) (
 LoopC Tryz.prog con (lpAt Tryz.prog 75 0) (upd (upd (upd (upd (upd (upd (upd (upd (upd (fun _ => undV) 1 w) 0 v) 4 (.bool false)) 6 v) 7 (iN (l1))) 8 w) 9 (iN (l2))) 10 (.bool (notB (eqZ (Int.ofNat l1) (Int.ofNat l2))))) 5 (iN (0))) H (fun e => ceP e
 (fun a3 H4 =>
 K (.bool true) H4)
 (fun i5 => fun a3 H4 =>
 Cd (eqN i5 0) (
 K (.bool true) H4) (
 False))
 (fun a3 H4 =>
 K (a3 4) H4)))) := by kernel_rfl
theorem sameAcsL_W (con : CallT) (a : TF) (H : CH) (K : KX) : codeW (lpAt Tryz.prog 75 0) Tryz.prog con a H K =
 (AsLen (a 0) fun l1 =>
 AsInt .i64 (a 5) fun z2 =>
 Bnd (upd (upd (upd (upd a 11 (a 5)) 12 (a 0)) 13 (iN (l1))) 14 (.bool (ltZ z2 (Int.ofNat l1)))) fun s1 =>
Cd (ltZ z2 (Int.ofNat l1)) (
 AsSlc (a 0) fun p3 o4 l5 c6 =>
 AsCnt (a 5) fun n7 =>
 Must (ltN n7 l5) (
 Ld H p3 (Nat.add (Nat.add o4 (Nat.mul n7 8)) 0) fun v8 =>
 AsSlc (a 1) fun p9 o10 l11 c12 =>
 AsCnt (a 5) fun n13 =>
 Must (ltN n13 l11) (
 Ld H p9 (Nat.add (Nat.add o10 (Nat.mul n13 8)) 0) fun v14 =>
 AsInt .i64 v8 fun z15 =>
 AsInt .i64 v14 fun z16 =>
 Bnd (upd (upd (upd (upd (upd (upd (upd (upd (upd (upd (upd (upd s1 17 (a 0)) 18 (a 5)) 19 (ptr p3 (Nat.add o4 (Nat.mul n7 8)))) 20 (ptr p3 (Nat.add (Nat.add o4 (Nat.mul n7 8)) 0))) 21 v8) 22 (a 1)) 23 (a 5)) 24 (ptr p9 (Nat.add o10 (Nat.mul n13 8)))) 25 (ptr p9 (Nat.add (Nat.add o10 (Nat.mul n13 8)) 0))) 26 v14) 27 (.bool (notB (eqZ z15 z16)))) 28 (.bool (notB (eqZ z15 z16)))) fun s2 =>
Cd (notB (eqZ z15 z16)) (
 K .ret (upd (upd (Rz true 106 (upd (upd (Rz true 93 (upd (upd (Rz true 80 (upd (upd (Rz true 67 (upd (upd (Rz true 54 (upd (upd (Rz true 41 (upd (upd (Rz true 28 s2 29 11) 40 (.bool true)) 41 (.bool true)) 42 11) 53 (.bool true)) 54 (.bool true)) 55 11) 66 (.bool true)) 67 (.bool true)) 68 11) 79 (.bool true)) 80 (.bool true)) 81 11) 92 (.bool true)) 93 (.bool true)) 94 11) 105 (.bool true)) 106 (.bool true)) 107 12) 119 (.bool true)) 4 (.bool false)) H) (
 AsSlc (a 0) fun p17 o18 l19 c20 =>
 AsCnt (a 5) fun n21 =>
 Must (ltN n21 l19) (
 Ld H p17 (Nat.add (Nat.add o18 (Nat.mul n21 8)) 1) fun v22 =>
 AsSlc (a 1) fun p23 o24 l25 c26 =>
 AsCnt (a 5) fun n27 =>
 Must (ltN n27 l25) (
 Ld H p23 (Nat.add (Nat.add o24 (Nat.mul n27 8)) 1) fun v28 =>
 AsNat .u8 v22 fun n29 =>
 AsNat .u8 v28 fun n30 =>
 Bnd (upd (upd (upd (upd (upd (upd (upd (upd (upd (upd (upd (upd (upd (upd (upd (upd (upd (upd (upd (upd (upd (upd (upd (upd s2 28 (.bool false)) 29 (a 0)) 28 (.bool false)) 30 (a 5)) 28 (.bool false)) 31 (ptr p17 (Nat.add o18 (Nat.mul n21 8)))) 28 (.bool false)) 32 (ptr p17 (Nat.add (Nat.add o18 (Nat.mul n21 8)) 1))) 28 (.bool false)) 33 v22) 28 (.bool false)) 34 (a 1)) 28 (.bool false)) 35 (a 5)) 28 (.bool false)) 36 (ptr p23 (Nat.add o24 (Nat.mul n27 8)))) 28 (.bool false)) 37 (ptr p23 (Nat.add (Nat.add o24 (Nat.mul n27 8)) 1))) 28 (.bool false)) 38 v28) 28 (.bool false)) 39 (.bool (notB (eqN n29 n30)))) 40 (.bool (notB (eqN n29 n30)))) 41 (.bool (notB (eqN n29 n30)))) fun s3 =>
Cd (notB (eqN n29 n30)) (
 K .ret (upd (upd (Rz true 106 (upd (upd (Rz true 93 (upd (upd (Rz true 80 (upd (upd (Rz true 67 (upd (upd (Rz true 54 (upd (upd (Rz true 41 s3 42 11) 53 (.bool true)) 54 (.bool true)) 55 11) 66 (.bool true)) 67 (.bool true)) 68 11) 79 (.bool true)) 80 (.bool true)) 81 11) 92 (.bool true)) 93 (.bool true)) 94 11) 105 (.bool true)) 106 (.bool true)) 107 12) 119 (.bool true)) 4 (.bool false)) H) (
 AsSlc (a 0) fun p31 o32 l33 c34 =>
 AsCnt (a 5) fun n35 =>
 Must (ltN n35 l33) (
 Ld H p31 (Nat.add (Nat.add o32 (Nat.mul n35 8)) 2) fun v36 =>
 AsSlc (a 1) fun p37 o38 l39 c40 =>
 AsCnt (a 5) fun n41 =>
 Must (ltN n41 l39) (
 Ld H p37 (Nat.add (Nat.add o38 (Nat.mul n41 8)) 2) fun v42 =>
 AsNat .u64 v36 fun n43 =>
 AsNat .u64 v42 fun n44 =>
 Bnd (upd (upd (upd (upd (upd (upd (upd (upd (upd (upd (upd (upd (upd (upd (upd (upd (upd (upd (upd (upd (upd (upd (upd (upd s3 41 (.bool false)) 42 (a 0)) 41 (.bool false)) 43 (a 5)) 41 (.bool false)) 44 (ptr p31 (Nat.add o32 (Nat.mul n35 8)))) 41 (.bool false)) 45 (ptr p31 (Nat.add (Nat.add o32 (Nat.mul n35 8)) 2))) 41 (.bool false)) 46 v36) 41 (.bool false)) 47 (a 1)) 41 (.bool false)) 48 (a 5)) 41 (.bool false)) 49 (ptr p37 (Nat.add o38 (Nat.mul n41 8)))) 41 (.bool false)) 50 (ptr p37 (Nat.add (Nat.add o38 (Nat.mul n41 8)) 2))) 41 (.bool false)) 51 v42) 41 (.bool false)) 52 (.bool (notB (eqN n43 n44)))) 53 (.bool (notB (eqN n43 n44)))) 54 (.bool (notB (eqN n43 n44)))) fun s4 =>
Cd (notB (eqN n43 n44)) (
 K .ret (upd (upd (Rz true 106 (upd (upd (Rz true 93 (upd (upd (Rz true 80 (upd (upd (Rz true 67 (upd (upd (Rz true 54 s4 55 11) 66 (.bool true)) 67 (.bool true)) 68 11) 79 (.bool true)) 80 (.bool true)) 81 11) 92 (.bool true)) 93 (.bool true)) 94 11) 105 (.bool true)) 106 (.bool true)) 107 12) 119 (.bool true)) 4 (.bool false)) H) (
 AsSlc (a 0) fun p45 o46 l47 c48 =>
 AsCnt (a 5) fun n49 =>
 Must (ltN n49 l47) (
 Ld H p45 (Nat.add (Nat.add o46 (Nat.mul n49 8)) 3) fun v50 =>
 AsSlc (a 1) fun p51 o52 l53 c54 =>
 AsCnt (a 5) fun n55 =>
 Must (ltN n55 l53) (
 Ld H p51 (Nat.add (Nat.add o52 (Nat.mul n55 8)) 3) fun v56 =>
 AsNat .u64 v50 fun n57 =>
 AsNat .u64 v56 fun n58 =>
 Bnd (upd (upd (upd (upd (upd (upd (upd (upd (upd (upd (upd (upd (upd (upd (upd (upd (upd (upd (upd (upd (upd (upd (upd (upd s4 54 (.bool false)) 55 (a 0)) 54 (.bool false)) 56 (a 5)) 54 (.bool false)) 57 (ptr p45 (Nat.add o46 (Nat.mul n49 8)))) 54 (.bool false)) 58 (ptr p45 (Nat.add (Nat.add o46 (Nat.mul n49 8)) 3))) 54 (.bool false)) 59 v50) 54 (.bool false)) 60 (a 1)) 54 (.bool false)) 61 (a 5)) 54 (.bool false)) 62 (ptr p51 (Nat.add o52 (Nat.mul n55 8)))) 54 (.bool false)) 63 (ptr p51 (Nat.add (Nat.add o52 (Nat.mul n55 8)) 3))) 54 (.bool false)) 64 v56) 54 (.bool false)) 65 (.bool (notB (eqN n57 n58)))) 66 (.bool (notB (eqN n57 n58)))) 67 (.bool (notB (eqN n57 n58)))) fun s5 =>
Cd (notB (eqN n57 n58)) (
 K .ret (upd (upd (Rz true 106 (upd (upd (Rz true 93 (upd (upd (Rz true 80 (upd (upd (Rz true 67 s5 68 11) 79 (.bool true)) 80 (.bool true)) 81 11) 92 (.bool true)) 93 (.bool true)) 94 11) 105 (.bool true)) 106 (.bool true)) 107 12) 119 (.bool true)) 4 (.bool false)) H) (
 AsSlc (a 0) fun p59 o60 l61 c62 =>
 AsCnt (a 5) fun n63 =>
 Must (ltN n63 l61) (
 Ld H p59 (Nat.add (Nat.add o60 (Nat.mul n63 8)) 4) fun v64 =>
 AsSlc (a 1) fun p65 o66 l67 c68 =>
 AsCnt (a 5) fun n69 =>
 Must (ltN n69 l67) (
 Ld H p65 (Nat.add (Nat.add o66 (Nat.mul n69 8)) 4) fun v70 =>
 AsNat .u64 v64 fun n71 =>
 AsNat .u64 v70 fun n72 =>
 Bnd (upd (upd (upd (upd (upd (upd (upd (upd (upd (upd (upd (upd (upd (upd (upd (upd (upd (upd (upd (upd (upd (upd (upd (upd s5 67 (.bool false)) 68 (a 0)) 67 (.bool false)) 69 (a 5)) 67 (.bool false)) 70 (ptr p59 (Nat.add o60 (Nat.mul n63 8)))) 67 (.bool false)) 71 (ptr p59 (Nat.add (Nat.add o60 (Nat.mul n63 8)) 4))) 67 (.bool false)) 72 v64) 67 (.bool false)) 73 (a 1)) 67 (.bool false)) 74 (a 5)) 67 (.bool false)) 75 (ptr p65 (Nat.add o66 (Nat.mul n69 8)))) 67 (.bool false)) 76 (ptr p65 (Nat.add (Nat.add o66 (Nat.mul n69 8)) 4))) 67 (.bool false)) 77 v70) 67 (.bool false)) 78 (.bool (notB (eqN n71 n72)))) 79 (.bool (notB (eqN n71 n72)))) 80 (.bool (notB (eqN n71 n72)))) fun s6 =>
Cd (notB (eqN n71 n72)) (
 K .ret (upd (upd (Rz true 106 (upd (upd (Rz true 93 (upd (upd (Rz true 80 s6 81 11) 92 (.bool true)) 93 (.bool true)) 94 11) 105 (.bool true)) 106 (.bool true)) 107 12) 119 (.bool true)) 4 (.bool false)) H) (
 AsSlc (a 0) fun p73 o74 l75 c76 =>
 AsCnt (a 5) fun n77 =>
 Must (ltN n77 l75) (
 Ld H p73 (Nat.add (Nat.add o74 (Nat.mul n77 8)) 6) fun v78 =>
 AsSlc (a 1) fun p79 o80 l81 c82 =>
 AsCnt (a 5) fun n83 =>
 Must (ltN n83 l81) (
 Ld H p79 (Nat.add (Nat.add o80 (Nat.mul n83 8)) 6) fun v84 =>
 AsNat .u64 v78 fun n85 =>
 AsNat .u64 v84 fun n86 =>
 Bnd (upd (upd (upd (upd (upd (upd (upd (upd (upd (upd (upd (upd (upd (upd (upd (upd (upd (upd (upd (upd (upd (upd (upd (upd s6 80 (.bool false)) 81 (a 0)) 80 (.bool false)) 82 (a 5)) 80 (.bool false)) 83 (ptr p73 (Nat.add o74 (Nat.mul n77 8)))) 80 (.bool false)) 84 (ptr p73 (Nat.add (Nat.add o74 (Nat.mul n77 8)) 6))) 80 (.bool false)) 85 v78) 80 (.bool false)) 86 (a 1)) 80 (.bool false)) 87 (a 5)) 80 (.bool false)) 88 (ptr p79 (Nat.add o80 (Nat.mul n83 8)))) 80 (.bool false)) 89 (ptr p79 (Nat.add (Nat.add o80 (Nat.mul n83 8)) 6))) 80 (.bool false)) 90 v84) 80 (.bool false)) 91 (.bool (notB (eqN n85 n86)))) 92 (.bool (notB (eqN n85 n86)))) 93 (.bool (notB (eqN n85 n86)))) fun s7 =>
Cd (notB (eqN n85 n86)) (
 K .ret (upd (upd (Rz true 106 (upd (upd (Rz true 93 s7 94 11) 105 (.bool true)) 106 (.bool true)) 107 12) 119 (.bool true)) 4 (.bool false)) H) (
 AsSlc (a 0) fun p87 o88 l89 c90 =>
 AsCnt (a 5) fun n91 =>
 Must (ltN n91 l89) (
 Ld H p87 (Nat.add (Nat.add o88 (Nat.mul n91 8)) 7) fun v92 =>
 AsSlc (a 1) fun p93 o94 l95 c96 =>
 AsCnt (a 5) fun n97 =>
 Must (ltN n97 l95) (
 Ld H p93 (Nat.add (Nat.add o94 (Nat.mul n97 8)) 7) fun v98 =>
 AsBool v92 fun b99 =>
 AsBool v98 fun b100 =>
 Bnd (upd (upd (upd (upd (upd (upd (upd (upd (upd (upd (upd (upd (upd (upd (upd (upd (upd (upd (upd (upd (upd (upd (upd (upd s7 93 (.bool false)) 94 (a 0)) 93 (.bool false)) 95 (a 5)) 93 (.bool false)) 96 (ptr p87 (Nat.add o88 (Nat.mul n91 8)))) 93 (.bool false)) 97 (ptr p87 (Nat.add (Nat.add o88 (Nat.mul n91 8)) 7))) 93 (.bool false)) 98 v92) 93 (.bool false)) 99 (a 1)) 93 (.bool false)) 100 (a 5)) 93 (.bool false)) 101 (ptr p93 (Nat.add o94 (Nat.mul n97 8)))) 93 (.bool false)) 102 (ptr p93 (Nat.add (Nat.add o94 (Nat.mul n97 8)) 7))) 93 (.bool false)) 103 v98) 93 (.bool false)) 104 (.bool (notB (eqB b99 b100)))) 105 (.bool (notB (eqB b99 b100)))) 106 (.bool (notB (eqB b99 b100)))) fun s8 =>
Cd (notB (eqB b99 b100)) (
 K .ret (upd (upd (Rz true 106 s8 107 12) 119 (.bool true)) 4 (.bool false)) H) (
 AsSlc (a 0) fun p101 o102 l103 c104 =>
 AsCnt (a 5) fun n105 =>
 Must (ltN n105 l103) (
 Ld H p101 (Nat.add (Nat.add o102 (Nat.mul n105 8)) 5) fun v106 =>
 AsSlc (a 1) fun p107 o108 l109 c110 =>
 AsCnt (a 5) fun n111 =>
 Must (ltN n111 l109) (
 Ld H p107 (Nat.add (Nat.add o108 (Nat.mul n111 8)) 5) fun v112 =>
 Call1 Tryz.prog con 28 [v106, v112] H fun v113 H114 =>
 AsBool v113 fun b115 =>
 Bnd (upd (upd (upd (upd (upd (upd (upd (upd (upd (upd (upd (upd (upd (upd (upd (upd (upd (upd (upd (upd (upd (upd (upd (upd (upd s8 106 (.bool false)) 107 (a 0)) 106 (.bool false)) 108 (a 5)) 106 (.bool false)) 109 (ptr p101 (Nat.add o102 (Nat.mul n105 8)))) 106 (.bool false)) 110 (ptr p101 (Nat.add (Nat.add o102 (Nat.mul n105 8)) 5))) 106 (.bool false)) 111 v106) 106 (.bool false)) 112 (a 1)) 106 (.bool false)) 113 (a 5)) 106 (.bool false)) 114 (ptr p107 (Nat.add o108 (Nat.mul n111 8)))) 106 (.bool false)) 115 (ptr p107 (Nat.add (Nat.add o108 (Nat.mul n111 8)) 5))) 106 (.bool false)) 116 v112) 106 (.bool false)) 117 v113) 106 (.bool false)) 118 (.bool (notB b115))) 119 (.bool (notB b115))) fun s9 =>
Cd (notB b115) (
 K .ret (upd s9 4 (.bool false)) H114) (
 AsInt .i64 (a 5) fun z116 =>
 InR (Int.add z116 (Int.ofNat 1)) (
 K .normal (upd (upd (upd s9 15 (a 5)) 16 (i64 (Int.add z116 (Int.ofNat 1)))) 5 (i64 (Int.add z116 (Int.ofNat 1)))) H114)))))))))))))))))))))))))) (
 K (.exit 0) s1 H)) := by kernel_rfl
theorem l14ranA_W (con : CallT) (a : TF) (H : CH) (K : KX) : codeW (takeC 2 (blkC (lpAt Tryz.prog 23 0))) Tryz.prog con a H K =
 (AsPtr (a 2) fun p1 o2 =>
 Ld H p1 (Nat.add o2 3) fun v3 =>
 AsLen v3 fun l4 =>
 AsInt .i64 (a 19) fun z5 =>
 Cd (ltZ z5 (Int.ofNat l4)) (
 K .normal (upd (upd (upd (upd (upd a 79 (a 19)) 80 (ptr p1 (Nat.add o2 3))) 81 v3) 82 (iN (l4))) 83 (.bool (ltZ z5 (Int.ofNat l4)))) H) (
 K (.exit 0) (upd (upd (upd (upd (upd a 79 (a 19)) 80 (ptr p1 (Nat.add o2 3))) 81 v3) 82 (iN (l4))) 83 (.bool (ltZ z5 (Int.ofNat l4)))) H)) := by kernel_rfl
theorem l14ranZ_W (con : CallT) (a : TF) (H : CH) (K : KX) : codeW (dropC 3 (blkC (lpAt Tryz.prog 23 0))) Tryz.prog con a H K =
 (AsInt .i64 (a 19) fun z1 =>
 InR (Int.add z1 (Int.ofNat 1)) (
 K .normal (upd (upd (upd a 84 (a 19)) 85 (i64 (Int.add z1 (Int.ofNat 1)))) 19 (i64 (Int.add z1 (Int.ofNat 1)))) H)) := by kernel_rfl
theorem l14ranB0_W (con : CallT) (a : TF) (H : CH) (K : KX) : codeW (takeC 1 (blkC ((flatC (blkC (lpAt Tryz.prog 23 0))).getD 2 .skip))) Tryz.prog con a H K =
 (AsPtr (a 2) fun p1 o2 =>
 Ld H p1 (Nat.add o2 3) fun v3 =>
 AsSlc v3 fun p4 o5 l6 c7 =>
 AsCnt (a 19) fun n8 =>
 Must (ltN n8 l6) (
 Ld H p4 (Nat.add o5 (Nat.mul n8 1)) fun v9 =>
 K .normal (upd (upd (upd (upd (upd (upd a 86 (ptr p1 (Nat.add o2 3))) 87 v3) 88 (a 19)) 89 (ptr p4 (Nat.add o5 (Nat.mul n8 1)))) 90 v9) 20 v9) H)) := by kernel_rfl
theorem l14ranB1_W (con : CallT) (a : TF) (H : CH) (K : KX) : codeW (sliceC 1 1 (blkC ((flatC (blkC (lpAt Tryz.prog 23 0))).getD 2 .skip))) Tryz.prog con a H K =
 (AsInt .i64 (a 20) fun z1 =>
 Bnd (upd (upd (upd a 91 (a 20)) 92 (.bool (ltZ z1 (Int.ofNat 0)))) 93 (.bool (ltZ z1 (Int.ofNat 0)))) fun s1 =>
Cd (ltZ z1 (Int.ofNat 0)) (
 K .normal (upd (upd (upd (upd (upd (upd (upd (upd (upd (upd (upd (upd (upd (upd (upd (upd (upd (upd (upd (upd (upd (upd (upd (upd (upd (Rz true 100 (upd (upd (Rz true 93 s1 94 5) 99 (.bool true)) 100 (.bool true)) 101 6) 106 unit) 107 unit) 106 unit) 108 unit) 106 unit) 109 unit) 106 unit) 110 unit) 106 unit) 111 unit) 106 unit) 112 unit) 106 unit) 113 unit) 106 unit) 114 unit) 106 unit) 115 unit) 106 unit) 116 unit) 106 unit) 117 unit) 100 (.bool true)) 118 unit) 119 (.bool true)) H) (
 AsPtr (a 2) fun p2 o3 =>
 Ld H p2 (Nat.add o3 2) fun v4 =>
 AsLen v4 fun l5 =>
 AsInt .i64 (a 20) fun z6 =>
 Bnd (upd (upd (upd (upd (upd (upd (upd (upd (upd (upd (upd (upd s1 93 (.bool false)) 94 (a 20)) 93 (.bool false)) 95 (ptr p2 (Nat.add o3 2))) 93 (.bool false)) 96 v4) 93 (.bool false)) 97 (iN (l5))) 93 (.bool false)) 98 (.bool (leZ (Int.ofNat l5) z6))) 99 (.bool (leZ (Int.ofNat l5) z6))) 100 (.bool (leZ (Int.ofNat l5) z6))) fun s2 =>
Cd (leZ (Int.ofNat l5) z6) (
 K .normal (upd (upd (upd (upd (upd (upd (upd (upd (upd (upd (upd (upd (upd (upd (upd (upd (upd (upd (upd (upd (upd (upd (upd (upd (upd (Rz true 100 s2 101 6) 106 unit) 107 unit) 106 unit) 108 unit) 106 unit) 109 unit) 106 unit) 110 unit) 106 unit) 111 unit) 106 unit) 112 unit) 106 unit) 113 unit) 106 unit) 114 unit) 106 unit) 115 unit) 106 unit) 116 unit) 106 unit) 117 unit) 100 (.bool true)) 118 unit) 119 (.bool true)) H) (
 AsSlc (a 16) fun p7 o8 l9 c10 =>
 AsCnt (a 20) fun n11 =>
 Must (ltN n11 l9) (
 Ld H p7 (Nat.add o8 (Nat.mul n11 1)) fun v12 =>
 IsNil .ptr v12 fun b13 =>
 Bnd (upd (upd (upd (upd (upd (upd (upd (upd (upd (upd (upd (upd s2 100 (.bool false)) 101 (a 16)) 100 (.bool false)) 102 (a 20)) 100 (.bool false)) 103 (ptr p7 (Nat.add o8 (Nat.mul n11 1)))) 100 (.bool false)) 104 v12) 100 (.bool false)) 105 (.bool b13)) 100 (.bool false)) 106 (.bool b13)) fun s3 =>
Cd b13 (
 AsSlc (a 17) fun p14 o15 l16 c17 =>
 AsCnt (a 20) fun n18 =>
 Must (ltN n18 l16) (
 Ld H p14 (Nat.add o15 (Nat.mul n18 1)) fun v19 =>
 AsPtr (a 2) fun p20 o21 =>
 Ld H p20 (Nat.add o21 2) fun v22 =>
 AsSlc v22 fun p23 o24 l25 c26 =>
 AsCnt (a 20) fun n27 =>
 Must (ltN n27 l25) (
 Ld H p23 (Nat.add o24 (Nat.mul n27 1)) fun v28 =>
 AsLen v28 fun l29 =>
 AsInt .i64 v19 fun z30 =>
 K .normal (upd (upd (upd (upd (upd (upd (upd (upd (upd (upd (upd (upd (upd (upd (upd (upd (upd (upd (upd (upd (upd (upd (upd (upd (upd s3 106 (.bool true)) 107 (a 17)) 106 (.bool true)) 108 (a 20)) 106 (.bool true)) 109 (ptr p14 (Nat.add o15 (Nat.mul n18 1)))) 106 (.bool true)) 110 v19) 106 (.bool true)) 111 (ptr p20 (Nat.add o21 2))) 106 (.bool true)) 112 v22) 106 (.bool true)) 113 (a 20)) 106 (.bool true)) 114 (ptr p23 (Nat.add o24 (Nat.mul n27 1)))) 106 (.bool true)) 115 v28) 106 (.bool true)) 116 (iN (l29))) 106 (.bool true)) 117 (.bool (leZ (Int.ofNat l29) z30))) 100 (.bool false)) 118 (.bool (leZ (Int.ofNat l29) z30))) 119 (.bool (leZ (Int.ofNat l29) z30))) H))) (
 K .normal (upd (upd (upd (Rz false 106 s3 107 11) 100 (.bool false)) 118 (.bool false)) 119 (.bool false)) H))))) := by kernel_rfl
theorem l14ranB2_W (con : CallT) (a : TF) (H : CH) (K : KX) : codeW (sliceC 2 1 (blkC ((flatC (blkC (lpAt Tryz.prog 23 0))).getD 2 .skip))) Tryz.prog con a H K =
 (AsBool (a 119) fun b1 =>
 Cd b1 (
 K (.exit 1) a H) (
 K .normal a H)) := by kernel_rfl
theorem l14ranB3_W (con : CallT) (a : TF) (H : CH) (K : KX) : codeW (sliceC 3 1 (blkC ((flatC (blkC (lpAt Tryz.prog 23 0))).getD 2 .skip))) Tryz.prog con a H K =
 (AsSlc (a 16) fun p1 o2 l3 c4 =>
 AsCnt (a 20) fun n5 =>
 Must (ltN n5 l3) (
 Ld H p1 (Nat.add o2 (Nat.mul n5 1)) fun v6 =>
 IsNil .ptr v6 fun b7 =>
 K .normal (upd (upd (upd (upd (upd a 120 (a 16)) 121 (a 20)) 122 (ptr p1 (Nat.add o2 (Nat.mul n5 1)))) 123 v6) 124 (.bool b7)) H)) := by kernel_rfl
theorem l14ranB4_W (con : CallT) (a : TF) (H : CH) (K : KX) : codeW (sliceC 4 1 (blkC ((flatC (blkC (lpAt Tryz.prog 23 0))).getD 2 .skip))) Tryz.prog con a H K =
 (AsBool (a 124) fun b1 =>
 Cd b1 (
 Nw H (mkRow 98 0 [(iN (0)), (u64 (0)), (u64 (0))]) fun p2 H3 =>
 AsPtr (a 2) fun p4 o5 =>
 Ld H3 p4 (Nat.add o5 2) fun v6 =>
 AsSlc v6 fun p7 o8 l9 c10 =>
 AsCnt (a 20) fun n11 =>
 Must (ltN n11 l9) (
 Ld H3 p7 (Nat.add o8 (Nat.mul n11 1)) fun v12 =>
 AsSlc (a 17) fun p13 o14 l15 c16 =>
 AsCnt (a 20) fun n17 =>
 Must (ltN n17 l15) (
 Ld H3 p13 (Nat.add o14 (Nat.mul n17 1)) fun v18 =>
 AsSlc v12 fun p19 o20 l21 c22 =>
 AsCnt v18 fun n23 =>
 Must (ltN n23 l21) (
 Ld H3 p19 (Nat.add (Nat.add o20 (Nat.mul n23 3)) 0) fun v24 =>
 Ld H3 p19 (Nat.add (Nat.add o20 (Nat.mul n23 3)) 1) fun v25 =>
 Ld H3 p19 (Nat.add (Nat.add o20 (Nat.mul n23 3)) 2) fun v26 =>
 St H3 p2 0 [v24, v25, v26] fun H27 =>
 AsSlc (a 17) fun p28 o29 l30 c31 =>
 AsCnt (a 20) fun n32 =>
 Must (ltN n32 l30) (
 Ld H27 p28 (Nat.add o29 (Nat.mul n32 1)) fun v33 =>
 AsInt .i64 v33 fun z34 =>
 InR (Int.add z34 (Int.ofNat 1)) (
 AsSlc (a 17) fun p35 o36 l37 c38 =>
 AsCnt (a 20) fun n39 =>
 Must (ltN n39 l37) (
 St H27 p35 (Nat.add o36 (Nat.mul n39 1)) [(i64 (Int.add z34 (Int.ofNat 1)))] fun H40 =>
 Ld H40 p2 0 fun v41 =>
 AsInt .i64 v41 fun z42 =>
 Bnd (upd (upd (upd (upd (upd (upd (upd (upd (upd (upd (upd (upd (upd (upd (upd (upd (upd (upd (upd (upd (upd (upd a 21 (ptr p2 0)) 125 (ptr p4 (Nat.add o5 2))) 126 v6) 127 (a 20)) 128 (ptr p7 (Nat.add o8 (Nat.mul n11 1)))) 129 v12) 130 (a 17)) 131 (a 20)) 132 (ptr p13 (Nat.add o14 (Nat.mul n17 1)))) 133 v18) 134 (ptr p19 (Nat.add o20 (Nat.mul n23 3)))) 135 (.agg ⟨[v24, v25, v26]⟩)) 136 (a 17)) 137 (a 20)) 138 (ptr p28 (Nat.add o29 (Nat.mul n32 1)))) 139 v33) 140 (i64 (Int.add z34 (Int.ofNat 1)))) 141 (ptr p35 (Nat.add o36 (Nat.mul n39 1)))) 142 (ptr p2 0)) 143 v41) 144 (.bool (eqZ z42 (Int.ofNat 4)))) 145 (.bool (eqZ z42 (Int.ofNat 4)))) fun s1 =>
Cd (eqZ z42 (Int.ofNat 4)) (
 AsBool (a 1) fun b43 =>
 Cd (notB b43) (
 K (.exit 1) (upd (upd (upd (upd (upd s1 145 (.bool true)) 146 (a 1)) 145 (.bool true)) 147 (.bool (notB b43))) 148 (.bool (notB b43))) H40) (
 AsPtr (a 12) fun p44 o45 =>
 Ld H40 p44 (Nat.add o45 0) fun v46 =>
 Ld H40 p44 (Nat.add o45 1) fun v47 =>
 Ld H40 p44 (Nat.add o45 2) fun v48 =>
 Ld H40 p44 (Nat.add o45 3) fun v49 =>
 Ld H40 p2 0 fun v50 =>
 Ld H40 p2 1 fun v51 =>
 Ld H40 p2 2 fun v52 =>
 Call1 Tryz.prog con 72 [(.agg ⟨[v46, v47, v48, v49]⟩), (.agg ⟨[v50, v51, v52]⟩)] H40 fun v53 H54 =>
 AsSlc (a 16) fun p55 o56 l57 c58 =>
 AsCnt (a 20) fun n59 =>
 Must (ltN n59 l57) (
 Sc v53 (St H54 p55 (Nat.add o56 (Nat.mul n59 1)) [v53] fun H60 =>
 AsSlc (a 16) fun p61 o62 l63 c64 =>
 AsCnt (a 20) fun n65 =>
 Must (ltN n65 l63) (
 Ld H60 p61 (Nat.add o62 (Nat.mul n65 1)) fun v66 =>
 NotNil Tryz.prog v66 (
 AsPtr v66 fun p67 o68 =>
 Sc (a 19) (St H60 p67 (Nat.add o68 24) [(a 19)] fun H69 =>
 AsSlc (a 16) fun p70 o71 l72 c73 =>
 AsCnt (a 20) fun n74 =>
 Must (ltN n74 l72) (
 Ld H69 p70 (Nat.add o71 (Nat.mul n74 1)) fun v75 =>
 Sc v75 (Nw H69 (mkRow 96 0 [v75]) fun p76 H77 =>
 App Tryz.prog 84 84 H77 (a 18) (.slice (some ⟨p76, 0, none⟩) 1 1) fun v78 H79 =>
 K .normal (upd (upd (upd (upd (upd (upd (upd (upd (upd (upd (upd (upd (upd (upd (upd (upd (upd (upd (upd (upd (upd (upd (upd (upd (upd (upd s1 145 (.bool true)) 146 (a 1)) 145 (.bool true)) 147 (.bool (notB b43))) 148 (.bool (notB b43))) 149 (a 16)) 150 (a 20)) 151 (.agg ⟨[v46, v47, v48, v49]⟩)) 152 (.agg ⟨[v50, v51, v52]⟩)) 153 v53) 154 (ptr p55 (Nat.add o56 (Nat.mul n59 1)))) 155 (a 16)) 156 (a 20)) 157 (ptr p61 (Nat.add o62 (Nat.mul n65 1)))) 158 v66) 159 (a 19)) 160 v66) 161 (ptr p67 (Nat.add o68 24))) 162 (a 18)) 163 (a 16)) 164 (a 20)) 165 (ptr p70 (Nat.add o71 (Nat.mul n74 1)))) 166 v75) 167 (.slice (some ⟨p76, 0, none⟩) 1 1)) 168 v78) 18 v78) H79))))))))) (
 AsPtr (a 12) fun p80 o81 =>
 Ld H40 p80 (Nat.add o81 0) fun v82 =>
 Ld H40 p80 (Nat.add o81 1) fun v83 =>
 Ld H40 p80 (Nat.add o81 2) fun v84 =>
 Ld H40 p80 (Nat.add o81 3) fun v85 =>
 Ld H40 p2 0 fun v86 =>
 Ld H40 p2 1 fun v87 =>
 Ld H40 p2 2 fun v88 =>
 Call1 Tryz.prog con 72 [(.agg ⟨[v82, v83, v84, v85]⟩), (.agg ⟨[v86, v87, v88]⟩)] H40 fun v89 H90 =>
 AsSlc (a 16) fun p91 o92 l93 c94 =>
 AsCnt (a 20) fun n95 =>
 Must (ltN n95 l93) (
 Sc v89 (St H90 p91 (Nat.add o92 (Nat.mul n95 1)) [v89] fun H96 =>
 AsSlc (a 16) fun p97 o98 l99 c100 =>
 AsCnt (a 20) fun n101 =>
 Must (ltN n101 l99) (
 Ld H96 p97 (Nat.add o98 (Nat.mul n101 1)) fun v102 =>
 NotNil Tryz.prog v102 (
 AsPtr v102 fun p103 o104 =>
 Sc (a 19) (St H96 p103 (Nat.add o104 24) [(a 19)] fun H105 =>
 AsSlc (a 16) fun p106 o107 l108 c109 =>
 AsCnt (a 20) fun n110 =>
 Must (ltN n110 l108) (
 Ld H105 p106 (Nat.add o107 (Nat.mul n110 1)) fun v111 =>
 Sc v111 (Nw H105 (mkRow 96 0 [v111]) fun p112 H113 =>
 App Tryz.prog 84 84 H113 (a 18) (.slice (some ⟨p112, 0, none⟩) 1 1) fun v114 H115 =>
 K .normal (upd (upd (upd (upd (upd (upd (upd (upd (upd (upd (upd (upd (upd (upd (upd (upd (upd (upd (upd (upd (upd (upd (Rz false 145 s1 146 2) 148 (.bool false)) 149 (a 16)) 150 (a 20)) 151 (.agg ⟨[v82, v83, v84, v85]⟩)) 152 (.agg ⟨[v86, v87, v88]⟩)) 153 v89) 154 (ptr p91 (Nat.add o92 (Nat.mul n95 1)))) 155 (a 16)) 156 (a 20)) 157 (ptr p97 (Nat.add o98 (Nat.mul n101 1)))) 158 v102) 159 (a 19)) 160 v102) 161 (ptr p103 (Nat.add o104 24))) 162 (a 18)) 163 (a 16)) 164 (a 20)) 165 (ptr p106 (Nat.add o107 (Nat.mul n110 1)))) 166 v111) 167 (.slice (some ⟨p112, 0, none⟩) 1 1)) 168 v114) 18 v114) H115))))))))))))))) (
 K .normal a H)) := by kernel_rfl
theorem l14ranB5_W (con : CallT) (a : TF) (H : CH) (K : KX) : codeW (sliceC 5 1 (blkC ((flatC (blkC (lpAt Tryz.prog 23 0))).getD 2 .skip))) Tryz.prog con a H K =
 (AsSlc (a 16) fun p1 o2 l3 c4 =>
 AsCnt (a 20) fun n5 =>
 Must (ltN n5 l3) (
 Ld H p1 (Nat.add o2 (Nat.mul n5 1)) fun v6 =>
 Call1 Tryz.prog con 17 [(a 8), (a 20)] H fun v7 H8 =>
 AsPtr (a 12) fun p9 o10 =>
 Ld H8 p9 (Nat.add o10 0) fun v11 =>
 Ld H8 p9 (Nat.add o10 1) fun v12 =>
 Ld H8 p9 (Nat.add o10 2) fun v13 =>
 Ld H8 p9 (Nat.add o10 3) fun v14 =>
 Call1 Tryz.prog con 73 [v6, v7, (a 10), (.agg ⟨[v11, v12, v13, v14]⟩), (a 20)] H8 fun v15 H16 =>
 AsTup v15 fun l17 =>
 Nth l17 0 fun v18 =>
 AsTup v15 fun l19 =>
 Nth l19 1 fun v20 =>
 AsPtr (a 12) fun p21 o22 =>
 Ld H p21 (Nat.add o22 0) fun v23 =>
 Ld H p21 (Nat.add o22 1) fun v24 =>
 Ld H p21 (Nat.add o22 2) fun v25 =>
 Ld H p21 (Nat.add o22 3) fun v26 =>
 Same (.agg ⟨[v11, v12, v13, v14]⟩) (.agg ⟨[v23, v24, v25, v26]⟩) (
 AsPtr (a 12) fun p27 o28 =>
 Ld H8 p27 (Nat.add o28 0) fun v29 =>
 Ld H8 p27 (Nat.add o28 1) fun v30 =>
 Ld H8 p27 (Nat.add o28 2) fun v31 =>
 Ld H8 p27 (Nat.add o28 3) fun v32 =>
 Same (.agg ⟨[v11, v12, v13, v14]⟩) (.agg ⟨[v29, v30, v31, v32]⟩) (
 Ld H p1 (Nat.add o2 (Nat.mul n5 1)) fun v33 =>
 Same v6 v33 (
 Ld H8 p1 (Nat.add o2 (Nat.mul n5 1)) fun v34 =>
 Same v6 v34 (
 K .normal (upd (upd (upd (upd (upd (upd (upd (upd (upd (upd (upd (upd (upd (upd (upd (upd a 170 (a 16)) 171 (a 20)) 172 (ptr p1 (Nat.add o2 (Nat.mul n5 1)))) 173 v6) 174 (a 8)) 175 (a 20)) 176 v7) 177 (a 10)) 178 (.agg ⟨[v11, v12, v13, v14]⟩)) 179 (a 20)) 180 v15) 169 v15) 181 v18) 182 v20) 22 v18) 23 v20) H16)))))) := by kernel_rfl
theorem l14ranB6_W (con : CallT) (a : TF) (H : CH) (K : KX) : codeW (sliceC 6 1 (blkC ((flatC (blkC (lpAt Tryz.prog 23 0))).getD 2 .skip))) Tryz.prog con a H K =
 (AsBool (a 23) fun b1 =>
 Cd (notB b1) (
 K .normal (upd (upd (upd (upd (upd (upd (upd (upd (upd (upd (upd (upd (upd (upd (upd (upd (upd (upd (upd (upd a 183 (a 23)) 184 (.bool (notB b1))) 185 (.bool (notB b1))) 185 (.bool true)) 186 unit) 185 (.bool true)) 187 unit) 185 (.bool true)) 188 unit) 185 (.bool true)) 189 unit) 185 (.bool true)) 190 unit) 185 (.bool true)) 191 unit) 185 (.bool true)) 192 unit) 185 (.bool true)) 193 unit) 194 (.bool true)) H) (
 AsPtr (a 12) fun p2 o3 =>
 Ld H p2 (Nat.add o3 0) fun v4 =>
 Ld H p2 (Nat.add o3 1) fun v5 =>
 Ld H p2 (Nat.add o3 2) fun v6 =>
 Ld H p2 (Nat.add o3 3) fun v7 =>
 Call1 Tryz.prog con 24 [(a 8), (.agg ⟨[v4, v5, v6, v7]⟩)] H fun v8 H9 =>
 AsPtr (a 12) fun p10 o11 =>
 Ld H9 p10 (Nat.add o11 0) fun v12 =>
 Ld H9 p10 (Nat.add o11 1) fun v13 =>
 Ld H9 p10 (Nat.add o11 2) fun v14 =>
 Ld H9 p10 (Nat.add o11 3) fun v15 =>
 Call1 Tryz.prog con 74 [(a 10), (.agg ⟨[v12, v13, v14, v15]⟩)] H9 fun v16 H17 =>
 Call1 Tryz.prog con 28 [v8, v16] H17 fun v18 H19 =>
 AsBool v18 fun b20 =>
 AsPtr (a 12) fun p21 o22 =>
 Ld H p21 (Nat.add o22 0) fun v23 =>
 Ld H p21 (Nat.add o22 1) fun v24 =>
 Ld H p21 (Nat.add o22 2) fun v25 =>
 Ld H p21 (Nat.add o22 3) fun v26 =>
 Same (.agg ⟨[v12, v13, v14, v15]⟩) (.agg ⟨[v23, v24, v25, v26]⟩) (
 AsPtr (a 12) fun p27 o28 =>
 Ld H9 p27 (Nat.add o28 0) fun v29 =>
 Ld H9 p27 (Nat.add o28 1) fun v30 =>
 Ld H9 p27 (Nat.add o28 2) fun v31 =>
 Ld H9 p27 (Nat.add o28 3) fun v32 =>
 Same (.agg ⟨[v12, v13, v14, v15]⟩) (.agg ⟨[v29, v30, v31, v32]⟩) (
 K .normal (upd (upd (upd (upd (upd (upd (upd (upd (upd (upd (upd (upd (upd (upd (upd (upd (upd (upd (upd (upd a 183 (a 23)) 184 (.bool (notB b1))) 185 (.bool (notB b1))) 185 (.bool false)) 186 (a 8)) 185 (.bool false)) 187 (.agg ⟨[v4, v5, v6, v7]⟩)) 185 (.bool false)) 188 v8) 185 (.bool false)) 189 (a 10)) 185 (.bool false)) 190 (.agg ⟨[v12, v13, v14, v15]⟩)) 185 (.bool false)) 191 v16) 185 (.bool false)) 192 v18) 185 (.bool false)) 193 (.bool (notB b20))) 194 (.bool (notB b20))) H19)))) := by kernel_rfl
theorem l14ranB7_W (con : CallT) (a : TF) (H : CH) (K : KX) : codeW (sliceC 7 1 (blkC ((flatC (blkC (lpAt Tryz.prog 23 0))).getD 2 .skip))) Tryz.prog con a H K =
 (AsBool (a 194) fun b1 =>
 Cd b1 (
 AsPtr (a 12) fun p2 o3 =>
 Ld H p2 (Nat.add o3 0) fun v4 =>
 Ld H p2 (Nat.add o3 1) fun v5 =>
 Ld H p2 (Nat.add o3 2) fun v6 =>
 Ld H p2 (Nat.add o3 3) fun v7 =>
 AsPtr (a 6) fun p8 o9 =>
 St H p8 o9 [v4, v5, v6, v7] fun H10 =>
 K .ret (upd (upd (upd (upd (upd (upd a 195 (a 18)) 196 (a 8)) 197 (.agg ⟨[v4, v5, v6, v7]⟩)) 4 (a 18)) 5 (a 8)) 7 (.bool false)) H10) (
 K .normal a H)) := by kernel_rfl
theorem l14ranB8_W (con : CallT) (a : TF) (H : CH) (K : KX) : codeW (sliceC 8 1 (blkC ((flatC (blkC (lpAt Tryz.prog 23 0))).getD 2 .skip))) Tryz.prog con a H K =
 (K .normal (upd a 198 (a 22)) H) := by kernel_rfl
theorem l14ranB9_W (con : CallT) (a : TF) (H : CH) (K : KX) : codeW (sliceC 9 1 (blkC ((flatC (blkC (lpAt Tryz.prog 23 0))).getD 2 .skip))) Tryz.prog con a H K =
 (AsBool (a 198) fun b1 =>
 Bnd (upd (upd a 199 (a 16)) 200 (a 20)) fun s1 =>
Cd b1 (
 AsSlc (a 16) fun p2 o3 l4 c5 =>
 AsCnt (a 20) fun n6 =>
 Must (ltN n6 l4) (
 Ld H p2 (Nat.add o3 (Nat.mul n6 1)) fun v7 =>
 NotNil Tryz.prog v7 (
 AsPtr v7 fun p8 o9 =>
 Sc (a 19) (St H p8 (Nat.add o9 25) [(a 19)] fun H10 =>
 AsSlc (a 16) fun p11 o12 l13 c14 =>
 AsCnt (a 20) fun n15 =>
 Must (ltN n15 l13) (
 Ld H10 p11 (Nat.add o12 (Nat.mul n15 1)) fun v16 =>
 NotNil Tryz.prog v16 (
 AsPtr v16 fun p17 o18 =>
 Ld H10 p17 (Nat.add (Nat.add o18 0) 0) fun v19 =>
 AsInt .i64 v19 fun z20 =>
 Bnd (upd (upd (upd (upd (upd (upd (upd (upd (upd (upd (upd (upd (upd (upd (upd s1 201 (ptr p2 (Nat.add o3 (Nat.mul n6 1)))) 202 v7) 203 (a 19)) 204 v7) 205 (ptr p8 (Nat.add o9 25))) 206 (a 16)) 207 (a 20)) 208 (ptr p11 (Nat.add o12 (Nat.mul n15 1)))) 209 v16) 210 v16) 211 (ptr p17 (Nat.add o18 0))) 212 (ptr p17 (Nat.add (Nat.add o18 0) 0))) 213 v19) 214 (.bool (eqZ z20 (Int.ofNat 2)))) 215 (.bool (eqZ z20 (Int.ofNat 2)))) fun s2 =>
Cd (eqZ z20 (Int.ofNat 2)) (
 AsSlc (a 16) fun p21 o22 l23 c24 =>
 AsCnt (a 20) fun n25 =>
 Must (ltN n25 l23) (
 Ld H10 p21 (Nat.add o22 (Nat.mul n25 1)) fun v26 =>
 NotNil Tryz.prog v26 (
 AsPtr v26 fun p27 o28 =>
 Ld H10 p27 (Nat.add o28 5) fun v29 =>
 Call1 Tryz.prog con 17 [(a 8), (a 20)] H10 fun v30 H31 =>
 Call1 Tryz.prog con 26 [v29, v30] H31 fun v32 H33 =>
 AsBool v32 fun b34 =>
 Bnd (upd (upd (upd (upd (upd (upd (upd (upd (upd (upd (upd (upd (upd (upd (upd (upd (upd (upd (upd (upd (upd (upd (upd (upd (upd (upd s2 215 (.bool true)) 216 (a 16)) 215 (.bool true)) 217 (a 20)) 215 (.bool true)) 218 (ptr p21 (Nat.add o22 (Nat.mul n25 1)))) 215 (.bool true)) 219 v26) 215 (.bool true)) 220 v26) 215 (.bool true)) 221 (ptr p27 (Nat.add o28 5))) 215 (.bool true)) 222 v29) 215 (.bool true)) 223 (a 8)) 215 (.bool true)) 224 (a 20)) 215 (.bool true)) 225 v30) 215 (.bool true)) 226 v32) 215 (.bool true)) 227 (.bool (notB b34))) 228 (.bool (notB b34))) 229 (.bool (notB b34))) fun s3 =>
Cd (notB b34) (
 Ld H10 p27 (Nat.add o28 5) fun v35 =>
 Same v29 v35 (
 Ld H31 p27 (Nat.add o28 5) fun v36 =>
 Same v29 v36 (
 Ld H10 p21 (Nat.add o22 (Nat.mul n25 1)) fun v37 =>
 Same v26 v37 (
 Ld H31 p21 (Nat.add o22 (Nat.mul n25 1)) fun v38 =>
 Same v26 v38 (
 AsPtr (a 12) fun p39 o40 =>
 Ld H33 p39 (Nat.add o40 0) fun v41 =>
 Ld H33 p39 (Nat.add o40 1) fun v42 =>
 Ld H33 p39 (Nat.add o40 2) fun v43 =>
 Ld H33 p39 (Nat.add o40 3) fun v44 =>
 AsPtr (a 6) fun p45 o46 =>
 St H33 p45 o46 [v41, v42, v43, v44] fun H47 =>
 K .ret (upd (upd (upd (upd (upd (upd (upd (upd (upd (upd (upd (upd (upd (upd (upd (upd (upd (upd (upd (upd (upd (upd (upd (upd (upd (upd (upd (upd (upd (upd (upd (upd (upd (Rz true 229 s3 230 10) 239 unit) 240 unit) 239 unit) 241 unit) 239 unit) 242 unit) 239 unit) 243 unit) 239 unit) 244 unit) 239 unit) 245 unit) 239 unit) 246 unit) 239 unit) 247 unit) 239 unit) 248 unit) 239 unit) 249 unit) 239 unit) 250 unit) 239 unit) 251 unit) 229 (.bool true)) 252 unit) 253 (.bool true)) 254 (a 18)) 255 (a 8)) 256 (.agg ⟨[v41, v42, v43, v44]⟩)) 4 (a 18)) 5 (a 8)) 7 (.bool false)) H47))))) (
 AsSlc (a 16) fun p48 o49 l50 c51 =>
 AsCnt (a 20) fun n52 =>
 Must (ltN n52 l50) (
 Ld H33 p48 (Nat.add o49 (Nat.mul n52 1)) fun v53 =>
 NotNil Tryz.prog v53 (
 AsPtr v53 fun p54 o55 =>
 Ld H33 p54 (Nat.add (Nat.add o55 0) 0) fun v56 =>
 AsInt .i64 v56 fun z57 =>
 Bnd (upd (upd (upd (upd (upd (upd (upd (upd (upd (upd (upd (upd (upd (upd (upd (upd (upd (upd (upd (upd s3 229 (.bool false)) 230 (a 16)) 229 (.bool false)) 231 (a 20)) 229 (.bool false)) 232 (ptr p48 (Nat.add o49 (Nat.mul n52 1)))) 229 (.bool false)) 233 v53) 229 (.bool false)) 234 v53) 229 (.bool false)) 235 (ptr p54 (Nat.add o55 0))) 229 (.bool false)) 236 (ptr p54 (Nat.add (Nat.add o55 0) 0))) 229 (.bool false)) 237 v56) 229 (.bool false)) 238 (.bool (eqZ z57 (Int.ofNat 3)))) 229 (.bool false)) 239 (.bool (eqZ z57 (Int.ofNat 3)))) fun s4 =>
Cd (eqZ z57 (Int.ofNat 3)) (
 AsSlc (a 16) fun p58 o59 l60 c61 =>
 AsCnt (a 20) fun n62 =>
 Must (ltN n62 l60) (
 Ld H33 p58 (Nat.add o59 (Nat.mul n62 1)) fun v63 =>
 NotNil Tryz.prog v63 (
 AsPtr v63 fun p64 o65 =>
 Ld H33 p64 (Nat.add o65 6) fun v66 =>
 Call1 Tryz.prog con 17 [(a 8), (a 20)] H33 fun v67 H68 =>
 Call1 Tryz.prog con 68 [v66, v67] H68 fun v69 H70 =>
 AsBool v69 fun b71 =>
 Ld H33 p64 (Nat.add o65 6) fun v72 =>
 Same v66 v72 (
 Ld H68 p64 (Nat.add o65 6) fun v73 =>
 Same v66 v73 (
 Ld H33 p58 (Nat.add o59 (Nat.mul n62 1)) fun v74 =>
 Same v63 v74 (
 Ld H68 p58 (Nat.add o59 (Nat.mul n62 1)) fun v75 =>
 Same v63 v75 (
 Ld H10 p27 (Nat.add o28 5) fun v76 =>
 Same v29 v76 (
 Ld H31 p27 (Nat.add o28 5) fun v77 =>
 Same v29 v77 (
 Ld H10 p21 (Nat.add o22 (Nat.mul n25 1)) fun v78 =>
 Same v26 v78 (
 Ld H31 p21 (Nat.add o22 (Nat.mul n25 1)) fun v79 =>
 Same v26 v79 (
 Bnd (upd (upd (upd (upd (upd (upd (upd (upd (upd (upd (upd (upd (upd (upd (upd (upd (upd (upd (upd (upd (upd (upd (upd (upd (upd (upd (upd s4 239 (.bool true)) 240 (a 16)) 239 (.bool true)) 241 (a 20)) 239 (.bool true)) 242 (ptr p58 (Nat.add o59 (Nat.mul n62 1)))) 239 (.bool true)) 243 v63) 239 (.bool true)) 244 v63) 239 (.bool true)) 245 (ptr p64 (Nat.add o65 6))) 239 (.bool true)) 246 v66) 239 (.bool true)) 247 (a 8)) 239 (.bool true)) 248 (a 20)) 239 (.bool true)) 249 v67) 239 (.bool true)) 250 v69) 239 (.bool true)) 251 (.bool (notB b71))) 229 (.bool false)) 252 (.bool (notB b71))) 253 (.bool (notB b71))) fun s5 =>
Cd (notB b71) (
 AsPtr (a 12) fun p80 o81 =>
 Ld H70 p80 (Nat.add o81 0) fun v82 =>
 Ld H70 p80 (Nat.add o81 1) fun v83 =>
 Ld H70 p80 (Nat.add o81 2) fun v84 =>
 Ld H70 p80 (Nat.add o81 3) fun v85 =>
 AsPtr (a 6) fun p86 o87 =>
 St H70 p86 o87 [v82, v83, v84, v85] fun H88 =>
 K .ret (upd (upd (upd (upd (upd (upd s5 254 (a 18)) 255 (a 8)) 256 (.agg ⟨[v82, v83, v84, v85]⟩)) 4 (a 18)) 5 (a 8)) 7 (.bool false)) H88) (
 AsSlc (a 16) fun p89 o90 l91 c92 =>
 AsCnt (a 20) fun n93 =>
 Must (ltN n93 l91) (
 St H70 p89 (Nat.add o90 (Nat.mul n93 1)) [(.pointer none)] fun H94 =>
 K .normal (upd (upd (upd s5 257 (a 16)) 258 (a 20)) 259 (ptr p89 (Nat.add o90 (Nat.mul n93 1)))) H94))))))))))))) (
 Ld H10 p27 (Nat.add o28 5) fun v95 =>
 Same v29 v95 (
 Ld H31 p27 (Nat.add o28 5) fun v96 =>
 Same v29 v96 (
 Ld H10 p21 (Nat.add o22 (Nat.mul n25 1)) fun v97 =>
 Same v26 v97 (
 Ld H31 p21 (Nat.add o22 (Nat.mul n25 1)) fun v98 =>
 Same v26 v98 (
 AsSlc (a 16) fun p99 o100 l101 c102 =>
 AsCnt (a 20) fun n103 =>
 Must (ltN n103 l101) (
 St H33 p99 (Nat.add o100 (Nat.mul n103 1)) [(.pointer none)] fun H104 =>
 K .normal (upd (upd (upd (upd (upd (upd (Rz false 239 s4 240 12) 229 (.bool false)) 252 (.bool false)) 253 (.bool false)) 257 (a 16)) 258 (a 20)) 259 (ptr p99 (Nat.add o100 (Nat.mul n103 1)))) H104)))))))))))) (
 AsSlc (a 16) fun p105 o106 l107 c108 =>
 AsCnt (a 20) fun n109 =>
 Must (ltN n109 l107) (
 Ld H10 p105 (Nat.add o106 (Nat.mul n109 1)) fun v110 =>
 NotNil Tryz.prog v110 (
 AsPtr v110 fun p111 o112 =>
 Ld H10 p111 (Nat.add (Nat.add o112 0) 0) fun v113 =>
 AsInt .i64 v113 fun z114 =>
 Bnd (upd (upd (upd (upd (upd (upd (upd (upd (upd (upd (upd (upd (upd (upd (upd (upd (upd (upd (upd (upd (upd (upd (Rz false 215 s2 216 12) 228 (.bool false)) 229 (.bool false)) 229 (.bool false)) 230 (a 16)) 229 (.bool false)) 231 (a 20)) 229 (.bool false)) 232 (ptr p105 (Nat.add o106 (Nat.mul n109 1)))) 229 (.bool false)) 233 v110) 229 (.bool false)) 234 v110) 229 (.bool false)) 235 (ptr p111 (Nat.add o112 0))) 229 (.bool false)) 236 (ptr p111 (Nat.add (Nat.add o112 0) 0))) 229 (.bool false)) 237 v113) 229 (.bool false)) 238 (.bool (eqZ z114 (Int.ofNat 3)))) 229 (.bool false)) 239 (.bool (eqZ z114 (Int.ofNat 3)))) fun s6 =>
Cd (eqZ z114 (Int.ofNat 3)) (
 AsSlc (a 16) fun p115 o116 l117 c118 =>
 AsCnt (a 20) fun n119 =>
 Must (ltN n119 l117) (
 Ld H10 p115 (Nat.add o116 (Nat.mul n119 1)) fun v120 =>
 NotNil Tryz.prog v120 (
 AsPtr v120 fun p121 o122 =>
 Ld H10 p121 (Nat.add o122 6) fun v123 =>
 Call1 Tryz.prog con 17 [(a 8), (a 20)] H10 fun v124 H125 =>
 Call1 Tryz.prog con 68 [v123, v124] H125 fun v126 H127 =>
 AsBool v126 fun b128 =>
 Ld H10 p121 (Nat.add o122 6) fun v129 =>
 Same v123 v129 (
 Ld H125 p121 (Nat.add o122 6) fun v130 =>
 Same v123 v130 (
 Ld H10 p115 (Nat.add o116 (Nat.mul n119 1)) fun v131 =>
 Same v120 v131 (
 Ld H125 p115 (Nat.add o116 (Nat.mul n119 1)) fun v132 =>
 Same v120 v132 (
 Bnd (upd (upd (upd (upd (upd (upd (upd (upd (upd (upd (upd (upd (upd (upd (upd (upd (upd (upd (upd (upd (upd (upd (upd (upd (upd (upd (upd s6 239 (.bool true)) 240 (a 16)) 239 (.bool true)) 241 (a 20)) 239 (.bool true)) 242 (ptr p115 (Nat.add o116 (Nat.mul n119 1)))) 239 (.bool true)) 243 v120) 239 (.bool true)) 244 v120) 239 (.bool true)) 245 (ptr p121 (Nat.add o122 6))) 239 (.bool true)) 246 v123) 239 (.bool true)) 247 (a 8)) 239 (.bool true)) 248 (a 20)) 239 (.bool true)) 249 v124) 239 (.bool true)) 250 v126) 239 (.bool true)) 251 (.bool (notB b128))) 229 (.bool false)) 252 (.bool (notB b128))) 253 (.bool (notB b128))) fun s7 =>
Cd (notB b128) (
 AsPtr (a 12) fun p133 o134 =>
 Ld H127 p133 (Nat.add o134 0) fun v135 =>
 Ld H127 p133 (Nat.add o134 1) fun v136 =>
 Ld H127 p133 (Nat.add o134 2) fun v137 =>
 Ld H127 p133 (Nat.add o134 3) fun v138 =>
 AsPtr (a 6) fun p139 o140 =>
 St H127 p139 o140 [v135, v136, v137, v138] fun H141 =>
 K .ret (upd (upd (upd (upd (upd (upd s7 254 (a 18)) 255 (a 8)) 256 (.agg ⟨[v135, v136, v137, v138]⟩)) 4 (a 18)) 5 (a 8)) 7 (.bool false)) H141) (
 AsSlc (a 16) fun p142 o143 l144 c145 =>
 AsCnt (a 20) fun n146 =>
 Must (ltN n146 l144) (
 St H127 p142 (Nat.add o143 (Nat.mul n146 1)) [(.pointer none)] fun H147 =>
 K .normal (upd (upd (upd s7 257 (a 16)) 258 (a 20)) 259 (ptr p142 (Nat.add o143 (Nat.mul n146 1)))) H147))))))))) (
 AsSlc (a 16) fun p148 o149 l150 c151 =>
 AsCnt (a 20) fun n152 =>
 Must (ltN n152 l150) (
 St H10 p148 (Nat.add o149 (Nat.mul n152 1)) [(.pointer none)] fun H153 =>
 K .normal (upd (upd (upd (upd (upd (upd (Rz false 239 s6 240 12) 229 (.bool false)) 252 (.bool false)) 253 (.bool false)) 257 (a 16)) 258 (a 20)) 259 (ptr p148 (Nat.add o149 (Nat.mul n152 1)))) H153))))))))))) (
 K .normal a H)) := by kernel_rfl
theorem l14ranB10_W (con : CallT) (a : TF) (H : CH) (K : KX) : codeW (dropC 10 (blkC ((flatC (blkC (lpAt Tryz.prog 23 0))).getD 2 .skip))) Tryz.prog con a H K =
 (K .normal a H) := by kernel_rfl
end Go.Proofs.YtocphcgcpjcfjaaGreat

/- What some functions' texts ask for, step by step, each checked by the kernel. No conditions. -/
set_option linter.unusedVariables false
set_option maxRecDepth 100000
namespace Go.Proofs.YtocphcgcpjcfjaaGreat
open Go Go.CM
theorem hpA0_W (con : CallT) (a : TF) (H : CH) (K : KX) : codeW (takeC 2 (blkC (lpAt Tryz.prog 8 0))) Tryz.prog con a H K =
 (AsLen (a 3) fun l1 =>
 AsInt .i64 (a 7) fun z2 =>
 Cd (ltZ z2 (Int.ofNat l1)) (
 K .normal (upd (upd (upd (upd a 28 (a 7)) 29 (a 3)) 30 (iN (l1))) 31 (.bool (ltZ z2 (Int.ofNat l1)))) H) (
 K (.exit 0) (upd (upd (upd (upd a 28 (a 7)) 29 (a 3)) 30 (iN (l1))) 31 (.bool (ltZ z2 (Int.ofNat l1)))) H)) := by kernel_rfl
theorem hpA3_W (con : CallT) (a : TF) (H : CH) (K : KX) : codeW (dropC 3 (blkC (lpAt Tryz.prog 8 0))) Tryz.prog con a H K =
 (AsInt .i64 (a 7) fun z1 =>
 InR (Int.add z1 (Int.ofNat 1)) (
 K .normal (upd (upd (upd a 32 (a 7)) 33 (i64 (Int.add z1 (Int.ofNat 1)))) 7 (i64 (Int.add z1 (Int.ofNat 1)))) H)) := by kernel_rfl
theorem hpB0_W (con : CallT) (a : TF) (H : CH) (K : KX) : codeW (takeC 2 (blkC (lpAt Tryz.prog 8 1))) Tryz.prog con a H K =
 (AsLen (a 3) fun l1 =>
 AsInt .i64 (a 14) fun z2 =>
 Cd (ltZ z2 (Int.ofNat l1)) (
 K .normal (upd (upd (upd (upd a 59 (a 14)) 60 (a 3)) 61 (iN (l1))) 62 (.bool (ltZ z2 (Int.ofNat l1)))) H) (
 K (.exit 2) (upd (upd (upd (upd a 59 (a 14)) 60 (a 3)) 61 (iN (l1))) 62 (.bool (ltZ z2 (Int.ofNat l1)))) H)) := by kernel_rfl
theorem hpB3_W (con : CallT) (a : TF) (H : CH) (K : KX) : codeW (dropC 3 (blkC (lpAt Tryz.prog 8 1))) Tryz.prog con a H K =
 (AsInt .i64 (a 14) fun z1 =>
 InR (Int.add z1 (Int.ofNat 1)) (
 K .normal (upd (upd (upd a 63 (a 14)) 64 (i64 (Int.add z1 (Int.ofNat 1)))) 14 (i64 (Int.add z1 (Int.ofNat 1)))) H)) := by kernel_rfl
theorem hpC0_W (con : CallT) (a : TF) (H : CH) (K : KX) : codeW (takeC 1 (blkC ((flatC (blkC (lpAt Tryz.prog 8 0))).getD 2 .skip))) Tryz.prog con a H K =
 (AsSlc (a 3) fun p1 o2 l3 c4 =>
 AsCnt (a 7) fun n5 =>
 Must (ltN n5 l3) (
 Ld H p1 (Nat.add o2 (Nat.mul n5 1)) fun v6 =>
 K .normal (upd (upd (upd (upd (upd a 34 (a 3)) 35 (a 7)) 36 (ptr p1 (Nat.add o2 (Nat.mul n5 1)))) 37 v6) 8 v6) H)) := by kernel_rfl
theorem hpC1_W (con : CallT) (a : TF) (H : CH) (K : KX) : codeW (sliceC 1 1 (blkC ((flatC (blkC (lpAt Tryz.prog 8 0))).getD 2 .skip))) Tryz.prog con a H K =
 (NotNil Tryz.prog (a 8) (
 AsPtr (a 8) fun p1 o2 =>
 Ld H p1 (Nat.add (Nat.add o2 0) 0) fun v3 =>
 AsInt .i64 v3 fun z4 =>
 Bnd (upd (upd (upd (upd (upd (upd (upd a 38 (a 8)) 39 (a 8)) 40 (ptr p1 (Nat.add o2 0))) 41 (ptr p1 (Nat.add (Nat.add o2 0) 0))) 42 v3) 43 (.bool (notB (eqZ z4 (Int.ofNat 2))))) 44 (.bool (notB (eqZ z4 (Int.ofNat 2))))) fun s1 =>
Cd (notB (eqZ z4 (Int.ofNat 2))) (
 NotNil Tryz.prog (a 8) (
 AsPtr (a 8) fun p5 o6 =>
 Ld H p5 (Nat.add (Nat.add o6 0) 0) fun v7 =>
 AsInt .i64 v7 fun z8 =>
 Bnd (upd (upd (upd (upd (upd (upd (upd (upd (upd (upd (upd (upd (upd (upd s1 44 (.bool true)) 45 (a 8)) 44 (.bool true)) 46 (a 8)) 44 (.bool true)) 47 (ptr p5 (Nat.add o6 0))) 44 (.bool true)) 48 (ptr p5 (Nat.add (Nat.add o6 0) 0))) 44 (.bool true)) 49 v7) 44 (.bool true)) 50 (.bool (notB (eqZ z8 (Int.ofNat 3))))) 51 (.bool (notB (eqZ z8 (Int.ofNat 3))))) 52 (.bool (notB (eqZ z8 (Int.ofNat 3))))) fun s2 =>
Cd (notB (eqZ z8 (Int.ofNat 3))) (
 K .normal (upd (Rz true 52 s2 53 5) 58 (.bool true)) H) (
 NotNil Tryz.prog (a 8) (
 AsPtr (a 8) fun p9 o10 =>
 Ld H p9 (Nat.add o10 25) fun v11 =>
 AsInt .i64 v11 fun z12 =>
 K .normal (upd (upd (upd (upd (upd (upd (upd (upd (upd (upd (upd s2 52 (.bool false)) 53 (a 8)) 52 (.bool false)) 54 (a 8)) 52 (.bool false)) 55 (ptr p9 (Nat.add o10 25))) 52 (.bool false)) 56 v11) 52 (.bool false)) 57 (.bool (ltZ z12 (Int.ofNat 0)))) 58 (.bool (ltZ z12 (Int.ofNat 0)))) H)))) (
 NotNil Tryz.prog (a 8) (
 AsPtr (a 8) fun p13 o14 =>
 Ld H p13 (Nat.add o14 25) fun v15 =>
 AsInt .i64 v15 fun z16 =>
 K .normal (upd (upd (upd (upd (upd (upd (upd (upd (upd (upd (upd (upd (upd (Rz false 44 s1 45 6) 51 (.bool false)) 52 (.bool false)) 52 (.bool false)) 53 (a 8)) 52 (.bool false)) 54 (a 8)) 52 (.bool false)) 55 (ptr p13 (Nat.add o14 25))) 52 (.bool false)) 56 v15) 52 (.bool false)) 57 (.bool (ltZ z16 (Int.ofNat 0)))) 58 (.bool (ltZ z16 (Int.ofNat 0)))) H)))) := by kernel_rfl
theorem hpC2_W (con : CallT) (a : TF) (H : CH) (K : KX) : codeW (sliceC 2 1 (blkC ((flatC (blkC (lpAt Tryz.prog 8 0))).getD 2 .skip))) Tryz.prog con a H K =
 (AsBool (a 58) fun b1 =>
 Cd b1 (
 K (.exit 1) a H) (
 K .normal a H)) := by kernel_rfl
theorem hpC3_W (con : CallT) (a : TF) (H : CH) (K : KX) : codeW (sliceC 3 7 (blkC ((flatC (blkC (lpAt Tryz.prog 8 0))).getD 2 .skip))) Tryz.prog con a H K =
 (LoopC Tryz.prog con (lpAt Tryz.prog 8 1) (upd (upd (upd (upd (upd (upd a 9 (.bool false)) 10 (.bool false)) 11 (.bool false)) 12 (.bool false)) 13 (u64 (0))) 14 (iN (0))) H (fun e => ceP e
 (fun a1 H2 =>
 K .normal a1 H2)
 (fun i3 => fun a1 H2 =>
 Cd (eqN i3 2) (
 K .normal a1 H2) (
 K (.exit i3) a1 H2))
 (fun a1 H2 =>
 K .ret a1 H2))) := by kernel_rfl
theorem hpC10_W (con : CallT) (a : TF) (H : CH) (K : KX) : codeW (sliceC 10 1 (blkC ((flatC (blkC (lpAt Tryz.prog 8 0))).getD 2 .skip))) Tryz.prog con a H K =
 (K .normal (upd a 16 (.bool false)) H) := by kernel_rfl
theorem hpC11_W (con : CallT) (a : TF) (H : CH) (K : KX) : codeW (sliceC 11 1 (blkC ((flatC (blkC (lpAt Tryz.prog 8 0))).getD 2 .skip))) Tryz.prog con a H K =
 (NotNil Tryz.prog (a 8) (
 AsPtr (a 8) fun p1 o2 =>
 Ld H p1 (Nat.add (Nat.add o2 0) 0) fun v3 =>
 AsInt .i64 v3 fun z4 =>
 K .normal (upd (upd (upd (upd (upd (upd a 182 (a 8)) 183 (a 8)) 184 (ptr p1 (Nat.add o2 0))) 185 (ptr p1 (Nat.add (Nat.add o2 0) 0))) 186 v3) 187 (.bool (eqZ z4 (Int.ofNat 2)))) H)) := by kernel_rfl
theorem hpC12_W (con : CallT) (a : TF) (H : CH) (K : KX) : codeW (sliceC 12 1 (blkC ((flatC (blkC (lpAt Tryz.prog 8 0))).getD 2 .skip))) Tryz.prog con a H K =
 (AsBool (a 187) fun b1 =>
 Cd b1 (
 NotNil Tryz.prog (a 8) (
 AsPtr (a 8) fun p2 o3 =>
 Ld H p2 (Nat.add o3 5) fun v4 =>
 Call1 Tryz.prog con 27 [v4] H fun v5 H6 =>
 AsInt .i64 v5 fun z7 =>
 AsWant (a 9) (False) fun b8 =>
 Bnd (upd (upd (upd (upd (upd (upd (upd (upd (upd a 188 (a 8)) 189 (a 8)) 190 (ptr p2 (Nat.add o3 5))) 191 v4) 192 v5) 193 (.bool (eqZ z7 (Int.ofNat 0)))) 16 (.bool (eqZ z7 (Int.ofNat 0)))) 194 (a 9)) 195 (a 9)) fun s1 =>
Cd b8 (
 AsBool (a 12) fun b9 =>
 Bnd (upd (upd (upd (upd (upd (upd s1 195 (.bool true)) 196 (a 12)) 195 (.bool true)) 197 (.bool (notB b9))) 198 (.bool (notB b9))) 199 (.bool (notB b9))) fun s2 =>
Cd (notB b9) (
 Bnd (upd (upd (upd (upd (upd (upd s2 199 (.bool true)) 200 (.bool (eqZ z7 (Int.ofNat 0)))) 199 (.bool true)) 201 (.bool (notB (eqZ z7 (Int.ofNat 0))))) 199 (.bool true)) 202 (.bool (notB (eqZ z7 (Int.ofNat 0))))) fun s3 =>
Cd (notB (eqZ z7 (Int.ofNat 0))) (
 K .ret (upd (upd (upd (upd (Rz true 202 s3 203 7) 199 (.bool true)) 210 (.bool true)) 211 (.bool true)) 2 (.bool false)) H6) (
 NotNil Tryz.prog (a 8) (
 AsPtr (a 8) fun p10 o11 =>
 Ld H6 p10 (Nat.add o11 5) fun v12 =>
 Call1 Tryz.prog con 33 [v12] H6 fun v13 H14 =>
 AsNat .u64 v13 fun n15 =>
 AsNat .u64 (a 13) fun n16 =>
 Bnd (upd (upd (upd (upd (upd (upd (upd (upd (upd (upd (upd (upd (upd (upd (upd (upd (upd s3 202 (.bool false)) 203 (a 8)) 202 (.bool false)) 204 (a 8)) 202 (.bool false)) 205 (ptr p10 (Nat.add o11 5))) 202 (.bool false)) 206 v12) 202 (.bool false)) 207 v13) 202 (.bool false)) 208 (a 13)) 202 (.bool false)) 209 (.bool (notB (eqN n15 n16)))) 199 (.bool true)) 210 (.bool (notB (eqN n15 n16)))) 211 (.bool (notB (eqN n15 n16)))) fun s4 =>
Cd (notB (eqN n15 n16)) (
 K .ret (upd s4 2 (.bool false)) H14) (
 K .normal s4 H14)))) (
 K .normal (upd (upd (upd (upd (upd (upd (upd (upd (upd (upd (upd (upd (upd (upd (upd (upd (upd (Rz false 199 s2 200 3) 202 unit) 203 unit) 202 unit) 204 unit) 202 unit) 205 unit) 202 unit) 206 unit) 202 unit) 207 unit) 202 unit) 208 unit) 202 unit) 209 unit) 199 (.bool false)) 210 unit) 211 (.bool false)) H6)) (
 K .normal (upd (upd (upd (upd (upd (upd (upd (upd (upd (upd (upd (upd (upd (upd (upd (upd (upd (Rz false 199 (upd (upd (Rz false 195 s1 196 2) 198 (.bool false)) 199 (.bool false)) 200 3) 202 unit) 203 unit) 202 unit) 204 unit) 202 unit) 205 unit) 202 unit) 206 unit) 202 unit) 207 unit) 202 unit) 208 unit) 202 unit) 209 unit) 199 (.bool false)) 210 unit) 211 (.bool false)) H6))) (
 NotNil Tryz.prog (a 8) (
 AsPtr (a 8) fun p17 o18 =>
 Ld H p17 (Nat.add o18 6) fun v19 =>
 Call1 Tryz.prog con 34 [v19] H fun v20 H21 =>
 AsInt .i64 v20 fun z22 =>
 AsWant (a 9) (False) fun b23 =>
 Bnd (upd (upd (upd (upd (upd (upd (upd (upd (upd a 212 (a 8)) 213 (a 8)) 214 (ptr p17 (Nat.add o18 6))) 215 v19) 216 v20) 217 (.bool (eqZ z22 (Int.ofNat 0)))) 16 (.bool (eqZ z22 (Int.ofNat 0)))) 218 (a 9)) 219 (a 9)) fun s5 =>
Cd b23 (
 AsBool (a 12) fun b24 =>
 Bnd (upd (upd (upd (upd (upd (upd s5 219 (.bool true)) 220 (a 12)) 219 (.bool true)) 221 (.bool (notB b24))) 222 (.bool (notB b24))) 223 (.bool (notB b24))) fun s6 =>
Cd (notB b24) (
 NotNil Tryz.prog (a 8) (
 AsPtr (a 8) fun p25 o26 =>
 Ld H21 p25 (Nat.add (Nat.add o26 0) 2) fun v27 =>
 AsNat .u64 v27 fun n28 =>
 AsNat .u64 (a 13) fun n29 =>
 Bnd (upd (upd (upd (upd (upd (upd (upd (upd (upd (upd (upd (upd (upd (upd (upd (upd (upd (upd (upd s6 223 (.bool true)) 224 (.bool (eqZ z22 (Int.ofNat 0)))) 223 (.bool true)) 225 (a 8)) 223 (.bool true)) 226 (a 8)) 223 (.bool true)) 227 (ptr p25 (Nat.add o26 0))) 223 (.bool true)) 228 (ptr p25 (Nat.add (Nat.add o26 0) 2))) 223 (.bool true)) 229 v27) 223 (.bool true)) 230 (a 13)) 223 (.bool true)) 231 (.bool (eqN n28 n29))) 223 (.bool true)) 232 (.bool (notB (eqB (eqZ z22 (Int.ofNat 0)) (eqN n28 n29))))) 233 (.bool (notB (eqB (eqZ z22 (Int.ofNat 0)) (eqN n28 n29))))) fun s7 =>
Cd (notB (eqB (eqZ z22 (Int.ofNat 0)) (eqN n28 n29))) (
 K .ret (upd s7 2 (.bool false)) H21) (
 K .normal s7 H21))) (
 K .normal (upd (Rz false 223 s6 224 9) 233 (.bool false)) H21)) (
 K .normal (upd (Rz false 223 (upd (upd (Rz false 219 s5 220 2) 222 (.bool false)) 223 (.bool false)) 224 9) 233 (.bool false)) H21)))) := by kernel_rfl
theorem hpC13_W (con : CallT) (a : TF) (H : CH) (K : KX) : codeW (sliceC 13 1 (blkC ((flatC (blkC (lpAt Tryz.prog 8 0))).getD 2 .skip))) Tryz.prog con a H K =
 (AsWant (a 16) (False) fun b1 =>
 Cd b1 (
 AsWant (a 11) (False) fun b2 =>
 Cd b2 (
 K .normal (upd (upd (upd (Rz true 237 (upd (upd (upd (upd (upd (upd a 234 (a 16)) 235 (a 16)) 235 (.bool true)) 236 (a 11)) 235 (.bool true)) 237 (a 11)) 238 2) 235 (.bool true)) 240 (.bool true)) 241 (.bool true)) H) (
 AsBool (a 10) fun b3 =>
 K .normal (upd (upd (upd (upd (upd (upd (upd (upd (upd (upd (upd (upd (upd a 234 (a 16)) 235 (a 16)) 235 (.bool true)) 236 (a 11)) 235 (.bool true)) 237 (a 11)) 237 (.bool false)) 238 (a 10)) 237 (.bool false)) 239 (.bool (notB b3))) 235 (.bool true)) 240 (.bool (notB b3))) 241 (.bool (notB b3))) H)) (
 K .normal (upd (upd (upd (upd (upd (upd (upd (Rz false 235 (upd (upd a 234 (a 16)) 235 (a 16)) 236 2) 237 unit) 238 unit) 237 unit) 239 unit) 235 (.bool false)) 240 unit) 241 (.bool false)) H)) := by kernel_rfl
theorem hpC14_W (con : CallT) (a : TF) (H : CH) (K : KX) : codeW (dropC 14 (blkC ((flatC (blkC (lpAt Tryz.prog 8 0))).getD 2 .skip))) Tryz.prog con a H K =
 (AsBool (a 241) fun b1 =>
 Cd b1 (
 K .ret (upd a 2 (.bool false)) H) (
 K .normal a H)) := by kernel_rfl
theorem hpD0_W (con : CallT) (a : TF) (H : CH) (K : KX) : codeW (takeC 1 (blkC ((flatC (blkC (lpAt Tryz.prog 8 1))).getD 2 .skip))) Tryz.prog con a H K =
 (AsSlc (a 3) fun p1 o2 l3 c4 =>
 AsCnt (a 14) fun n5 =>
 Must (ltN n5 l3) (
 Ld H p1 (Nat.add o2 (Nat.mul n5 1)) fun v6 =>
 K .normal (upd (upd (upd (upd (upd a 65 (a 3)) 66 (a 14)) 67 (ptr p1 (Nat.add o2 (Nat.mul n5 1)))) 68 v6) 15 v6) H)) := by kernel_rfl
theorem hpD1_W (con : CallT) (a : TF) (H : CH) (K : KX) : codeW (sliceC 1 1 (blkC ((flatC (blkC (lpAt Tryz.prog 8 1))).getD 2 .skip))) Tryz.prog con a H K =
 (NotNil Tryz.prog (a 15) (
 AsPtr (a 15) fun p1 o2 =>
 Ld H p1 (Nat.add (Nat.add o2 0) 0) fun v3 =>
 AsInt .i64 v3 fun z4 =>
 Bnd (upd (upd (upd (upd (upd (upd (upd a 69 (a 15)) 70 (a 15)) 71 (ptr p1 (Nat.add o2 0))) 72 (ptr p1 (Nat.add (Nat.add o2 0) 0))) 73 v3) 74 (.bool (eqZ z4 (Int.ofNat 0)))) 75 (.bool (eqZ z4 (Int.ofNat 0)))) fun s1 =>
Cd (eqZ z4 (Int.ofNat 0)) (
 NotNil Tryz.prog (a 15) (
 AsPtr (a 15) fun p5 o6 =>
 Ld H p5 (Nat.add o6 25) fun v7 =>
 AsInt .i64 v7 fun z8 =>
 Bnd (upd (upd (upd (upd (upd (upd (upd (upd (upd (upd (upd (upd s1 75 (.bool true)) 76 (a 15)) 75 (.bool true)) 77 (a 15)) 75 (.bool true)) 78 (ptr p5 (Nat.add o6 25))) 75 (.bool true)) 79 v7) 75 (.bool true)) 80 (.bool (leZ (Int.ofNat 0) z8))) 81 (.bool (leZ (Int.ofNat 0) z8))) 82 (.bool (leZ (Int.ofNat 0) z8))) fun s2 =>
Cd (leZ (Int.ofNat 0) z8) (
 NotNil Tryz.prog (a 15) (
 AsPtr (a 15) fun p9 o10 =>
 Ld H p9 (Nat.add o10 3) fun v11 =>
 Call1 Tryz.prog con 29 [v11] H fun v12 H13 =>
 AsInt .i64 v12 fun z14 =>
 Bnd (upd (upd (upd (upd (upd (upd (upd (upd (upd (upd (upd (upd (upd (upd s2 82 (.bool true)) 83 (a 15)) 82 (.bool true)) 84 (a 15)) 82 (.bool true)) 85 (ptr p9 (Nat.add o10 3))) 82 (.bool true)) 86 v11) 82 (.bool true)) 87 v12) 82 (.bool true)) 88 (.bool (eqZ z14 (Int.ofNat 0)))) 89 (.bool (eqZ z14 (Int.ofNat 0)))) 90 (.bool (eqZ z14 (Int.ofNat 0)))) fun s3 =>
Cd (eqZ z14 (Int.ofNat 0)) (
 NotNil Tryz.prog (a 15) (
 AsPtr (a 15) fun p15 o16 =>
 Ld H13 p15 (Nat.add o16 3) fun v17 =>
 Call1 Tryz.prog con 30 [v17] H13 fun v18 H19 =>
 NotNil Tryz.prog (a 8) (
 AsPtr (a 8) fun p20 o21 =>
 Ld H19 p20 (Nat.add (Nat.add o21 0) 1) fun v22 =>
 AsNat .u64 v18 fun n23 =>
 AsNat .u64 v22 fun n24 =>
 Bnd (upd (upd (upd (upd (upd (upd (upd (upd (upd (upd (upd (upd (upd (upd (upd (upd (upd (upd (upd (upd (upd (upd (upd (upd s3 90 (.bool true)) 91 (a 15)) 90 (.bool true)) 92 (a 15)) 90 (.bool true)) 93 (ptr p15 (Nat.add o16 3))) 90 (.bool true)) 94 v17) 90 (.bool true)) 95 v18) 90 (.bool true)) 96 (a 8)) 90 (.bool true)) 97 (a 8)) 90 (.bool true)) 98 (ptr p20 (Nat.add o21 0))) 90 (.bool true)) 99 (ptr p20 (Nat.add (Nat.add o21 0) 1))) 90 (.bool true)) 100 v22) 90 (.bool true)) 101 (.bool (eqN n23 n24))) 102 (.bool (eqN n23 n24))) 103 (.bool (eqN n23 n24))) fun s4 =>
Cd (eqN n23 n24) (
 NotNil Tryz.prog (a 15) (
 AsPtr (a 15) fun p25 o26 =>
 Ld H19 p25 (Nat.add o26 24) fun v27 =>
 NotNil Tryz.prog (a 8) (
 AsPtr (a 8) fun p28 o29 =>
 Ld H19 p28 (Nat.add o29 25) fun v30 =>
 AsInt .i64 v27 fun z31 =>
 AsInt .i64 v30 fun z32 =>
 Ld H13 p20 (Nat.add (Nat.add o21 0) 1) fun v33 =>
 Same v22 v33 (
 Ld H19 p20 (Nat.add (Nat.add o21 0) 1) fun v34 =>
 Same v22 v34 (
 K .normal (upd (upd (upd (upd (upd (upd (upd (upd (upd (upd (upd (upd (upd (upd (upd (upd (upd (upd (upd s4 103 (.bool true)) 104 (a 15)) 103 (.bool true)) 105 (a 15)) 103 (.bool true)) 106 (ptr p25 (Nat.add o26 24))) 103 (.bool true)) 107 v27) 103 (.bool true)) 108 (a 8)) 103 (.bool true)) 109 (a 8)) 103 (.bool true)) 110 (ptr p28 (Nat.add o29 25))) 103 (.bool true)) 111 v30) 103 (.bool true)) 112 (.bool (ltZ z31 z32))) 113 (.bool (ltZ z31 z32))) H19))))) (
 Ld H13 p20 (Nat.add (Nat.add o21 0) 1) fun v35 =>
 Same v22 v35 (
 Ld H19 p20 (Nat.add (Nat.add o21 0) 1) fun v36 =>
 Same v22 v36 (
 K .normal (upd (Rz false 103 s4 104 9) 113 (.bool false)) H19)))))) (
 K .normal (upd (Rz false 103 (upd (upd (Rz false 90 s3 91 11) 102 (.bool false)) 103 (.bool false)) 104 9) 113 (.bool false)) H13))) (
 K .normal (upd (Rz false 103 (upd (upd (Rz false 90 (upd (upd (Rz false 82 s2 83 6) 89 (.bool false)) 90 (.bool false)) 91 11) 102 (.bool false)) 103 (.bool false)) 104 9) 113 (.bool false)) H))) (
 K .normal (upd (Rz false 103 (upd (upd (Rz false 90 (upd (upd (Rz false 82 (upd (upd (Rz false 75 s1 76 5) 81 (.bool false)) 82 (.bool false)) 83 6) 89 (.bool false)) 90 (.bool false)) 91 11) 102 (.bool false)) 103 (.bool false)) 104 9) 113 (.bool false)) H))) := by kernel_rfl
theorem hpD2_W (con : CallT) (a : TF) (H : CH) (K : KX) : codeW (sliceC 2 1 (blkC ((flatC (blkC (lpAt Tryz.prog 8 1))).getD 2 .skip))) Tryz.prog con a H K =
 (AsBool (a 113) fun b1 =>
 Cd b1 (
 NotNil Tryz.prog (a 15) (
 AsPtr (a 15) fun p2 o3 =>
 Ld H p2 (Nat.add o3 25) fun v4 =>
 NotNil Tryz.prog (a 8) (
 AsPtr (a 8) fun p5 o6 =>
 Ld H p5 (Nat.add o6 24) fun v7 =>
 AsInt .i64 v4 fun z8 =>
 AsInt .i64 v7 fun z9 =>
 Bnd (upd (upd (upd (upd (upd (upd (upd (upd (upd (upd a 10 (.bool true)) 114 (a 15)) 115 (a 15)) 116 (ptr p2 (Nat.add o3 25))) 117 v4) 118 (a 8)) 119 (a 8)) 120 (ptr p5 (Nat.add o6 24))) 121 v7) 122 (.bool (ltZ z8 z9))) fun s1 =>
Cd (ltZ z8 z9) (
 NotNil Tryz.prog (a 15) (
 AsPtr (a 15) fun p10 o11 =>
 Ld H p10 (Nat.add o11 3) fun v12 =>
 Call1 Tryz.prog con 31 [v12] H fun v13 H14 =>
 K .normal (upd (upd (upd (upd (upd (upd (upd s1 9 (.bool true)) 123 (a 15)) 124 (a 15)) 125 (ptr p10 (Nat.add o11 3))) 126 v12) 127 v13) 13 v13) H14)) (
 K .normal s1 H)))) (
 K .normal a H)) := by kernel_rfl
theorem hpD3_W (con : CallT) (a : TF) (H : CH) (K : KX) : codeW (sliceC 3 1 (blkC ((flatC (blkC (lpAt Tryz.prog 8 1))).getD 2 .skip))) Tryz.prog con a H K =
 (NotNil Tryz.prog (a 15) (
 AsPtr (a 15) fun p1 o2 =>
 Ld H p1 (Nat.add (Nat.add o2 0) 0) fun v3 =>
 AsInt .i64 v3 fun z4 =>
 Bnd (upd (upd (upd (upd (upd (upd (upd a 128 (a 15)) 129 (a 15)) 130 (ptr p1 (Nat.add o2 0))) 131 (ptr p1 (Nat.add (Nat.add o2 0) 0))) 132 v3) 133 (.bool (eqZ z4 (Int.ofNat 1)))) 134 (.bool (eqZ z4 (Int.ofNat 1)))) fun s1 =>
Cd (eqZ z4 (Int.ofNat 1)) (
 NotNil Tryz.prog (a 15) (
 AsPtr (a 15) fun p5 o6 =>
 Ld H p5 (Nat.add (Nat.add o6 0) 1) fun v7 =>
 NotNil Tryz.prog (a 8) (
 AsPtr (a 8) fun p8 o9 =>
 Ld H p8 (Nat.add (Nat.add o9 0) 1) fun v10 =>
 AsNat .u64 v7 fun n11 =>
 AsNat .u64 v10 fun n12 =>
 Bnd (upd (upd (upd (upd (upd (upd (upd (upd (upd (upd (upd (upd (upd (upd (upd (upd (upd (upd (upd (upd (upd (upd (upd (upd s1 134 (.bool true)) 135 (a 15)) 134 (.bool true)) 136 (a 15)) 134 (.bool true)) 137 (ptr p5 (Nat.add o6 0))) 134 (.bool true)) 138 (ptr p5 (Nat.add (Nat.add o6 0) 1))) 134 (.bool true)) 139 v7) 134 (.bool true)) 140 (a 8)) 134 (.bool true)) 141 (a 8)) 134 (.bool true)) 142 (ptr p8 (Nat.add o9 0))) 134 (.bool true)) 143 (ptr p8 (Nat.add (Nat.add o9 0) 1))) 134 (.bool true)) 144 v10) 134 (.bool true)) 145 (.bool (eqN n11 n12))) 146 (.bool (eqN n11 n12))) 147 (.bool (eqN n11 n12))) fun s2 =>
Cd (eqN n11 n12) (
 NotNil Tryz.prog (a 15) (
 AsPtr (a 15) fun p13 o14 =>
 Ld H p13 (Nat.add o14 24) fun v15 =>
 NotNil Tryz.prog (a 8) (
 AsPtr (a 8) fun p16 o17 =>
 Ld H p16 (Nat.add o17 25) fun v18 =>
 AsInt .i64 v15 fun z19 =>
 AsInt .i64 v18 fun z20 =>
 K .normal (upd (upd (upd (upd (upd (upd (upd (upd (upd (upd (upd (upd (upd (upd (upd (upd (upd (upd (upd s2 147 (.bool true)) 148 (a 15)) 147 (.bool true)) 149 (a 15)) 147 (.bool true)) 150 (ptr p13 (Nat.add o14 24))) 147 (.bool true)) 151 v15) 147 (.bool true)) 152 (a 8)) 147 (.bool true)) 153 (a 8)) 147 (.bool true)) 154 (ptr p16 (Nat.add o17 25))) 147 (.bool true)) 155 v18) 147 (.bool true)) 156 (.bool (ltZ z19 z20))) 157 (.bool (ltZ z19 z20))) H))) (
 K .normal (upd (Rz false 147 s2 148 9) 157 (.bool false)) H)))) (
 K .normal (upd (Rz false 147 (upd (upd (Rz false 134 s1 135 11) 146 (.bool false)) 147 (.bool false)) 148 9) 157 (.bool false)) H))) := by kernel_rfl
theorem hpD4_W (con : CallT) (a : TF) (H : CH) (K : KX) : codeW (sliceC 4 1 (blkC ((flatC (blkC (lpAt Tryz.prog 8 1))).getD 2 .skip))) Tryz.prog con a H K =
 (AsBool (a 157) fun b1 =>
 Bnd (upd (upd (upd a 12 (.bool true)) 158 (a 15)) 159 (a 15)) fun s1 =>
Cd b1 (
 NotNil Tryz.prog (a 15) (
 AsPtr (a 15) fun p2 o3 =>
 Ld H p2 (Nat.add o3 25) fun v4 =>
 AsInt .i64 v4 fun z5 =>
 Bnd (upd (upd (upd (upd s1 160 (ptr p2 (Nat.add o3 25))) 161 v4) 162 (.bool (leZ (Int.ofNat 0) z5))) 163 (.bool (leZ (Int.ofNat 0) z5))) fun s2 =>
Cd (leZ (Int.ofNat 0) z5) (
 NotNil Tryz.prog (a 15) (
 AsPtr (a 15) fun p6 o7 =>
 Ld H p6 (Nat.add o7 25) fun v8 =>
 NotNil Tryz.prog (a 8) (
 AsPtr (a 8) fun p9 o10 =>
 Ld H p9 (Nat.add o10 24) fun v11 =>
 AsInt .i64 v8 fun z12 =>
 AsInt .i64 v11 fun z13 =>
 Bnd (upd (upd (upd (upd (upd (upd (upd (upd (upd (upd (upd (upd (upd (upd (upd (upd (upd (upd (upd (upd s2 163 (.bool true)) 164 (a 15)) 163 (.bool true)) 165 (a 15)) 163 (.bool true)) 166 (ptr p6 (Nat.add o7 25))) 163 (.bool true)) 167 v8) 163 (.bool true)) 168 (a 8)) 163 (.bool true)) 169 (a 8)) 163 (.bool true)) 170 (ptr p9 (Nat.add o10 24))) 163 (.bool true)) 171 v11) 163 (.bool true)) 172 (.bool (ltZ z12 z13))) 173 (.bool (ltZ z12 z13))) 174 (.bool (ltZ z12 z13))) fun s3 =>
Cd (ltZ z12 z13) (
 NotNil Tryz.prog (a 15) (
 AsPtr (a 15) fun p14 o15 =>
 Ld H p14 (Nat.add o15 4) fun v16 =>
 Call1 Tryz.prog con 32 [v16] H fun v17 H18 =>
 AsInt .i64 v17 fun z19 =>
 Bnd (upd (upd (upd (upd (upd (upd (upd (upd (upd (upd (upd (upd (upd s3 174 (.bool true)) 175 (a 15)) 174 (.bool true)) 176 (a 15)) 174 (.bool true)) 177 (ptr p14 (Nat.add o15 4))) 174 (.bool true)) 178 v16) 174 (.bool true)) 179 v17) 174 (.bool true)) 180 (.bool (eqZ z19 (Int.ofNat 0)))) 181 (.bool (eqZ z19 (Int.ofNat 0)))) fun s4 =>
Cd (eqZ z19 (Int.ofNat 0)) (
 K .normal (upd s4 11 (.bool true)) H18) (
 K .normal s4 H18))) (
 K .normal (upd (Rz false 174 s3 175 6) 181 (.bool false)) H)))) (
 K .normal (upd (Rz false 174 (upd (upd (Rz false 163 s2 164 9) 173 (.bool false)) 174 (.bool false)) 175 6) 181 (.bool false)) H))) (
 K .normal a H)) := by kernel_rfl
theorem hpD5_W (con : CallT) (a : TF) (H : CH) (K : KX) : codeW (dropC 5 (blkC ((flatC (blkC (lpAt Tryz.prog 8 1))).getD 2 .skip))) Tryz.prog con a H K =
 (K .normal a H) := by kernel_rfl
end Go.Proofs.YtocphcgcpjcfjaaGreat

