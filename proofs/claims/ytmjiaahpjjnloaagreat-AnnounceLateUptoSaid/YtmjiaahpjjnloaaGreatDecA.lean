/- What some functions' texts ask for, step by step, each checked by the kernel. No conditions. -/
import Derived.Test.YtmjiaahpjjnloaaGreatProg
import Derived.Test.YtmjiaahpjjnloaaGreatCmE
set_option linter.unusedVariables false
set_option linter.unusedSimpArgs false

/- What some functions' texts ask for, step by step, each checked by the kernel. No conditions. -/
set_option linter.unusedVariables false
set_option maxRecDepth 100000
namespace Go.Proofs.YtmjiaahpjjnloaaGreat
open Go Go.CM
theorem annLate_W (con : CallT) (n : Int) (most : Nat) (v w : Value) (H : CH) (K : KP) : funW Tryz.prog con 4 [.agg ⟨[i64 n, u64 most, v, w]⟩] H K =
 (Nw H (mkRow 26 0 [(i64 n), (u64 (most)), v, w]) fun p1 H2 =>
 Ld H2 p1 0 fun v3 =>
 Ld H2 p1 1 fun v4 =>
 Ld H2 p1 2 fun v5 =>
 Ld H2 p1 3 fun v6 =>
 Call1 Tryz.prog con 14 [(.agg ⟨[v3, v4, v5, v6]⟩)] H2 fun v7 H8 =>
 AsTup v7 fun l9 =>
 Nth l9 0 fun v10 =>
 AsTup v7 fun l11 =>
 Nth l11 1 fun v12 =>
 AsTup v7 fun l13 =>
 Nth l13 2 fun v14 =>
 Nw H8 (mkRow 29 0 [(u64 (0)), (u64 (0)), (iN (0)), (u64 (0))]) fun p15 H16 =>
 AsAgg v12 fun l17 =>
 Must (eqN (lenF l17) 4) (
 Nth l17 0 fun v18 =>
 Nth l17 1 fun v19 =>
 Nth l17 2 fun v20 =>
 Nth l17 3 fun v21 =>
 St H16 p15 0 [v18, v19, v20, v21] fun H22 =>
 Call1 Tryz.prog con 15 [] H22 fun v23 H24 =>
 AsBool v23 fun b25 =>
 Cd (notB b25) (
 K (.bool false) H24) (
 Ld H24 p1 0 fun v26 =>
 Ld H24 p1 1 fun v27 =>
 Ld H24 p1 2 fun v28 =>
 Ld H24 p1 3 fun v29 =>
 Call1 Tryz.prog con 16 [(.agg ⟨[v26, v27, v28, v29]⟩)] H24 fun v30 H31 =>
 AsBool v14 fun b32 =>
 AsBool v30 fun b33 =>
 Cd (notB (eqB b32 b33)) (
 K (.bool false) H31) (
 AsBool v14 fun b34 =>
 Cd (notB b34) (
 K (.bool true) H31) (
 Ld H31 p15 0 fun v35 =>
 Ld H31 p15 1 fun v36 =>
 Ld H31 p15 2 fun v37 =>
 Ld H31 p15 3 fun v38 =>
 Ld H31 p1 0 fun v39 =>
 Ld H31 p1 1 fun v40 =>
 Ld H31 p1 2 fun v41 =>
 Ld H31 p1 3 fun v42 =>
 Call1 Tryz.prog con 17 [v10, (.agg ⟨[v35, v36, v37, v38]⟩), (.agg ⟨[v39, v40, v41, v42]⟩)] H31 fun v43 H44 =>
 AsTup v43 fun l45 =>
 Nth l45 0 fun v46 =>
 AsTup v43 fun l47 =>
 Nth l47 1 fun v48 =>
 LoopC Tryz.prog con (lpAt Tryz.prog 4 0) (upd (upd (upd (upd (upd (upd (upd (upd (upd (upd (upd (upd (upd (upd (upd (upd (upd (upd (upd (upd (upd (upd (upd (upd (upd (upd (upd (upd (upd (upd (upd (upd (upd (upd (upd (upd (fun _ => undV) 0 (.agg ⟨[(i64 n), (u64 (most)), v, w]⟩)) 1 (ptr p1 0)) 2 (.bool false)) 12 (.agg ⟨[v3, v4, v5, v6]⟩)) 13 v7) 11 v7) 14 v10) 15 v12) 16 v14) 4 (ptr p15 0)) 3 v10) 5 v14) 17 v23) 18 (.bool (notB b25))) 19 (.bool (notB b25))) 19 (.bool false)) 20 v14) 19 (.bool false)) 21 (.agg ⟨[v26, v27, v28, v29]⟩)) 19 (.bool false)) 22 v30) 19 (.bool false)) 23 (.bool (notB (eqB b32 b33)))) 24 (.bool (notB (eqB b32 b33)))) 25 v14) 26 (.bool (notB b34))) 28 v10) 29 (.agg ⟨[v35, v36, v37, v38]⟩)) 30 (.agg ⟨[v39, v40, v41, v42]⟩)) 31 v43) 27 v43) 32 v46) 33 v48) 6 v46) 7 v48) 8 (iN (0))) H44 (fun e => ceP e
 (fun a49 H50 =>
 K (.bool true) H50)
 (fun i51 => fun a49 H50 =>
 Cd (eqN i51 0) (
 K (.bool true) H50) (
 False))
 (fun a49 H50 =>
 K (a49 2) H50))))))) := by kernel_rfl
theorem annLateA_W (con : CallT) (a : TF) (H : CH) (K : KX) : codeW (lpAt Tryz.prog 4 0) Tryz.prog con a H K =
 (AsLen (a 7) fun l1 =>
 AsInt .i64 (a 8) fun z2 =>
 Cd (ltZ z2 (Int.ofNat l1)) (
 AsSlc (a 7) fun p3 o4 l5 c6 =>
 AsCnt (a 8) fun n7 =>
 Must (ltN n7 l5) (
 Ld H p3 (Nat.add (Nat.add (Nat.add o4 (Nat.mul n7 11)) 9) 0) fun v8 =>
 AsInt .i64 v8 fun z9 =>
 Cd (notB (eqZ z9 (Int.ofNat 2))) (
 AsInt .i64 (a 8) fun z10 =>
 InR (Int.add z10 (Int.ofNat 1)) (
 K .normal (upd (upd (upd (upd (upd (upd (upd (upd (upd (upd (upd (upd (upd (upd (upd (upd (upd (upd (upd (upd (upd (upd (upd (upd (upd (upd (upd (upd a 34 (a 8)) 35 (a 7)) 36 (iN (l1))) 37 (.bool (ltZ z2 (Int.ofNat l1)))) 40 (a 7)) 41 (a 8)) 42 (ptr p3 (Nat.add o4 (Nat.mul n7 11)))) 43 (ptr p3 (Nat.add (Nat.add o4 (Nat.mul n7 11)) 9))) 44 (ptr p3 (Nat.add (Nat.add (Nat.add o4 (Nat.mul n7 11)) 9) 0))) 45 v8) 46 (.bool (notB (eqZ z9 (Int.ofNat 2))))) 47 (.bool (notB (eqZ z9 (Int.ofNat 2))))) 47 (.bool true)) 48 (.tuple ⟨[]⟩)) 47 (.bool true)) 49 (.tuple ⟨[]⟩)) 47 (.bool true)) 50 (.tuple ⟨[]⟩)) 47 (.bool true)) 51 (.tuple ⟨[]⟩)) 47 (.bool true)) 52 (.tuple ⟨[]⟩)) 47 (.bool true)) 53 (.tuple ⟨[]⟩)) 54 (.bool true)) 38 (a 8)) 39 (i64 (Int.add z10 (Int.ofNat 1)))) 8 (i64 (Int.add z10 (Int.ofNat 1)))) H)) (
 AsSlc (a 7) fun p11 o12 l13 c14 =>
 AsCnt (a 8) fun n15 =>
 Must (ltN n15 l13) (
 Ld H p11 (Nat.add (Nat.add o12 (Nat.mul n15 11)) 7) fun v16 =>
 AsInt .i64 v16 fun z17 =>
 Cd (ltZ z17 (Int.ofNat 0)) (
 AsInt .i64 (a 8) fun z18 =>
 InR (Int.add z18 (Int.ofNat 1)) (
 K .normal (upd (upd (upd (upd (upd (upd (upd (upd (upd (upd (upd (upd (upd (upd (upd (upd (upd (upd (upd (upd (upd (upd (upd (upd (upd (upd (upd (upd a 34 (a 8)) 35 (a 7)) 36 (iN (l1))) 37 (.bool (ltZ z2 (Int.ofNat l1)))) 40 (a 7)) 41 (a 8)) 42 (ptr p3 (Nat.add o4 (Nat.mul n7 11)))) 43 (ptr p3 (Nat.add (Nat.add o4 (Nat.mul n7 11)) 9))) 44 (ptr p3 (Nat.add (Nat.add (Nat.add o4 (Nat.mul n7 11)) 9) 0))) 45 v8) 46 (.bool (notB (eqZ z9 (Int.ofNat 2))))) 47 (.bool (notB (eqZ z9 (Int.ofNat 2))))) 47 (.bool false)) 48 (a 7)) 47 (.bool false)) 49 (a 8)) 47 (.bool false)) 50 (ptr p11 (Nat.add o12 (Nat.mul n15 11)))) 47 (.bool false)) 51 (ptr p11 (Nat.add (Nat.add o12 (Nat.mul n15 11)) 7))) 47 (.bool false)) 52 v16) 47 (.bool false)) 53 (.bool (ltZ z17 (Int.ofNat 0)))) 54 (.bool (ltZ z17 (Int.ofNat 0)))) 38 (a 8)) 39 (i64 (Int.add z18 (Int.ofNat 1)))) 8 (i64 (Int.add z18 (Int.ofNat 1)))) H)) (
 LoopC Tryz.prog con (lpAt Tryz.prog 4 1) (upd (upd (upd (upd (upd (upd (upd (upd (upd (upd (upd (upd (upd (upd (upd (upd (upd (upd (upd (upd (upd (upd (upd (upd (upd (upd a 34 (a 8)) 35 (a 7)) 36 (iN (l1))) 37 (.bool (ltZ z2 (Int.ofNat l1)))) 40 (a 7)) 41 (a 8)) 42 (ptr p3 (Nat.add o4 (Nat.mul n7 11)))) 43 (ptr p3 (Nat.add (Nat.add o4 (Nat.mul n7 11)) 9))) 44 (ptr p3 (Nat.add (Nat.add (Nat.add o4 (Nat.mul n7 11)) 9) 0))) 45 v8) 46 (.bool (notB (eqZ z9 (Int.ofNat 2))))) 47 (.bool (notB (eqZ z9 (Int.ofNat 2))))) 47 (.bool false)) 48 (a 7)) 47 (.bool false)) 49 (a 8)) 47 (.bool false)) 50 (ptr p11 (Nat.add o12 (Nat.mul n15 11)))) 47 (.bool false)) 51 (ptr p11 (Nat.add (Nat.add o12 (Nat.mul n15 11)) 7))) 47 (.bool false)) 52 v16) 47 (.bool false)) 53 (.bool (ltZ z17 (Int.ofNat 0)))) 54 (.bool (ltZ z17 (Int.ofNat 0)))) 9 (iN (0))) H (fun e => ceP e
 (fun a19 H20 =>
 AsInt .i64 (a19 8) fun z22 =>
 InR (Int.add z22 (Int.ofNat 1)) (
 K .normal (upd (upd (upd a19 38 (a19 8)) 39 (i64 (Int.add z22 (Int.ofNat 1)))) 8 (i64 (Int.add z22 (Int.ofNat 1)))) H20))
 (fun i21 => fun a19 H20 =>
 Cd (eqN i21 2) (
 AsInt .i64 (a19 8) fun z23 =>
 InR (Int.add z23 (Int.ofNat 1)) (
 K .normal (upd (upd (upd a19 38 (a19 8)) 39 (i64 (Int.add z23 (Int.ofNat 1)))) 8 (i64 (Int.add z23 (Int.ofNat 1)))) H20)) (
 Cd (eqN i21 1) (
 AsInt .i64 (a19 8) fun z24 =>
 InR (Int.add z24 (Int.ofNat 1)) (
 K .normal (upd (upd (upd a19 38 (a19 8)) 39 (i64 (Int.add z24 (Int.ofNat 1)))) 8 (i64 (Int.add z24 (Int.ofNat 1)))) H20)) (
 K (.exit i21) a19 H20)))
 (fun a19 H20 =>
 K .ret a19 H20))))))) (
 K (.exit 0) (upd (upd (upd (upd a 34 (a 8)) 35 (a 7)) 36 (iN (l1))) 37 (.bool (ltZ z2 (Int.ofNat l1)))) H)) := by kernel_rfl
theorem annLateB_W (con : CallT) (a : TF) (H : CH) (K : KX) : codeW (lpAt Tryz.prog 4 1) Tryz.prog con a H K =
 (AsLen (a 7) fun l1 =>
 AsInt .i64 (a 9) fun z2 =>
 Cd (ltZ z2 (Int.ofNat l1)) (
 AsSlc (a 7) fun p3 o4 l5 c6 =>
 AsCnt (a 9) fun n7 =>
 Must (ltN n7 l5) (
 Ld H p3 (Nat.add (Nat.add o4 (Nat.mul n7 11)) 0) fun v8 =>
 Ld H p3 (Nat.add (Nat.add o4 (Nat.mul n7 11)) 1) fun v9 =>
 Ld H p3 (Nat.add (Nat.add o4 (Nat.mul n7 11)) 2) fun v10 =>
 Ld H p3 (Nat.add (Nat.add o4 (Nat.mul n7 11)) 3) fun v11 =>
 Ld H p3 (Nat.add (Nat.add o4 (Nat.mul n7 11)) 4) fun v12 =>
 Ld H p3 (Nat.add (Nat.add o4 (Nat.mul n7 11)) 5) fun v13 =>
 Ld H p3 (Nat.add (Nat.add o4 (Nat.mul n7 11)) 6) fun v14 =>
 Ld H p3 (Nat.add (Nat.add o4 (Nat.mul n7 11)) 7) fun v15 =>
 Ld H p3 (Nat.add (Nat.add o4 (Nat.mul n7 11)) 8) fun v16 =>
 Ld H p3 (Nat.add (Nat.add o4 (Nat.mul n7 11)) 9) fun v17 =>
 Ld H p3 (Nat.add (Nat.add o4 (Nat.mul n7 11)) 10) fun v18 =>
 Nw H (mkRow 47 0 [(u64 (0)), (u64 (0)), (iN (0)), (u64 (0)), (snil), (.bool false), (iN (0)), (iN (0)), (iN (0)), (iN (0)), (u64 (0))]) fun p19 H20 =>
 St H20 p19 0 [v8, v9, v10, v11, v12, v13, v14, v15, v16, v17, v18] fun H21 =>
 Ld H21 p19 9 fun v22 =>
 AsInt .i64 v22 fun z23 =>
 Cd (notB (eqZ z23 (Int.ofNat 0))) (
 AsInt .i64 (a 9) fun z24 =>
 InR (Int.add z24 (Int.ofNat 1)) (
 K .normal (upd (upd (upd (upd (upd (upd (upd (upd (upd (upd (upd (upd (upd (upd (upd (upd (upd (upd (upd (upd (upd (upd (upd (upd (upd (upd (upd (upd (upd (upd (upd (upd (upd (upd (upd (upd (upd (upd (upd (upd (upd (upd (upd (upd (upd (upd (upd (upd (upd (upd (upd (upd (upd (upd (upd (upd a 55 (a 9)) 56 (a 7)) 57 (iN (l1))) 58 (.bool (ltZ z2 (Int.ofNat l1)))) 61 (a 7)) 62 (a 9)) 63 (ptr p3 (Nat.add o4 (Nat.mul n7 11)))) 64 (.agg ⟨[v8, v9, v10, v11, v12, v13, v14, v15, v16, v17, v18]⟩)) 10 (ptr p19 0)) 65 (ptr p19 9)) 66 (ptr p19 9)) 67 v22) 68 (.bool (notB (eqZ z23 (Int.ofNat 0))))) 69 (.bool (notB (eqZ z23 (Int.ofNat 0))))) 69 (.bool true)) 70 (.tuple ⟨[]⟩)) 69 (.bool true)) 71 (.tuple ⟨[]⟩)) 69 (.bool true)) 72 (.tuple ⟨[]⟩)) 73 (.bool true)) 74 (.bool true)) 74 (.bool true)) 75 (.tuple ⟨[]⟩)) 74 (.bool true)) 76 (.tuple ⟨[]⟩)) 74 (.bool true)) 77 (.tuple ⟨[]⟩)) 74 (.bool true)) 78 (.tuple ⟨[]⟩)) 79 (.bool true)) 80 (.bool true)) 80 (.bool true)) 81 (.tuple ⟨[]⟩)) 80 (.bool true)) 82 (.tuple ⟨[]⟩)) 80 (.bool true)) 83 (.tuple ⟨[]⟩)) 80 (.bool true)) 84 (.tuple ⟨[]⟩)) 80 (.bool true)) 85 (.tuple ⟨[]⟩)) 80 (.bool true)) 86 (.tuple ⟨[]⟩)) 80 (.bool true)) 87 (.tuple ⟨[]⟩)) 80 (.bool true)) 88 (.tuple ⟨[]⟩)) 80 (.bool true)) 89 (.tuple ⟨[]⟩)) 80 (.bool true)) 90 (.tuple ⟨[]⟩)) 91 (.bool true)) 59 (a 9)) 60 (i64 (Int.add z24 (Int.ofNat 1)))) 9 (i64 (Int.add z24 (Int.ofNat 1)))) H21)) (
 Ld H21 p19 7 fun v25 =>
 AsInt .i64 v25 fun z26 =>
 Cd (ltZ z26 (Int.ofNat 0)) (
 AsInt .i64 (a 9) fun z27 =>
 InR (Int.add z27 (Int.ofNat 1)) (
 K .normal (upd (upd (upd (upd (upd (upd (upd (upd (upd (upd (upd (upd (upd (upd (upd (upd (upd (upd (upd (upd (upd (upd (upd (upd (upd (upd (upd (upd (upd (upd (upd (upd (upd (upd (upd (upd (upd (upd (upd (upd (upd (upd (upd (upd (upd (upd (upd (upd (upd (upd (upd (upd (upd (upd (upd (upd a 55 (a 9)) 56 (a 7)) 57 (iN (l1))) 58 (.bool (ltZ z2 (Int.ofNat l1)))) 61 (a 7)) 62 (a 9)) 63 (ptr p3 (Nat.add o4 (Nat.mul n7 11)))) 64 (.agg ⟨[v8, v9, v10, v11, v12, v13, v14, v15, v16, v17, v18]⟩)) 10 (ptr p19 0)) 65 (ptr p19 9)) 66 (ptr p19 9)) 67 v22) 68 (.bool (notB (eqZ z23 (Int.ofNat 0))))) 69 (.bool (notB (eqZ z23 (Int.ofNat 0))))) 69 (.bool false)) 70 (ptr p19 7)) 69 (.bool false)) 71 v25) 69 (.bool false)) 72 (.bool (ltZ z26 (Int.ofNat 0)))) 73 (.bool (ltZ z26 (Int.ofNat 0)))) 74 (.bool (ltZ z26 (Int.ofNat 0)))) 74 (.bool true)) 75 (.tuple ⟨[]⟩)) 74 (.bool true)) 76 (.tuple ⟨[]⟩)) 74 (.bool true)) 77 (.tuple ⟨[]⟩)) 74 (.bool true)) 78 (.tuple ⟨[]⟩)) 79 (.bool true)) 80 (.bool true)) 80 (.bool true)) 81 (.tuple ⟨[]⟩)) 80 (.bool true)) 82 (.tuple ⟨[]⟩)) 80 (.bool true)) 83 (.tuple ⟨[]⟩)) 80 (.bool true)) 84 (.tuple ⟨[]⟩)) 80 (.bool true)) 85 (.tuple ⟨[]⟩)) 80 (.bool true)) 86 (.tuple ⟨[]⟩)) 80 (.bool true)) 87 (.tuple ⟨[]⟩)) 80 (.bool true)) 88 (.tuple ⟨[]⟩)) 80 (.bool true)) 89 (.tuple ⟨[]⟩)) 80 (.bool true)) 90 (.tuple ⟨[]⟩)) 91 (.bool true)) 59 (a 9)) 60 (i64 (Int.add z27 (Int.ofNat 1)))) 9 (i64 (Int.add z27 (Int.ofNat 1)))) H21)) (
 Ld H21 p19 2 fun v28 =>
 AsInt .i64 v28 fun z29 =>
 Cd (notB (eqZ z29 (Int.ofNat 0))) (
 AsInt .i64 (a 9) fun z30 =>
 InR (Int.add z30 (Int.ofNat 1)) (
 K .normal (upd (upd (upd (upd (upd (upd (upd (upd (upd (upd (upd (upd (upd (upd (upd (upd (upd (upd (upd (upd (upd (upd (upd (upd (upd (upd (upd (upd (upd (upd (upd (upd (upd (upd (upd (upd (upd (upd (upd (upd (upd (upd (upd (upd (upd (upd (upd (upd (upd (upd (upd (upd (upd (upd (upd (upd a 55 (a 9)) 56 (a 7)) 57 (iN (l1))) 58 (.bool (ltZ z2 (Int.ofNat l1)))) 61 (a 7)) 62 (a 9)) 63 (ptr p3 (Nat.add o4 (Nat.mul n7 11)))) 64 (.agg ⟨[v8, v9, v10, v11, v12, v13, v14, v15, v16, v17, v18]⟩)) 10 (ptr p19 0)) 65 (ptr p19 9)) 66 (ptr p19 9)) 67 v22) 68 (.bool (notB (eqZ z23 (Int.ofNat 0))))) 69 (.bool (notB (eqZ z23 (Int.ofNat 0))))) 69 (.bool false)) 70 (ptr p19 7)) 69 (.bool false)) 71 v25) 69 (.bool false)) 72 (.bool (ltZ z26 (Int.ofNat 0)))) 73 (.bool (ltZ z26 (Int.ofNat 0)))) 74 (.bool (ltZ z26 (Int.ofNat 0)))) 74 (.bool false)) 75 (ptr p19 0)) 74 (.bool false)) 76 (ptr p19 2)) 74 (.bool false)) 77 v28) 74 (.bool false)) 78 (.bool (notB (eqZ z29 (Int.ofNat 0))))) 79 (.bool (notB (eqZ z29 (Int.ofNat 0))))) 80 (.bool (notB (eqZ z29 (Int.ofNat 0))))) 80 (.bool true)) 81 (.tuple ⟨[]⟩)) 80 (.bool true)) 82 (.tuple ⟨[]⟩)) 80 (.bool true)) 83 (.tuple ⟨[]⟩)) 80 (.bool true)) 84 (.tuple ⟨[]⟩)) 80 (.bool true)) 85 (.tuple ⟨[]⟩)) 80 (.bool true)) 86 (.tuple ⟨[]⟩)) 80 (.bool true)) 87 (.tuple ⟨[]⟩)) 80 (.bool true)) 88 (.tuple ⟨[]⟩)) 80 (.bool true)) 89 (.tuple ⟨[]⟩)) 80 (.bool true)) 90 (.tuple ⟨[]⟩)) 91 (.bool true)) 59 (a 9)) 60 (i64 (Int.add z30 (Int.ofNat 1)))) 9 (i64 (Int.add z30 (Int.ofNat 1)))) H21)) (
 Ld H21 p19 0 fun v31 =>
 AsSlc (a 7) fun p32 o33 l34 c35 =>
 AsCnt (a 8) fun n36 =>
 Must (ltN n36 l34) (
 Ld H21 p32 (Nat.add (Nat.add o33 (Nat.mul n36 11)) 7) fun v37 =>
 Call1 Tryz.prog con 20 [(a 7), v31, v37] H21 fun v38 H39 =>
 AsBool v38 fun b40 =>
 Cd b40 (
 AsInt .i64 (a 9) fun z41 =>
 InR (Int.add z41 (Int.ofNat 1)) (
 K .normal (upd (upd (upd (upd (upd (upd (upd (upd (upd (upd (upd (upd (upd (upd (upd (upd (upd (upd (upd (upd (upd (upd (upd (upd (upd (upd (upd (upd (upd (upd (upd (upd (upd (upd (upd (upd (upd (upd (upd (upd (upd (upd (upd (upd (upd (upd (upd (upd (upd (upd (upd (upd (upd (upd (upd (upd a 55 (a 9)) 56 (a 7)) 57 (iN (l1))) 58 (.bool (ltZ z2 (Int.ofNat l1)))) 61 (a 7)) 62 (a 9)) 63 (ptr p3 (Nat.add o4 (Nat.mul n7 11)))) 64 (.agg ⟨[v8, v9, v10, v11, v12, v13, v14, v15, v16, v17, v18]⟩)) 10 (ptr p19 0)) 65 (ptr p19 9)) 66 (ptr p19 9)) 67 v22) 68 (.bool (notB (eqZ z23 (Int.ofNat 0))))) 69 (.bool (notB (eqZ z23 (Int.ofNat 0))))) 69 (.bool false)) 70 (ptr p19 7)) 69 (.bool false)) 71 v25) 69 (.bool false)) 72 (.bool (ltZ z26 (Int.ofNat 0)))) 73 (.bool (ltZ z26 (Int.ofNat 0)))) 74 (.bool (ltZ z26 (Int.ofNat 0)))) 74 (.bool false)) 75 (ptr p19 0)) 74 (.bool false)) 76 (ptr p19 2)) 74 (.bool false)) 77 v28) 74 (.bool false)) 78 (.bool (notB (eqZ z29 (Int.ofNat 0))))) 79 (.bool (notB (eqZ z29 (Int.ofNat 0))))) 80 (.bool (notB (eqZ z29 (Int.ofNat 0))))) 80 (.bool false)) 81 (a 7)) 80 (.bool false)) 82 (ptr p19 0)) 80 (.bool false)) 83 (ptr p19 0)) 80 (.bool false)) 84 v31) 80 (.bool false)) 85 (a 7)) 80 (.bool false)) 86 (a 8)) 80 (.bool false)) 87 (ptr p32 (Nat.add o33 (Nat.mul n36 11)))) 80 (.bool false)) 88 (ptr p32 (Nat.add (Nat.add o33 (Nat.mul n36 11)) 7))) 80 (.bool false)) 89 v37) 80 (.bool false)) 90 v38) 91 v38) 59 (a 9)) 60 (i64 (Int.add z41 (Int.ofNat 1)))) 9 (i64 (Int.add z41 (Int.ofNat 1)))) H39)) (
 AsSlc (a 7) fun p42 o43 l44 c45 =>
 AsCnt (a 8) fun n46 =>
 Must (ltN n46 l44) (
 Ld H39 p42 (Nat.add (Nat.add (Nat.add (Nat.add o43 (Nat.mul n46 11)) 0) 3) 0) fun v47 =>
 Ld H39 p42 (Nat.add (Nat.add (Nat.add (Nat.add o43 (Nat.mul n46 11)) 0) 3) 1) fun v48 =>
 Ld H39 p19 1 fun v49 =>
 Call1 Tryz.prog con 21 [(.agg ⟨[v47, v48]⟩), v49] H39 fun v50 H51 =>
 AsBool v50 fun b52 =>
 Cd (notB b52) (
 K .ret (upd (upd (upd (upd (upd (upd (upd (upd (upd (upd (upd (upd (upd (upd (upd (upd (upd (upd (upd (upd (upd (upd (upd (upd (upd (upd (upd (upd (upd (upd (upd (upd (upd (upd (upd (upd (upd (upd (upd (upd (upd (upd (upd (upd (upd (upd (upd (upd (upd (upd (upd (upd (upd (upd (upd (upd (upd (upd (upd (upd (upd (upd (upd (upd (upd a 55 (a 9)) 56 (a 7)) 57 (iN (l1))) 58 (.bool (ltZ z2 (Int.ofNat l1)))) 61 (a 7)) 62 (a 9)) 63 (ptr p3 (Nat.add o4 (Nat.mul n7 11)))) 64 (.agg ⟨[v8, v9, v10, v11, v12, v13, v14, v15, v16, v17, v18]⟩)) 10 (ptr p19 0)) 65 (ptr p19 9)) 66 (ptr p19 9)) 67 v22) 68 (.bool (notB (eqZ z23 (Int.ofNat 0))))) 69 (.bool (notB (eqZ z23 (Int.ofNat 0))))) 69 (.bool false)) 70 (ptr p19 7)) 69 (.bool false)) 71 v25) 69 (.bool false)) 72 (.bool (ltZ z26 (Int.ofNat 0)))) 73 (.bool (ltZ z26 (Int.ofNat 0)))) 74 (.bool (ltZ z26 (Int.ofNat 0)))) 74 (.bool false)) 75 (ptr p19 0)) 74 (.bool false)) 76 (ptr p19 2)) 74 (.bool false)) 77 v28) 74 (.bool false)) 78 (.bool (notB (eqZ z29 (Int.ofNat 0))))) 79 (.bool (notB (eqZ z29 (Int.ofNat 0))))) 80 (.bool (notB (eqZ z29 (Int.ofNat 0))))) 80 (.bool false)) 81 (a 7)) 80 (.bool false)) 82 (ptr p19 0)) 80 (.bool false)) 83 (ptr p19 0)) 80 (.bool false)) 84 v31) 80 (.bool false)) 85 (a 7)) 80 (.bool false)) 86 (a 8)) 80 (.bool false)) 87 (ptr p32 (Nat.add o33 (Nat.mul n36 11)))) 80 (.bool false)) 88 (ptr p32 (Nat.add (Nat.add o33 (Nat.mul n36 11)) 7))) 80 (.bool false)) 89 v37) 80 (.bool false)) 90 v38) 91 v38) 92 (a 7)) 93 (a 8)) 94 (ptr p42 (Nat.add o43 (Nat.mul n46 11)))) 95 (ptr p42 (Nat.add (Nat.add o43 (Nat.mul n46 11)) 0))) 96 (ptr p42 (Nat.add (Nat.add (Nat.add o43 (Nat.mul n46 11)) 0) 3))) 97 (.agg ⟨[v47, v48]⟩)) 98 (ptr p19 0)) 99 (ptr p19 1)) 100 v49) 101 v50) 102 (.bool (notB b52))) 2 (.bool false)) H51) (
 AsInt .i64 (a 9) fun z53 =>
 InR (Int.add z53 (Int.ofNat 1)) (
 K .normal (upd (upd (upd (upd (upd (upd (upd (upd (upd (upd (upd (upd (upd (upd (upd (upd (upd (upd (upd (upd (upd (upd (upd (upd (upd (upd (upd (upd (upd (upd (upd (upd (upd (upd (upd (upd (upd (upd (upd (upd (upd (upd (upd (upd (upd (upd (upd (upd (upd (upd (upd (upd (upd (upd (upd (upd (upd (upd (upd (upd (upd (upd (upd (upd (upd (upd (upd a 55 (a 9)) 56 (a 7)) 57 (iN (l1))) 58 (.bool (ltZ z2 (Int.ofNat l1)))) 61 (a 7)) 62 (a 9)) 63 (ptr p3 (Nat.add o4 (Nat.mul n7 11)))) 64 (.agg ⟨[v8, v9, v10, v11, v12, v13, v14, v15, v16, v17, v18]⟩)) 10 (ptr p19 0)) 65 (ptr p19 9)) 66 (ptr p19 9)) 67 v22) 68 (.bool (notB (eqZ z23 (Int.ofNat 0))))) 69 (.bool (notB (eqZ z23 (Int.ofNat 0))))) 69 (.bool false)) 70 (ptr p19 7)) 69 (.bool false)) 71 v25) 69 (.bool false)) 72 (.bool (ltZ z26 (Int.ofNat 0)))) 73 (.bool (ltZ z26 (Int.ofNat 0)))) 74 (.bool (ltZ z26 (Int.ofNat 0)))) 74 (.bool false)) 75 (ptr p19 0)) 74 (.bool false)) 76 (ptr p19 2)) 74 (.bool false)) 77 v28) 74 (.bool false)) 78 (.bool (notB (eqZ z29 (Int.ofNat 0))))) 79 (.bool (notB (eqZ z29 (Int.ofNat 0))))) 80 (.bool (notB (eqZ z29 (Int.ofNat 0))))) 80 (.bool false)) 81 (a 7)) 80 (.bool false)) 82 (ptr p19 0)) 80 (.bool false)) 83 (ptr p19 0)) 80 (.bool false)) 84 v31) 80 (.bool false)) 85 (a 7)) 80 (.bool false)) 86 (a 8)) 80 (.bool false)) 87 (ptr p32 (Nat.add o33 (Nat.mul n36 11)))) 80 (.bool false)) 88 (ptr p32 (Nat.add (Nat.add o33 (Nat.mul n36 11)) 7))) 80 (.bool false)) 89 v37) 80 (.bool false)) 90 v38) 91 v38) 92 (a 7)) 93 (a 8)) 94 (ptr p42 (Nat.add o43 (Nat.mul n46 11)))) 95 (ptr p42 (Nat.add (Nat.add o43 (Nat.mul n46 11)) 0))) 96 (ptr p42 (Nat.add (Nat.add (Nat.add o43 (Nat.mul n46 11)) 0) 3))) 97 (.agg ⟨[v47, v48]⟩)) 98 (ptr p19 0)) 99 (ptr p19 1)) 100 v49) 101 v50) 102 (.bool (notB b52))) 59 (a 9)) 60 (i64 (Int.add z53 (Int.ofNat 1)))) 9 (i64 (Int.add z53 (Int.ofNat 1)))) H51)))))))))) (
 K (.exit 2) (upd (upd (upd (upd a 55 (a 9)) 56 (a 7)) 57 (iN (l1))) 58 (.bool (ltZ z2 (Int.ofNat l1)))) H)) := by kernel_rfl
theorem l13named_W (con : CallT) (l : Value) (i : Int) (H : CH) (K : KP) : funW Tryz.prog con 78 [l, i64 i] H K =
 (AsSlc l fun p1 o2 l3 c4 =>
 AsCnt (i64 i) fun n5 =>
 Must (ltN n5 l3) (
 Ld H p1 (Nat.add (Nat.add (Nat.add o2 (Nat.mul n5 11)) 9) 0) fun v6 =>
 Ld H p1 (Nat.add (Nat.add (Nat.add o2 (Nat.mul n5 11)) 9) 1) fun v7 =>
 Nw H (mkRow 45 0 [(iN (0)), (u64 (0))]) fun p8 H9 =>
 St H9 p8 0 [v6, v7] fun H10 =>
 Ld H10 p8 0 fun v11 =>
 AsInt .i64 v11 fun z12 =>
 Cd (eqZ z12 (Int.ofNat 1)) (
 Ld H10 p8 1 fun v13 =>
 K v13 H10) (
 LoopC Tryz.prog con (lpAt Tryz.prog 78 0) (upd (upd (upd (upd (upd (upd (upd (upd (upd (upd (upd (upd (upd (upd (fun _ => undV) 1 (i64 i)) 0 l) 4 (u64 (0))) 8 l) 9 (i64 i)) 10 (ptr p1 (Nat.add o2 (Nat.mul n5 11)))) 11 (ptr p1 (Nat.add (Nat.add o2 (Nat.mul n5 11)) 9))) 12 (.agg ⟨[v6, v7]⟩)) 5 (ptr p8 0)) 13 (ptr p8 0)) 14 v11) 15 (.bool (eqZ z12 (Int.ofNat 1)))) 6 (u64 (0))) 7 (iN (0))) H10 (fun e => ceP e
 (fun a14 H15 =>
 K (u64 (0)) H15)
 (fun i16 => fun a14 H15 =>
 Cd (eqN i16 0) (
 K (u64 (0)) H15) (
 False))
 (fun a14 H15 =>
 K (a14 4) H15))))) := by kernel_rfl
theorem l13namedA_W (con : CallT) (a : TF) (H : CH) (K : KX) : codeW (lpAt Tryz.prog 78 0) Tryz.prog con a H K =
 (AsInt .i64 (a 7) fun z1 =>
 AsInt .i64 (a 1) fun z2 =>
 Cd (ltZ z1 z2) (
 AsSlc (a 0) fun p3 o4 l5 c6 =>
 AsCnt (a 7) fun n7 =>
 Must (ltN n7 l5) (
 Ld H p3 (Nat.add (Nat.add o4 (Nat.mul n7 11)) 8) fun v8 =>
 AsSlc (a 0) fun p9 o10 l11 c12 =>
 AsCnt (a 1) fun n13 =>
 Must (ltN n13 l11) (
 Ld H p9 (Nat.add (Nat.add o10 (Nat.mul n13 11)) 8) fun v14 =>
 AsInt .i64 v8 fun z15 =>
 AsInt .i64 v14 fun z16 =>
 Cd (eqZ z15 z16) (
 AsPtr (a 5) fun p17 o18 =>
 Ld H p17 (Nat.add o18 1) fun v19 =>
 AsNat .u64 (a 6) fun n20 =>
 AsNat .u64 v19 fun n21 =>
 Cd (eqN n20 n21) (
 AsSlc (a 0) fun p22 o23 l24 c25 =>
 AsCnt (a 7) fun n26 =>
 Must (ltN n26 l24) (
 Ld H p22 (Nat.add (Nat.add (Nat.add o23 (Nat.mul n26 11)) 0) 0) fun v27 =>
 K .ret (upd (upd (upd (upd (upd (upd (upd (upd (upd (upd (upd (upd (upd (upd (upd (upd (upd (upd (upd (upd (upd (upd (upd (upd (upd a 18 (a 7)) 19 (a 1)) 20 (.bool (ltZ z1 z2))) 23 (a 0)) 24 (a 7)) 25 (ptr p3 (Nat.add o4 (Nat.mul n7 11)))) 26 (ptr p3 (Nat.add (Nat.add o4 (Nat.mul n7 11)) 8))) 27 v8) 28 (a 0)) 29 (a 1)) 30 (ptr p9 (Nat.add o10 (Nat.mul n13 11)))) 31 (ptr p9 (Nat.add (Nat.add o10 (Nat.mul n13 11)) 8))) 32 v14) 33 (.bool (eqZ z15 z16))) 34 (a 6)) 35 (ptr p17 (Nat.add o18 1))) 36 v19) 37 (.bool (eqN n20 n21))) 38 (a 0)) 39 (a 7)) 40 (ptr p22 (Nat.add o23 (Nat.mul n26 11)))) 41 (ptr p22 (Nat.add (Nat.add o23 (Nat.mul n26 11)) 0))) 42 (ptr p22 (Nat.add (Nat.add (Nat.add o23 (Nat.mul n26 11)) 0) 0))) 43 v27) 4 v27) H)) (
 AsNat .u64 (a 6) fun n28 =>
 AsInt .i64 (a 7) fun z29 =>
 InR (Int.add z29 (Int.ofNat 1)) (
 K .normal (upd (upd (upd (upd (upd (upd (upd (upd (upd (upd (upd (upd (upd (upd (upd (upd (upd (upd (upd (upd (upd (upd (upd (upd a 18 (a 7)) 19 (a 1)) 20 (.bool (ltZ z1 z2))) 23 (a 0)) 24 (a 7)) 25 (ptr p3 (Nat.add o4 (Nat.mul n7 11)))) 26 (ptr p3 (Nat.add (Nat.add o4 (Nat.mul n7 11)) 8))) 27 v8) 28 (a 0)) 29 (a 1)) 30 (ptr p9 (Nat.add o10 (Nat.mul n13 11)))) 31 (ptr p9 (Nat.add (Nat.add o10 (Nat.mul n13 11)) 8))) 32 v14) 33 (.bool (eqZ z15 z16))) 34 (a 6)) 35 (ptr p17 (Nat.add o18 1))) 36 v19) 37 (.bool (eqN n20 n21))) 44 (a 6)) 45 (u64 ((Nat.mod (Nat.add n28 1) 18446744073709551616)))) 6 (u64 ((Nat.mod (Nat.add n28 1) 18446744073709551616)))) 21 (a 7)) 22 (i64 (Int.add z29 (Int.ofNat 1)))) 7 (i64 (Int.add z29 (Int.ofNat 1)))) H))) (
 AsInt .i64 (a 7) fun z30 =>
 InR (Int.add z30 (Int.ofNat 1)) (
 K .normal (upd (upd (upd (upd (upd (upd (upd (upd (upd (upd (upd (upd (upd (upd (upd (upd (upd a 18 (a 7)) 19 (a 1)) 20 (.bool (ltZ z1 z2))) 23 (a 0)) 24 (a 7)) 25 (ptr p3 (Nat.add o4 (Nat.mul n7 11)))) 26 (ptr p3 (Nat.add (Nat.add o4 (Nat.mul n7 11)) 8))) 27 v8) 28 (a 0)) 29 (a 1)) 30 (ptr p9 (Nat.add o10 (Nat.mul n13 11)))) 31 (ptr p9 (Nat.add (Nat.add o10 (Nat.mul n13 11)) 8))) 32 v14) 33 (.bool (eqZ z15 z16))) 21 (a 7)) 22 (i64 (Int.add z30 (Int.ofNat 1)))) 7 (i64 (Int.add z30 (Int.ofNat 1)))) H))))) (
 K (.exit 0) (upd (upd (upd a 18 (a 7)) 19 (a 1)) 20 (.bool (ltZ z1 z2))) H)) := by kernel_rfl
theorem l13gone_W (con : CallT) (l : Value) (h : Nat) (i : Int) (H : CH) (K : KP) : funW Tryz.prog con 20 [l, u64 h, i64 i] H K =
 (LoopC Tryz.prog con (lpAt Tryz.prog 20 0) (upd (upd (upd (upd (upd (fun _ => undV) 2 (i64 i)) 1 (u64 (h))) 0 l) 6 (.bool false)) 7 (iN (0))) H (fun e => ceP e
 (fun a1 H2 =>
 K (.bool false) H2)
 (fun i3 => fun a1 H2 =>
 Cd (eqN i3 0) (
 K (.bool false) H2) (
 False))
 (fun a1 H2 =>
 K (a1 6) H2))) := by kernel_rfl
theorem l13goneA_W (con : CallT) (a : TF) (H : CH) (K : KX) : codeW (lpAt Tryz.prog 20 0) Tryz.prog con a H K =
 (AsLen (a 0) fun l1 =>
 AsInt .i64 (a 7) fun z2 =>
 Cd (ltZ z2 (Int.ofNat l1)) (
 AsSlc (a 0) fun p3 o4 l5 c6 =>
 AsCnt (a 7) fun n7 =>
 Must (ltN n7 l5) (
 Ld H p3 (Nat.add (Nat.add (Nat.add o4 (Nat.mul n7 11)) 9) 0) fun v8 =>
 AsInt .i64 v8 fun z9 =>
 Cd (notB (eqZ z9 (Int.ofNat 0))) (
 AsSlc (a 0) fun p10 o11 l12 c13 =>
 AsCnt (a 7) fun n14 =>
 Must (ltN n14 l12) (
 Ld H p10 (Nat.add (Nat.add (Nat.add o11 (Nat.mul n14 11)) 9) 0) fun v15 =>
 AsInt .i64 v15 fun z16 =>
 Cd (notB (eqZ z16 (Int.ofNat 2))) (
 AsSlc (a 0) fun p17 o18 l19 c20 =>
 AsCnt (a 7) fun n21 =>
 Must (ltN n21 l19) (
 Ld H p17 (Nat.add (Nat.add o18 (Nat.mul n21 11)) 6) fun v22 =>
 AsInt .i64 v22 fun z23 =>
 AsInt .i64 (a 2) fun z24 =>
 Cd (leZ z23 z24) (
 Call1 Tryz.prog con 78 [(a 0), (a 7)] H fun v25 H26 =>
 AsNat .u64 v25 fun n27 =>
 AsNat .u64 (a 1) fun n28 =>
 Cd (eqN n27 n28) (
 K .ret (upd (upd (upd (upd (upd (upd (upd (upd (upd (upd (upd (upd (upd (upd (upd (upd (upd (upd (upd (upd (upd (upd (upd (upd (upd (upd (upd (upd (upd (upd (upd (upd (upd (upd (upd (upd (upd (upd (upd (upd (upd (upd (upd (upd (upd (upd (upd (upd (upd (upd (upd (upd (upd (upd (upd (upd a 8 (a 7)) 9 (a 0)) 10 (iN (l1))) 11 (.bool (ltZ z2 (Int.ofNat l1)))) 14 (a 0)) 15 (a 7)) 16 (ptr p3 (Nat.add o4 (Nat.mul n7 11)))) 17 (ptr p3 (Nat.add (Nat.add o4 (Nat.mul n7 11)) 9))) 18 (ptr p3 (Nat.add (Nat.add (Nat.add o4 (Nat.mul n7 11)) 9) 0))) 19 v8) 20 (.bool (notB (eqZ z9 (Int.ofNat 0))))) 21 (.bool (notB (eqZ z9 (Int.ofNat 0))))) 21 (.bool true)) 22 (a 0)) 21 (.bool true)) 23 (a 7)) 21 (.bool true)) 24 (ptr p10 (Nat.add o11 (Nat.mul n14 11)))) 21 (.bool true)) 25 (ptr p10 (Nat.add (Nat.add o11 (Nat.mul n14 11)) 9))) 21 (.bool true)) 26 (ptr p10 (Nat.add (Nat.add (Nat.add o11 (Nat.mul n14 11)) 9) 0))) 21 (.bool true)) 27 v15) 21 (.bool true)) 28 (.bool (notB (eqZ z16 (Int.ofNat 2))))) 29 (.bool (notB (eqZ z16 (Int.ofNat 2))))) 30 (.bool (notB (eqZ z16 (Int.ofNat 2))))) 30 (.bool true)) 31 (a 0)) 30 (.bool true)) 32 (a 7)) 30 (.bool true)) 33 (ptr p17 (Nat.add o18 (Nat.mul n21 11)))) 30 (.bool true)) 34 (ptr p17 (Nat.add (Nat.add o18 (Nat.mul n21 11)) 6))) 30 (.bool true)) 35 v22) 30 (.bool true)) 36 (a 2)) 30 (.bool true)) 37 (.bool (leZ z23 z24))) 38 (.bool (leZ z23 z24))) 39 (.bool (leZ z23 z24))) 39 (.bool true)) 40 (a 0)) 39 (.bool true)) 41 (a 7)) 39 (.bool true)) 42 v25) 39 (.bool true)) 43 (a 1)) 39 (.bool true)) 44 (.bool (eqN n27 n28))) 45 (.bool (eqN n27 n28))) 6 (.bool true)) H26) (
 AsInt .i64 (a 7) fun z29 =>
 InR (Int.add z29 (Int.ofNat 1)) (
 K .normal (upd (upd (upd (upd (upd (upd (upd (upd (upd (upd (upd (upd (upd (upd (upd (upd (upd (upd (upd (upd (upd (upd (upd (upd (upd (upd (upd (upd (upd (upd (upd (upd (upd (upd (upd (upd (upd (upd (upd (upd (upd (upd (upd (upd (upd (upd (upd (upd (upd (upd (upd (upd (upd (upd (upd (upd (upd (upd a 8 (a 7)) 9 (a 0)) 10 (iN (l1))) 11 (.bool (ltZ z2 (Int.ofNat l1)))) 14 (a 0)) 15 (a 7)) 16 (ptr p3 (Nat.add o4 (Nat.mul n7 11)))) 17 (ptr p3 (Nat.add (Nat.add o4 (Nat.mul n7 11)) 9))) 18 (ptr p3 (Nat.add (Nat.add (Nat.add o4 (Nat.mul n7 11)) 9) 0))) 19 v8) 20 (.bool (notB (eqZ z9 (Int.ofNat 0))))) 21 (.bool (notB (eqZ z9 (Int.ofNat 0))))) 21 (.bool true)) 22 (a 0)) 21 (.bool true)) 23 (a 7)) 21 (.bool true)) 24 (ptr p10 (Nat.add o11 (Nat.mul n14 11)))) 21 (.bool true)) 25 (ptr p10 (Nat.add (Nat.add o11 (Nat.mul n14 11)) 9))) 21 (.bool true)) 26 (ptr p10 (Nat.add (Nat.add (Nat.add o11 (Nat.mul n14 11)) 9) 0))) 21 (.bool true)) 27 v15) 21 (.bool true)) 28 (.bool (notB (eqZ z16 (Int.ofNat 2))))) 29 (.bool (notB (eqZ z16 (Int.ofNat 2))))) 30 (.bool (notB (eqZ z16 (Int.ofNat 2))))) 30 (.bool true)) 31 (a 0)) 30 (.bool true)) 32 (a 7)) 30 (.bool true)) 33 (ptr p17 (Nat.add o18 (Nat.mul n21 11)))) 30 (.bool true)) 34 (ptr p17 (Nat.add (Nat.add o18 (Nat.mul n21 11)) 6))) 30 (.bool true)) 35 v22) 30 (.bool true)) 36 (a 2)) 30 (.bool true)) 37 (.bool (leZ z23 z24))) 38 (.bool (leZ z23 z24))) 39 (.bool (leZ z23 z24))) 39 (.bool true)) 40 (a 0)) 39 (.bool true)) 41 (a 7)) 39 (.bool true)) 42 v25) 39 (.bool true)) 43 (a 1)) 39 (.bool true)) 44 (.bool (eqN n27 n28))) 45 (.bool (eqN n27 n28))) 12 (a 7)) 13 (i64 (Int.add z29 (Int.ofNat 1)))) 7 (i64 (Int.add z29 (Int.ofNat 1)))) H26))) (
 AsInt .i64 (a 7) fun z30 =>
 InR (Int.add z30 (Int.ofNat 1)) (
 K .normal (upd (upd (upd (upd (upd (upd (upd (upd (upd (upd (upd (upd (upd (upd (upd (upd (upd (upd (upd (upd (upd (upd (upd (upd (upd (upd (upd (upd (upd (upd (upd (upd (upd (upd (upd (upd (upd (upd (upd (upd (upd (upd (upd (upd (upd (upd (upd (upd (upd (upd (upd (upd (upd (upd (upd (upd (upd (upd a 8 (a 7)) 9 (a 0)) 10 (iN (l1))) 11 (.bool (ltZ z2 (Int.ofNat l1)))) 14 (a 0)) 15 (a 7)) 16 (ptr p3 (Nat.add o4 (Nat.mul n7 11)))) 17 (ptr p3 (Nat.add (Nat.add o4 (Nat.mul n7 11)) 9))) 18 (ptr p3 (Nat.add (Nat.add (Nat.add o4 (Nat.mul n7 11)) 9) 0))) 19 v8) 20 (.bool (notB (eqZ z9 (Int.ofNat 0))))) 21 (.bool (notB (eqZ z9 (Int.ofNat 0))))) 21 (.bool true)) 22 (a 0)) 21 (.bool true)) 23 (a 7)) 21 (.bool true)) 24 (ptr p10 (Nat.add o11 (Nat.mul n14 11)))) 21 (.bool true)) 25 (ptr p10 (Nat.add (Nat.add o11 (Nat.mul n14 11)) 9))) 21 (.bool true)) 26 (ptr p10 (Nat.add (Nat.add (Nat.add o11 (Nat.mul n14 11)) 9) 0))) 21 (.bool true)) 27 v15) 21 (.bool true)) 28 (.bool (notB (eqZ z16 (Int.ofNat 2))))) 29 (.bool (notB (eqZ z16 (Int.ofNat 2))))) 30 (.bool (notB (eqZ z16 (Int.ofNat 2))))) 30 (.bool true)) 31 (a 0)) 30 (.bool true)) 32 (a 7)) 30 (.bool true)) 33 (ptr p17 (Nat.add o18 (Nat.mul n21 11)))) 30 (.bool true)) 34 (ptr p17 (Nat.add (Nat.add o18 (Nat.mul n21 11)) 6))) 30 (.bool true)) 35 v22) 30 (.bool true)) 36 (a 2)) 30 (.bool true)) 37 (.bool (leZ z23 z24))) 38 (.bool (leZ z23 z24))) 39 (.bool (leZ z23 z24))) 39 (.bool false)) 40 (.tuple ⟨[]⟩)) 39 (.bool false)) 41 (.tuple ⟨[]⟩)) 39 (.bool false)) 42 (.tuple ⟨[]⟩)) 39 (.bool false)) 43 (.tuple ⟨[]⟩)) 39 (.bool false)) 44 (.tuple ⟨[]⟩)) 45 (.bool false)) 12 (a 7)) 13 (i64 (Int.add z30 (Int.ofNat 1)))) 7 (i64 (Int.add z30 (Int.ofNat 1)))) H)))) (
 AsInt .i64 (a 7) fun z31 =>
 InR (Int.add z31 (Int.ofNat 1)) (
 K .normal (upd (upd (upd (upd (upd (upd (upd (upd (upd (upd (upd (upd (upd (upd (upd (upd (upd (upd (upd (upd (upd (upd (upd (upd (upd (upd (upd (upd (upd (upd (upd (upd (upd (upd (upd (upd (upd (upd (upd (upd (upd (upd (upd (upd (upd (upd (upd (upd (upd (upd (upd (upd (upd (upd (upd (upd (upd (upd a 8 (a 7)) 9 (a 0)) 10 (iN (l1))) 11 (.bool (ltZ z2 (Int.ofNat l1)))) 14 (a 0)) 15 (a 7)) 16 (ptr p3 (Nat.add o4 (Nat.mul n7 11)))) 17 (ptr p3 (Nat.add (Nat.add o4 (Nat.mul n7 11)) 9))) 18 (ptr p3 (Nat.add (Nat.add (Nat.add o4 (Nat.mul n7 11)) 9) 0))) 19 v8) 20 (.bool (notB (eqZ z9 (Int.ofNat 0))))) 21 (.bool (notB (eqZ z9 (Int.ofNat 0))))) 21 (.bool true)) 22 (a 0)) 21 (.bool true)) 23 (a 7)) 21 (.bool true)) 24 (ptr p10 (Nat.add o11 (Nat.mul n14 11)))) 21 (.bool true)) 25 (ptr p10 (Nat.add (Nat.add o11 (Nat.mul n14 11)) 9))) 21 (.bool true)) 26 (ptr p10 (Nat.add (Nat.add (Nat.add o11 (Nat.mul n14 11)) 9) 0))) 21 (.bool true)) 27 v15) 21 (.bool true)) 28 (.bool (notB (eqZ z16 (Int.ofNat 2))))) 29 (.bool (notB (eqZ z16 (Int.ofNat 2))))) 30 (.bool (notB (eqZ z16 (Int.ofNat 2))))) 30 (.bool false)) 31 (.tuple ⟨[]⟩)) 30 (.bool false)) 32 (.tuple ⟨[]⟩)) 30 (.bool false)) 33 (.tuple ⟨[]⟩)) 30 (.bool false)) 34 (.tuple ⟨[]⟩)) 30 (.bool false)) 35 (.tuple ⟨[]⟩)) 30 (.bool false)) 36 (.tuple ⟨[]⟩)) 30 (.bool false)) 37 (.tuple ⟨[]⟩)) 38 (.bool false)) 39 (.bool false)) 39 (.bool false)) 40 (.tuple ⟨[]⟩)) 39 (.bool false)) 41 (.tuple ⟨[]⟩)) 39 (.bool false)) 42 (.tuple ⟨[]⟩)) 39 (.bool false)) 43 (.tuple ⟨[]⟩)) 39 (.bool false)) 44 (.tuple ⟨[]⟩)) 45 (.bool false)) 12 (a 7)) 13 (i64 (Int.add z31 (Int.ofNat 1)))) 7 (i64 (Int.add z31 (Int.ofNat 1)))) H)))) (
 AsInt .i64 (a 7) fun z32 =>
 InR (Int.add z32 (Int.ofNat 1)) (
 K .normal (upd (upd (upd (upd (upd (upd (upd (upd (upd (upd (upd (upd (upd (upd (upd (upd (upd (upd (upd (upd (upd (upd (upd (upd (upd (upd (upd (upd (upd (upd (upd (upd (upd (upd (upd (upd (upd (upd (upd (upd (upd (upd (upd (upd (upd (upd (upd (upd (upd (upd (upd (upd (upd (upd (upd (upd (upd (upd a 8 (a 7)) 9 (a 0)) 10 (iN (l1))) 11 (.bool (ltZ z2 (Int.ofNat l1)))) 14 (a 0)) 15 (a 7)) 16 (ptr p3 (Nat.add o4 (Nat.mul n7 11)))) 17 (ptr p3 (Nat.add (Nat.add o4 (Nat.mul n7 11)) 9))) 18 (ptr p3 (Nat.add (Nat.add (Nat.add o4 (Nat.mul n7 11)) 9) 0))) 19 v8) 20 (.bool (notB (eqZ z9 (Int.ofNat 0))))) 21 (.bool (notB (eqZ z9 (Int.ofNat 0))))) 21 (.bool false)) 22 (.tuple ⟨[]⟩)) 21 (.bool false)) 23 (.tuple ⟨[]⟩)) 21 (.bool false)) 24 (.tuple ⟨[]⟩)) 21 (.bool false)) 25 (.tuple ⟨[]⟩)) 21 (.bool false)) 26 (.tuple ⟨[]⟩)) 21 (.bool false)) 27 (.tuple ⟨[]⟩)) 21 (.bool false)) 28 (.tuple ⟨[]⟩)) 29 (.bool false)) 30 (.bool false)) 30 (.bool false)) 31 (.tuple ⟨[]⟩)) 30 (.bool false)) 32 (.tuple ⟨[]⟩)) 30 (.bool false)) 33 (.tuple ⟨[]⟩)) 30 (.bool false)) 34 (.tuple ⟨[]⟩)) 30 (.bool false)) 35 (.tuple ⟨[]⟩)) 30 (.bool false)) 36 (.tuple ⟨[]⟩)) 30 (.bool false)) 37 (.tuple ⟨[]⟩)) 38 (.bool false)) 39 (.bool false)) 39 (.bool false)) 40 (.tuple ⟨[]⟩)) 39 (.bool false)) 41 (.tuple ⟨[]⟩)) 39 (.bool false)) 42 (.tuple ⟨[]⟩)) 39 (.bool false)) 43 (.tuple ⟨[]⟩)) 39 (.bool false)) 44 (.tuple ⟨[]⟩)) 45 (.bool false)) 12 (a 7)) 13 (i64 (Int.add z32 (Int.ofNat 1)))) 7 (i64 (Int.add z32 (Int.ofNat 1)))) H)))) (
 K (.exit 0) (upd (upd (upd (upd a 8 (a 7)) 9 (a 0)) 10 (iN (l1))) 11 (.bool (ltZ z2 (Int.ofNat l1)))) H)) := by kernel_rfl
theorem l13needed_W (con : CallT) (fl : Nat) (l : Value) (t : Nat) (H : CH) (K : KP) : funW Tryz.prog con 21 [.agg ⟨[u64 fl, l]⟩, u64 t] H K =
 (Nw H (mkRow 41 0 [(u64 (fl)), l]) fun p1 H2 =>
 LoopC Tryz.prog con (lpAt Tryz.prog 21 0) (upd (upd (upd (upd (upd (fun _ => undV) 1 (u64 (t))) 0 (.agg ⟨[(u64 (fl)), l]⟩)) 2 (ptr p1 0)) 4 (.bool false)) 5 (iN (0))) H2 (fun e => ceP e
 (fun a3 H4 =>
 AsPtr (a3 2) fun p6 o7 =>
 Ld H4 p6 (Nat.add o7 0) fun v8 =>
 AsNat .u64 (a3 1) fun n9 =>
 AsNat .u64 v8 fun n10 =>
 K (.bool (leN n10 n9)) H4)
 (fun i5 => fun a3 H4 =>
 Cd (eqN i5 0) (
 AsPtr (a3 2) fun p11 o12 =>
 Ld H4 p11 (Nat.add o12 0) fun v13 =>
 AsNat .u64 (a3 1) fun n14 =>
 AsNat .u64 v13 fun n15 =>
 K (.bool (leN n15 n14)) H4) (
 False))
 (fun a3 H4 =>
 K (a3 4) H4))) := by kernel_rfl
theorem l13neededA_W (con : CallT) (a : TF) (H : CH) (K : KX) : codeW (lpAt Tryz.prog 21 0) Tryz.prog con a H K =
 (AsPtr (a 2) fun p1 o2 =>
 Ld H p1 (Nat.add o2 1) fun v3 =>
 AsLen v3 fun l4 =>
 AsInt .i64 (a 5) fun z5 =>
 Cd (ltZ z5 (Int.ofNat l4)) (
 AsPtr (a 2) fun p6 o7 =>
 Ld H p6 (Nat.add o7 1) fun v8 =>
 AsSlc v8 fun p9 o10 l11 c12 =>
 AsCnt (a 5) fun n13 =>
 Must (ltN n13 l11) (
 Ld H p9 (Nat.add o10 (Nat.mul n13 1)) fun v14 =>
 AsNat .u64 v14 fun n15 =>
 AsNat .u64 (a 1) fun n16 =>
 Cd (eqN n15 n16) (
 K .ret (upd (upd (upd (upd (upd (upd (upd (upd (upd (upd (upd (upd (upd a 6 (a 5)) 7 (ptr p1 (Nat.add o2 1))) 8 v3) 9 (iN (l4))) 10 (.bool (ltZ z5 (Int.ofNat l4)))) 13 (ptr p6 (Nat.add o7 1))) 14 v8) 15 (a 5)) 16 (ptr p9 (Nat.add o10 (Nat.mul n13 1)))) 17 v14) 18 (a 1)) 19 (.bool (eqN n15 n16))) 4 (.bool true)) H) (
 AsInt .i64 (a 5) fun z17 =>
 InR (Int.add z17 (Int.ofNat 1)) (
 K .normal (upd (upd (upd (upd (upd (upd (upd (upd (upd (upd (upd (upd (upd (upd (upd a 6 (a 5)) 7 (ptr p1 (Nat.add o2 1))) 8 v3) 9 (iN (l4))) 10 (.bool (ltZ z5 (Int.ofNat l4)))) 13 (ptr p6 (Nat.add o7 1))) 14 v8) 15 (a 5)) 16 (ptr p9 (Nat.add o10 (Nat.mul n13 1)))) 17 v14) 18 (a 1)) 19 (.bool (eqN n15 n16))) 11 (a 5)) 12 (i64 (Int.add z17 (Int.ofNat 1)))) 5 (i64 (Int.add z17 (Int.ofNat 1)))) H)))) (
 K (.exit 0) (upd (upd (upd (upd (upd a 6 (a 5)) 7 (ptr p1 (Nat.add o2 1))) 8 v3) 9 (iN (l4))) 10 (.bool (ltZ z5 (Int.ofNat l4)))) H)) := by kernel_rfl
end Go.Proofs.YtmjiaahpjjnloaaGreat

