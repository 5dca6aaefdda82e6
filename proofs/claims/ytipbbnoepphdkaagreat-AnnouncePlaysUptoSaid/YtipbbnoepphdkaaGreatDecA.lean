/- What some functions' texts ask for, step by step, each checked by the kernel. No conditions. -/
import Derived.Test.YtipbbnoepphdkaaGreatProg
import Derived.Test.YtipbbnoepphdkaaGreatCmE
set_option linter.unusedVariables false
set_option linter.unusedSimpArgs false

/- What some functions' texts ask for, step by step, each checked by the kernel. No conditions. -/
set_option linter.unusedVariables false
namespace Go.Proofs.YtipbbnoepphdkaaGreat
open Go Go.CM
theorem pdqSort_W (con : CallT) (v : Value) (a b l : Int) (H : CH) (K : KP) : funW Tryz.prog con 148 [v, i64 a, i64 b, i64 l] H K =
 (LoopC Tryz.prog con (lpAt Tryz.prog 148 0) (upd (upd (upd (upd (upd (upd (fun _ => undV) 3 (i64 l)) 2 (i64 b)) 1 (i64 a)) 0 v) 8 (.bool true)) 9 (.bool true)) H (fun e => ceP e
 (fun a1 H2 =>
 K (.tuple ⟨[]⟩) H2)
 (fun i3 => fun a1 H2 =>
 Cd (eqN i3 0) (
 K (.tuple ⟨[]⟩) H2) (
 False))
 (fun a1 H2 =>
 K (.tuple ⟨[]⟩) H2))) := by kernel_rfl
theorem pdqA_W (con : CallT) (a : TF) (H : CH) (K : KX) : codeW (takeC 7 (blkC (lpAt Tryz.prog 148 0))) Tryz.prog con a H K =
 (AsInt .i64 (a 2) fun z1 =>
 AsInt .i64 (a 1) fun z2 =>
 InR (Int.sub z1 z2) (
 Cd (leZ (Int.sub z1 z2) (Int.ofNat 12)) (
 Call1 Tryz.prog con 154 [(a 0), (a 1), (a 2)] H fun v3 H4 =>
 K .ret (upd (upd (upd (upd (upd (upd (upd (upd (upd (upd a 19 (a 2)) 20 (a 1)) 21 (i64 (Int.sub z1 z2))) 10 (i64 (Int.sub z1 z2))) 22 (i64 (Int.sub z1 z2))) 23 (.bool (leZ (Int.sub z1 z2) (Int.ofNat 12)))) 24 (a 0)) 25 (a 1)) 26 (a 2)) 27 v3) H4) (
 AsInt .i64 (a 3) fun z5 =>
 Cd (eqZ z5 (Int.ofNat 0)) (
 Call1 Tryz.prog con 155 [(a 0), (a 1), (a 2)] H fun v6 H7 =>
 K .ret (upd (upd (upd (upd (upd (upd (upd (upd (upd (upd (upd (upd a 19 (a 2)) 20 (a 1)) 21 (i64 (Int.sub z1 z2))) 10 (i64 (Int.sub z1 z2))) 22 (i64 (Int.sub z1 z2))) 23 (.bool (leZ (Int.sub z1 z2) (Int.ofNat 12)))) 28 (a 3)) 29 (.bool (eqZ z5 (Int.ofNat 0)))) 30 (a 0)) 31 (a 1)) 32 (a 2)) 33 v6) H7) (
 AsBool (a 8) fun b8 =>
 Cd (notB b8) (
 Call1 Tryz.prog con 156 [(a 0), (a 1), (a 2)] H fun v9 H10 =>
 AsInt .i64 (a 3) fun z11 =>
 InR (Int.sub z11 (Int.ofNat 1)) (
 K .normal (upd (upd (upd (upd (upd (upd (upd (upd (upd (upd (upd (upd (upd (upd (upd (upd (upd a 19 (a 2)) 20 (a 1)) 21 (i64 (Int.sub z1 z2))) 10 (i64 (Int.sub z1 z2))) 22 (i64 (Int.sub z1 z2))) 23 (.bool (leZ (Int.sub z1 z2) (Int.ofNat 12)))) 28 (a 3)) 29 (.bool (eqZ z5 (Int.ofNat 0)))) 34 (a 8)) 35 (.bool (notB b8))) 36 (a 0)) 37 (a 1)) 38 (a 2)) 39 v9) 40 (a 3)) 41 (i64 (Int.sub z11 (Int.ofNat 1)))) 3 (i64 (Int.sub z11 (Int.ofNat 1)))) H10)) (
 K .normal (upd (upd (upd (upd (upd (upd (upd (upd (upd (upd a 19 (a 2)) 20 (a 1)) 21 (i64 (Int.sub z1 z2))) 10 (i64 (Int.sub z1 z2))) 22 (i64 (Int.sub z1 z2))) 23 (.bool (leZ (Int.sub z1 z2) (Int.ofNat 12)))) 28 (a 3)) 29 (.bool (eqZ z5 (Int.ofNat 0)))) 34 (a 8)) 35 (.bool (notB b8))) H))))) := by kernel_rfl
theorem pdqB_W (con : CallT) (a : TF) (H : CH) (K : KX) : codeW (sliceC 7 5 (blkC (lpAt Tryz.prog 148 0))) Tryz.prog con a H K =
 (Call1 Tryz.prog con 157 [(a 0), (a 1), (a 2)] H fun v1 H2 =>
 AsTup v1 fun l3 =>
 Nth l3 0 fun v4 =>
 AsTup v1 fun l5 =>
 Nth l5 1 fun v6 =>
 AsInt .i64 v6 fun z7 =>
 Cd (eqZ z7 (Int.ofNat 2)) (
 Call1 Tryz.prog con 158 [(a 0), (a 1), (a 2)] H2 fun v8 H9 =>
 AsInt .i64 (a 2) fun z10 =>
 InR (Int.sub z10 (Int.ofNat 1)) (
 AsInt .i64 v4 fun z11 =>
 AsInt .i64 (a 1) fun z12 =>
 InR (Int.sub z11 z12) (
 InR (Int.sub (Int.sub z10 (Int.ofNat 1)) (Int.sub z11 z12)) (
 AsWant (a 8) (False) fun b13 =>
 Cd b13 (
 AsWant (a 9) (False) fun b14 =>
 Cd b14 (
 Call1 Tryz.prog con 159 [(a 0), (a 1), (a 2)] H9 fun v15 H16 =>
 AsBool v15 fun b17 =>
 Cd b17 (
 K .ret (upd (upd (upd (upd (upd (upd (upd (upd (upd (upd (upd (upd (upd (upd (upd (upd (upd (upd (upd (upd (upd (upd (upd (upd (upd (upd (upd (upd (upd (upd (upd (upd (upd (upd (upd (upd (upd (upd a 43 (a 0)) 44 (a 1)) 45 (a 2)) 46 v1) 42 v1) 47 v4) 48 v6) 11 v4) 12 v6) 49 v6) 50 (.bool (eqZ z7 (Int.ofNat 2)))) 51 (a 0)) 52 (a 1)) 53 (a 2)) 54 v8) 55 (a 2)) 56 (i64 (Int.sub z10 (Int.ofNat 1)))) 57 v4) 58 (a 1)) 59 (i64 (Int.sub z11 z12))) 60 (i64 (Int.sub (Int.sub z10 (Int.ofNat 1)) (Int.sub z11 z12)))) 11 (i64 (Int.sub (Int.sub z10 (Int.ofNat 1)) (Int.sub z11 z12)))) 12 (iN (1))) 61 (a 8)) 62 (a 8)) 62 (.bool true)) 63 (a 9)) 64 (a 9)) 65 (a 9)) 65 (.bool true)) 66 (iN (1))) 65 (.bool true)) 67 (.bool true)) 68 (.bool true)) 69 (a 0)) 70 (a 1)) 71 (a 2)) 72 v15) H16) (
 K .normal (upd (upd (upd (upd (upd (upd (upd (upd (upd (upd (upd (upd (upd (upd (upd (upd (upd (upd (upd (upd (upd (upd (upd (upd (upd (upd (upd (upd (upd (upd (upd (upd (upd (upd (upd (upd (upd (upd a 43 (a 0)) 44 (a 1)) 45 (a 2)) 46 v1) 42 v1) 47 v4) 48 v6) 11 v4) 12 v6) 49 v6) 50 (.bool (eqZ z7 (Int.ofNat 2)))) 51 (a 0)) 52 (a 1)) 53 (a 2)) 54 v8) 55 (a 2)) 56 (i64 (Int.sub z10 (Int.ofNat 1)))) 57 v4) 58 (a 1)) 59 (i64 (Int.sub z11 z12))) 60 (i64 (Int.sub (Int.sub z10 (Int.ofNat 1)) (Int.sub z11 z12)))) 11 (i64 (Int.sub (Int.sub z10 (Int.ofNat 1)) (Int.sub z11 z12)))) 12 (iN (1))) 61 (a 8)) 62 (a 8)) 62 (.bool true)) 63 (a 9)) 64 (a 9)) 65 (a 9)) 65 (.bool true)) 66 (iN (1))) 65 (.bool true)) 67 (.bool true)) 68 (.bool true)) 69 (a 0)) 70 (a 1)) 71 (a 2)) 72 v15) H16)) (
 K .normal (upd (upd (upd (upd (upd (upd (upd (upd (upd (upd (upd (upd (upd (upd (upd (upd (upd (upd (upd (upd (upd (upd (upd (upd (upd (upd (upd (upd (upd (upd (upd (upd (upd (upd a 43 (a 0)) 44 (a 1)) 45 (a 2)) 46 v1) 42 v1) 47 v4) 48 v6) 11 v4) 12 v6) 49 v6) 50 (.bool (eqZ z7 (Int.ofNat 2)))) 51 (a 0)) 52 (a 1)) 53 (a 2)) 54 v8) 55 (a 2)) 56 (i64 (Int.sub z10 (Int.ofNat 1)))) 57 v4) 58 (a 1)) 59 (i64 (Int.sub z11 z12))) 60 (i64 (Int.sub (Int.sub z10 (Int.ofNat 1)) (Int.sub z11 z12)))) 11 (i64 (Int.sub (Int.sub z10 (Int.ofNat 1)) (Int.sub z11 z12)))) 12 (iN (1))) 61 (a 8)) 62 (a 8)) 62 (.bool true)) 63 (a 9)) 64 (a 9)) 65 (a 9)) 65 (.bool false)) 66 (.tuple ⟨[]⟩)) 65 (.bool false)) 67 (.tuple ⟨[]⟩)) 68 (.bool false)) H9)) (
 K .normal (upd (upd (upd (upd (upd (upd (upd (upd (upd (upd (upd (upd (upd (upd (upd (upd (upd (upd (upd (upd (upd (upd (upd (upd (upd (upd (upd (upd (upd (upd (upd (upd (upd (upd a 43 (a 0)) 44 (a 1)) 45 (a 2)) 46 v1) 42 v1) 47 v4) 48 v6) 11 v4) 12 v6) 49 v6) 50 (.bool (eqZ z7 (Int.ofNat 2)))) 51 (a 0)) 52 (a 1)) 53 (a 2)) 54 v8) 55 (a 2)) 56 (i64 (Int.sub z10 (Int.ofNat 1)))) 57 v4) 58 (a 1)) 59 (i64 (Int.sub z11 z12))) 60 (i64 (Int.sub (Int.sub z10 (Int.ofNat 1)) (Int.sub z11 z12)))) 11 (i64 (Int.sub (Int.sub z10 (Int.ofNat 1)) (Int.sub z11 z12)))) 12 (iN (1))) 61 (a 8)) 62 (a 8)) 62 (.bool false)) 63 (.tuple ⟨[]⟩)) 64 (.bool false)) 65 (.bool false)) 65 (.bool false)) 66 (.tuple ⟨[]⟩)) 65 (.bool false)) 67 (.tuple ⟨[]⟩)) 68 (.bool false)) H9))))) (
 AsWant (a 8) (False) fun b18 =>
 Cd b18 (
 AsWant (a 9) (False) fun b19 =>
 Cd b19 (
 AsInt .i64 v6 fun z20 =>
 Cd (eqZ z20 (Int.ofNat 1)) (
 Call1 Tryz.prog con 159 [(a 0), (a 1), (a 2)] H2 fun v21 H22 =>
 AsBool v21 fun b23 =>
 Cd b23 (
 K .ret (upd (upd (upd (upd (upd (upd (upd (upd (upd (upd (upd (upd (upd (upd (upd (upd (upd (upd (upd (upd (upd (upd (upd (upd (upd (upd a 43 (a 0)) 44 (a 1)) 45 (a 2)) 46 v1) 42 v1) 47 v4) 48 v6) 11 v4) 12 v6) 49 v6) 50 (.bool (eqZ z7 (Int.ofNat 2)))) 61 (a 8)) 62 (a 8)) 62 (.bool true)) 63 (a 9)) 64 (a 9)) 65 (a 9)) 65 (.bool true)) 66 v6) 65 (.bool true)) 67 (.bool (eqZ z20 (Int.ofNat 1)))) 68 (.bool (eqZ z20 (Int.ofNat 1)))) 69 (a 0)) 70 (a 1)) 71 (a 2)) 72 v21) H22) (
 K .normal (upd (upd (upd (upd (upd (upd (upd (upd (upd (upd (upd (upd (upd (upd (upd (upd (upd (upd (upd (upd (upd (upd (upd (upd (upd (upd a 43 (a 0)) 44 (a 1)) 45 (a 2)) 46 v1) 42 v1) 47 v4) 48 v6) 11 v4) 12 v6) 49 v6) 50 (.bool (eqZ z7 (Int.ofNat 2)))) 61 (a 8)) 62 (a 8)) 62 (.bool true)) 63 (a 9)) 64 (a 9)) 65 (a 9)) 65 (.bool true)) 66 v6) 65 (.bool true)) 67 (.bool (eqZ z20 (Int.ofNat 1)))) 68 (.bool (eqZ z20 (Int.ofNat 1)))) 69 (a 0)) 70 (a 1)) 71 (a 2)) 72 v21) H22)) (
 K .normal (upd (upd (upd (upd (upd (upd (upd (upd (upd (upd (upd (upd (upd (upd (upd (upd (upd (upd (upd (upd (upd (upd a 43 (a 0)) 44 (a 1)) 45 (a 2)) 46 v1) 42 v1) 47 v4) 48 v6) 11 v4) 12 v6) 49 v6) 50 (.bool (eqZ z7 (Int.ofNat 2)))) 61 (a 8)) 62 (a 8)) 62 (.bool true)) 63 (a 9)) 64 (a 9)) 65 (a 9)) 65 (.bool true)) 66 v6) 65 (.bool true)) 67 (.bool (eqZ z20 (Int.ofNat 1)))) 68 (.bool (eqZ z20 (Int.ofNat 1)))) H2)) (
 K .normal (upd (upd (upd (upd (upd (upd (upd (upd (upd (upd (upd (upd (upd (upd (upd (upd (upd (upd (upd (upd (upd (upd a 43 (a 0)) 44 (a 1)) 45 (a 2)) 46 v1) 42 v1) 47 v4) 48 v6) 11 v4) 12 v6) 49 v6) 50 (.bool (eqZ z7 (Int.ofNat 2)))) 61 (a 8)) 62 (a 8)) 62 (.bool true)) 63 (a 9)) 64 (a 9)) 65 (a 9)) 65 (.bool false)) 66 (.tuple ⟨[]⟩)) 65 (.bool false)) 67 (.tuple ⟨[]⟩)) 68 (.bool false)) H2)) (
 K .normal (upd (upd (upd (upd (upd (upd (upd (upd (upd (upd (upd (upd (upd (upd (upd (upd (upd (upd (upd (upd (upd (upd a 43 (a 0)) 44 (a 1)) 45 (a 2)) 46 v1) 42 v1) 47 v4) 48 v6) 11 v4) 12 v6) 49 v6) 50 (.bool (eqZ z7 (Int.ofNat 2)))) 61 (a 8)) 62 (a 8)) 62 (.bool false)) 63 (.tuple ⟨[]⟩)) 64 (.bool false)) 65 (.bool false)) 65 (.bool false)) 66 (.tuple ⟨[]⟩)) 65 (.bool false)) 67 (.tuple ⟨[]⟩)) 68 (.bool false)) H2))) := by kernel_rfl
theorem pdqC_W (con : CallT) (a : TF) (H : CH) (K : KX) : codeW (sliceC 12 2 (blkC (lpAt Tryz.prog 148 0))) Tryz.prog con a H K =
 (AsInt .i64 (a 1) fun z1 =>
 Cd (ltZ (Int.ofNat 0) z1) (
 AsInt .i64 (a 1) fun z2 =>
 InR (Int.sub z2 (Int.ofNat 1)) (
 AsSlc (a 0) fun p3 o4 l5 c6 =>
 AsCnt (i64 (Int.sub z2 (Int.ofNat 1))) fun n7 =>
 Must (ltN n7 l5) (
 Ld H p3 (Nat.add o4 (Nat.mul n7 1)) fun v8 =>
 AsSlc (a 0) fun p9 o10 l11 c12 =>
 AsCnt (a 11) fun n13 =>
 Must (ltN n13 l11) (
 Ld H p9 (Nat.add o10 (Nat.mul n13 1)) fun v14 =>
 Call1 Tryz.prog con 160 [v8, v14] H fun v15 H16 =>
 AsBool v15 fun b17 =>
 Cd (notB b17) (
 Call1 Tryz.prog con 161 [(a 0), (a 1), (a 2), (a 11)] H16 fun v18 H19 =>
 K (.exit 1) (upd (upd (upd (upd (upd (upd (upd (upd (upd (upd (upd (upd (upd (upd (upd (upd (upd (upd (upd (upd (upd (upd (upd (upd (upd (upd (upd (upd (upd (upd (upd (upd (upd (upd a 73 (a 1)) 74 (.bool (ltZ (Int.ofNat 0) z1))) 75 (.bool (ltZ (Int.ofNat 0) z1))) 75 (.bool true)) 76 (a 0)) 75 (.bool true)) 77 (a 1)) 75 (.bool true)) 78 (i64 (Int.sub z2 (Int.ofNat 1)))) 75 (.bool true)) 79 (ptr p3 (Nat.add o4 (Nat.mul n7 1)))) 75 (.bool true)) 80 v8) 75 (.bool true)) 81 (a 0)) 75 (.bool true)) 82 (a 11)) 75 (.bool true)) 83 (ptr p9 (Nat.add o10 (Nat.mul n13 1)))) 75 (.bool true)) 84 v14) 75 (.bool true)) 85 v15) 75 (.bool true)) 86 (.bool (notB b17))) 87 (.bool (notB b17))) 88 (a 0)) 89 (a 1)) 90 (a 2)) 91 (a 11)) 92 v18) 13 v18) 93 v18) 1 v18) H19) (
 K .normal (upd (upd (upd (upd (upd (upd (upd (upd (upd (upd (upd (upd (upd (upd (upd (upd (upd (upd (upd (upd (upd (upd (upd (upd (upd (upd a 73 (a 1)) 74 (.bool (ltZ (Int.ofNat 0) z1))) 75 (.bool (ltZ (Int.ofNat 0) z1))) 75 (.bool true)) 76 (a 0)) 75 (.bool true)) 77 (a 1)) 75 (.bool true)) 78 (i64 (Int.sub z2 (Int.ofNat 1)))) 75 (.bool true)) 79 (ptr p3 (Nat.add o4 (Nat.mul n7 1)))) 75 (.bool true)) 80 v8) 75 (.bool true)) 81 (a 0)) 75 (.bool true)) 82 (a 11)) 75 (.bool true)) 83 (ptr p9 (Nat.add o10 (Nat.mul n13 1)))) 75 (.bool true)) 84 v14) 75 (.bool true)) 85 v15) 75 (.bool true)) 86 (.bool (notB b17))) 87 (.bool (notB b17))) H16))))) (
 K .normal (upd (upd (upd (upd (upd (upd (upd (upd (upd (upd (upd (upd (upd (upd (upd (upd (upd (upd (upd (upd (upd (upd (upd (upd (upd (upd a 73 (a 1)) 74 (.bool (ltZ (Int.ofNat 0) z1))) 75 (.bool (ltZ (Int.ofNat 0) z1))) 75 (.bool false)) 76 (.tuple ⟨[]⟩)) 75 (.bool false)) 77 (.tuple ⟨[]⟩)) 75 (.bool false)) 78 (.tuple ⟨[]⟩)) 75 (.bool false)) 79 (.tuple ⟨[]⟩)) 75 (.bool false)) 80 (.tuple ⟨[]⟩)) 75 (.bool false)) 81 (.tuple ⟨[]⟩)) 75 (.bool false)) 82 (.tuple ⟨[]⟩)) 75 (.bool false)) 83 (.tuple ⟨[]⟩)) 75 (.bool false)) 84 (.tuple ⟨[]⟩)) 75 (.bool false)) 85 (.tuple ⟨[]⟩)) 75 (.bool false)) 86 (.tuple ⟨[]⟩)) 87 (.bool false)) H)) := by kernel_rfl
theorem pdqD_W (con : CallT) (a : TF) (H : CH) (K : KX) : codeW (dropC 14 (blkC (lpAt Tryz.prog 148 0))) Tryz.prog con a H K =
 (Call1 Tryz.prog con 162 [(a 0), (a 1), (a 2), (a 11)] H fun v1 H2 =>
 AsTup v1 fun l3 =>
 Nth l3 0 fun v4 =>
 AsTup v1 fun l5 =>
 Nth l5 1 fun v6 =>
 AsInt .i64 v4 fun z7 =>
 AsInt .i64 (a 1) fun z8 =>
 InR (Int.sub z7 z8) (
 AsInt .i64 (a 2) fun z9 =>
 AsInt .i64 v4 fun z10 =>
 InR (Int.sub z9 z10) (
 AsInt .i64 (a 10) fun z11 =>
 CInt .quo .i64 z11 (Int.ofNat 8) fun v12 =>
 Cd (ltZ (Int.sub z7 z8) (Int.sub z9 z10)) (
 AsInt .i64 v12 fun z13 =>
 Call1 Tryz.prog con 148 [(a 0), (a 1), v4, (a 3)] H2 fun v14 H15 =>
 AsInt .i64 v4 fun z16 =>
 InR (Int.add z16 (Int.ofNat 1)) (
 K .normal (upd (upd (upd (upd (upd (upd (upd (upd (upd (upd (upd (upd (upd (upd (upd (upd (upd (upd (upd (upd (upd (upd (upd (upd (upd (upd (upd (upd (upd (upd (upd (upd (upd (upd (upd (upd (upd (upd a 95 (a 0)) 96 (a 1)) 97 (a 2)) 98 (a 11)) 99 v1) 94 v1) 100 v4) 101 v6) 14 v4) 15 v6) 102 v6) 9 v6) 103 v4) 104 (a 1)) 105 (i64 (Int.sub z7 z8))) 106 (a 2)) 107 v4) 108 (i64 (Int.sub z9 z10))) 16 (i64 (Int.sub z7 z8))) 17 (i64 (Int.sub z9 z10))) 109 (a 10)) 110 v12) 18 v12) 111 (i64 (Int.sub z7 z8))) 112 (i64 (Int.sub z9 z10))) 113 (.bool (ltZ (Int.sub z7 z8) (Int.sub z9 z10)))) 114 (i64 (Int.sub z7 z8))) 115 v12) 116 (.bool (leZ z13 (Int.sub z7 z8)))) 8 (.bool (leZ z13 (Int.sub z7 z8)))) 117 (a 0)) 118 (a 1)) 119 v4) 120 (a 3)) 121 v14) 122 v4) 123 (i64 (Int.add z16 (Int.ofNat 1)))) 1 (i64 (Int.add z16 (Int.ofNat 1)))) H15)) (
 AsInt .i64 v12 fun z17 =>
 AsInt .i64 v4 fun z18 =>
 InR (Int.add z18 (Int.ofNat 1)) (
 Call1 Tryz.prog con 148 [(a 0), (i64 (Int.add z18 (Int.ofNat 1))), (a 2), (a 3)] H2 fun v19 H20 =>
 K .normal (upd (upd (upd (upd (upd (upd (upd (upd (upd (upd (upd (upd (upd (upd (upd (upd (upd (upd (upd (upd (upd (upd (upd (upd (upd (upd (upd (upd (upd (upd (upd (upd (upd (upd (upd (upd (upd (upd a 95 (a 0)) 96 (a 1)) 97 (a 2)) 98 (a 11)) 99 v1) 94 v1) 100 v4) 101 v6) 14 v4) 15 v6) 102 v6) 9 v6) 103 v4) 104 (a 1)) 105 (i64 (Int.sub z7 z8))) 106 (a 2)) 107 v4) 108 (i64 (Int.sub z9 z10))) 16 (i64 (Int.sub z7 z8))) 17 (i64 (Int.sub z9 z10))) 109 (a 10)) 110 v12) 18 v12) 111 (i64 (Int.sub z7 z8))) 112 (i64 (Int.sub z9 z10))) 113 (.bool (ltZ (Int.sub z7 z8) (Int.sub z9 z10)))) 124 (i64 (Int.sub z9 z10))) 125 v12) 126 (.bool (leZ z17 (Int.sub z9 z10)))) 8 (.bool (leZ z17 (Int.sub z9 z10)))) 127 (a 0)) 128 v4) 129 (i64 (Int.add z18 (Int.ofNat 1)))) 130 (a 2)) 131 (a 3)) 132 v19) 133 v4) 2 v4) H20))))) := by kernel_rfl
theorem bitsLen_W (con : CallT) (n : Nat) (H : CH) (K : KP) : funW Tryz.prog con 149 [u64 n] H K =
 (Call1 Tryz.prog con 164 [(u64 (n))] H fun v1 H2 =>
 K v1 H2) := by kernel_rfl
theorem insSort_W (con : CallT) (v : Value) (a b : Int) (H : CH) (K : KP) : funW Tryz.prog con 154 [v, i64 a, i64 b] H K =
 (InR (Int.add a (Int.ofNat 1)) (
 LoopC Tryz.prog con (lpAt Tryz.prog 154 0) (upd (upd (upd (upd (upd (upd (fun _ => undV) 2 (i64 b)) 1 (i64 a)) 0 v) 8 (i64 a)) 9 (i64 (Int.add a (Int.ofNat 1)))) 6 (i64 (Int.add a (Int.ofNat 1)))) H (fun e => ceP e
 (fun a1 H2 =>
 K (.tuple ⟨[]⟩) H2)
 (fun i3 => fun a1 H2 =>
 Cd (eqN i3 0) (
 K (.tuple ⟨[]⟩) H2) (
 False))
 (fun a1 H2 =>
 K (.tuple ⟨[]⟩) H2)))) := by kernel_rfl
theorem insSortA_W (con : CallT) (a : TF) (H : CH) (K : KX) : codeW (lpAt Tryz.prog 154 0) Tryz.prog con a H K =
 (AsInt .i64 (a 6) fun z1 =>
 AsInt .i64 (a 2) fun z2 =>
 Cd (ltZ z1 z2) (
 LoopC Tryz.prog con (lpAt Tryz.prog 154 1) (upd (upd (upd (upd (upd a 10 (a 6)) 11 (a 2)) 12 (.bool (ltZ z1 z2))) 15 (a 6)) 7 (a 6)) H (fun e => ceP e
 (fun a3 H4 =>
 AsInt .i64 (a3 6) fun z6 =>
 InR (Int.add z6 (Int.ofNat 1)) (
 K .normal (upd (upd (upd a3 13 (a3 6)) 14 (i64 (Int.add z6 (Int.ofNat 1)))) 6 (i64 (Int.add z6 (Int.ofNat 1)))) H4))
 (fun i5 => fun a3 H4 =>
 Cd (eqN i5 2) (
 AsInt .i64 (a3 6) fun z7 =>
 InR (Int.add z7 (Int.ofNat 1)) (
 K .normal (upd (upd (upd a3 13 (a3 6)) 14 (i64 (Int.add z7 (Int.ofNat 1)))) 6 (i64 (Int.add z7 (Int.ofNat 1)))) H4)) (
 Cd (eqN i5 1) (
 AsInt .i64 (a3 6) fun z8 =>
 InR (Int.add z8 (Int.ofNat 1)) (
 K .normal (upd (upd (upd a3 13 (a3 6)) 14 (i64 (Int.add z8 (Int.ofNat 1)))) 6 (i64 (Int.add z8 (Int.ofNat 1)))) H4)) (
 K (.exit i5) a3 H4)))
 (fun a3 H4 =>
 K .ret a3 H4))) (
 K (.exit 0) (upd (upd (upd a 10 (a 6)) 11 (a 2)) 12 (.bool (ltZ z1 z2))) H)) := by kernel_rfl
theorem insSortB_W (con : CallT) (a : TF) (H : CH) (K : KX) : codeW (lpAt Tryz.prog 154 1) Tryz.prog con a H K =
 (AsInt .i64 (a 7) fun z1 =>
 AsInt .i64 (a 1) fun z2 =>
 Cd (ltZ z2 z1) (
 AsSlc (a 0) fun p3 o4 l5 c6 =>
 AsCnt (a 7) fun n7 =>
 Must (ltN n7 l5) (
 Ld H p3 (Nat.add o4 (Nat.mul n7 1)) fun v8 =>
 AsInt .i64 (a 7) fun z9 =>
 InR (Int.sub z9 (Int.ofNat 1)) (
 AsSlc (a 0) fun p10 o11 l12 c13 =>
 AsCnt (i64 (Int.sub z9 (Int.ofNat 1))) fun n14 =>
 Must (ltN n14 l12) (
 Ld H p10 (Nat.add o11 (Nat.mul n14 1)) fun v15 =>
 Call1 Tryz.prog con 160 [v8, v15] H fun v16 H17 =>
 AsBool v16 fun b18 =>
 Cd b18 (
 AsInt .i64 (a 7) fun z19 =>
 InR (Int.sub z19 (Int.ofNat 1)) (
 AsInt .i64 (a 7) fun z20 =>
 InR (Int.sub z20 (Int.ofNat 1)) (
 AsSlc (a 0) fun p21 o22 l23 c24 =>
 AsCnt (i64 (Int.sub z20 (Int.ofNat 1))) fun n25 =>
 Must (ltN n25 l23) (
 Ld H17 p21 (Nat.add o22 (Nat.mul n25 1)) fun v26 =>
 AsSlc (a 0) fun p27 o28 l29 c30 =>
 AsCnt (a 7) fun n31 =>
 Must (ltN n31 l29) (
 Ld H17 p27 (Nat.add o28 (Nat.mul n31 1)) fun v32 =>
 AsSlc (a 0) fun p33 o34 l35 c36 =>
 AsCnt (a 7) fun n37 =>
 Must (ltN n37 l35) (
 Sc v26 (St H17 p33 (Nat.add o34 (Nat.mul n37 1)) [v26] fun H38 =>
 AsSlc (a 0) fun p39 o40 l41 c42 =>
 AsCnt (i64 (Int.sub z19 (Int.ofNat 1))) fun n43 =>
 Must (ltN n43 l41) (
 Sc v32 (St H38 p39 (Nat.add o40 (Nat.mul n43 1)) [v32] fun H44 =>
 AsInt .i64 (a 7) fun z45 =>
 InR (Int.sub z45 (Int.ofNat 1)) (
 K .normal (upd (upd (upd (upd (upd (upd (upd (upd (upd (upd (upd (upd (upd (upd (upd (upd (upd (upd (upd (upd (upd (upd (upd (upd (upd (upd (upd (upd (upd (upd (upd (upd (upd (upd (upd (upd (upd (upd (upd (upd (upd (upd (upd (upd a 16 (a 7)) 17 (a 1)) 18 (.bool (ltZ z2 z1))) 19 (.bool (ltZ z2 z1))) 19 (.bool true)) 20 (a 0)) 19 (.bool true)) 21 (a 7)) 19 (.bool true)) 22 (ptr p3 (Nat.add o4 (Nat.mul n7 1)))) 19 (.bool true)) 23 v8) 19 (.bool true)) 24 (a 0)) 19 (.bool true)) 25 (a 7)) 19 (.bool true)) 26 (i64 (Int.sub z9 (Int.ofNat 1)))) 19 (.bool true)) 27 (ptr p10 (Nat.add o11 (Nat.mul n14 1)))) 19 (.bool true)) 28 v15) 19 (.bool true)) 29 v16) 30 v16) 33 (a 0)) 34 (a 7)) 35 (a 0)) 36 (a 7)) 37 (i64 (Int.sub z19 (Int.ofNat 1)))) 38 (a 0)) 39 (a 7)) 40 (i64 (Int.sub z20 (Int.ofNat 1)))) 41 (ptr p21 (Nat.add o22 (Nat.mul n25 1)))) 42 v26) 43 (a 0)) 44 (a 7)) 45 (ptr p27 (Nat.add o28 (Nat.mul n31 1)))) 46 v32) 47 (ptr p33 (Nat.add o34 (Nat.mul n37 1)))) 48 (ptr p39 (Nat.add o40 (Nat.mul n43 1)))) 31 (a 7)) 32 (i64 (Int.sub z45 (Int.ofNat 1)))) 7 (i64 (Int.sub z45 (Int.ofNat 1)))) H44)))))))))) (
 K (.exit 2) (upd (upd (upd (upd (upd (upd (upd (upd (upd (upd (upd (upd (upd (upd (upd (upd (upd (upd (upd (upd (upd (upd (upd (upd (upd a 16 (a 7)) 17 (a 1)) 18 (.bool (ltZ z2 z1))) 19 (.bool (ltZ z2 z1))) 19 (.bool true)) 20 (a 0)) 19 (.bool true)) 21 (a 7)) 19 (.bool true)) 22 (ptr p3 (Nat.add o4 (Nat.mul n7 1)))) 19 (.bool true)) 23 v8) 19 (.bool true)) 24 (a 0)) 19 (.bool true)) 25 (a 7)) 19 (.bool true)) 26 (i64 (Int.sub z9 (Int.ofNat 1)))) 19 (.bool true)) 27 (ptr p10 (Nat.add o11 (Nat.mul n14 1)))) 19 (.bool true)) 28 v15) 19 (.bool true)) 29 v16) 30 v16) H17))))) (
 K (.exit 2) (upd (upd (upd (upd (upd (upd (upd (upd (upd (upd (upd (upd (upd (upd (upd (upd (upd (upd (upd (upd (upd (upd (upd (upd (upd a 16 (a 7)) 17 (a 1)) 18 (.bool (ltZ z2 z1))) 19 (.bool (ltZ z2 z1))) 19 (.bool false)) 20 (.tuple ⟨[]⟩)) 19 (.bool false)) 21 (.tuple ⟨[]⟩)) 19 (.bool false)) 22 (.tuple ⟨[]⟩)) 19 (.bool false)) 23 (.tuple ⟨[]⟩)) 19 (.bool false)) 24 (.tuple ⟨[]⟩)) 19 (.bool false)) 25 (.tuple ⟨[]⟩)) 19 (.bool false)) 26 (.tuple ⟨[]⟩)) 19 (.bool false)) 27 (.tuple ⟨[]⟩)) 19 (.bool false)) 28 (.tuple ⟨[]⟩)) 19 (.bool false)) 29 (.tuple ⟨[]⟩)) 30 (.bool false)) H)) := by kernel_rfl
theorem heapSort_W (con : CallT) (v : Value) (a b : Int) (H : CH) (K : KP) : funW Tryz.prog con 155 [v, i64 a, i64 b] H K =
 (InR (Int.sub b a) (
 InR (Int.sub (Int.sub b a) (Int.ofNat 1)) (
 CInt .quo .i64 (Int.sub (Int.sub b a) (Int.ofNat 1)) (Int.ofNat 2) fun v1 =>
 LoopC Tryz.prog con (lpAt Tryz.prog 155 0) (upd (upd (upd (upd (upd (upd (upd (upd (upd (upd (upd (upd (upd (upd (fun _ => undV) 2 (i64 b)) 1 (i64 a)) 0 v) 11 (i64 a)) 6 (i64 a)) 7 (iN (0))) 12 (i64 b)) 13 (i64 a)) 14 (i64 (Int.sub b a))) 8 (i64 (Int.sub b a))) 15 (i64 (Int.sub b a))) 16 (i64 (Int.sub (Int.sub b a) (Int.ofNat 1)))) 17 v1) 9 v1) H (fun e => ceP e
 (fun a2 H3 =>
 AsInt .i64 (a2 8) fun z5 =>
 InR (Int.sub z5 (Int.ofNat 1)) (
 LoopC Tryz.prog con (lpAt Tryz.prog 155 1) (upd (upd (upd a2 27 (a2 8)) 28 (i64 (Int.sub z5 (Int.ofNat 1)))) 10 (i64 (Int.sub z5 (Int.ofNat 1)))) H3 (fun e => ceP e
 (fun a6 H7 =>
 K (.tuple ⟨[]⟩) H7)
 (fun i8 => fun a6 H7 =>
 Cd (eqN i8 2) (
 K (.tuple ⟨[]⟩) H7) (
 False))
 (fun a6 H7 =>
 K (.tuple ⟨[]⟩) H7))))
 (fun i4 => fun a2 H3 =>
 Cd (eqN i4 0) (
 AsInt .i64 (a2 8) fun z9 =>
 InR (Int.sub z9 (Int.ofNat 1)) (
 LoopC Tryz.prog con (lpAt Tryz.prog 155 1) (upd (upd (upd a2 27 (a2 8)) 28 (i64 (Int.sub z9 (Int.ofNat 1)))) 10 (i64 (Int.sub z9 (Int.ofNat 1)))) H3 (fun e => ceP e
 (fun a10 H11 =>
 K (.tuple ⟨[]⟩) H11)
 (fun i12 => fun a10 H11 =>
 Cd (eqN i12 2) (
 K (.tuple ⟨[]⟩) H11) (
 False))
 (fun a10 H11 =>
 K (.tuple ⟨[]⟩) H11)))) (
 False))
 (fun a2 H3 =>
 K (.tuple ⟨[]⟩) H3))))) := by kernel_rfl
theorem heapSortA_W (con : CallT) (a : TF) (H : CH) (K : KX) : codeW (lpAt Tryz.prog 155 0) Tryz.prog con a H K =
 (AsInt .i64 (a 9) fun z1 =>
 Cd (leZ (Int.ofNat 0) z1) (
 Call1 Tryz.prog con 165 [(a 0), (a 9), (a 8), (a 6)] H fun v2 H3 =>
 AsInt .i64 (a 9) fun z4 =>
 InR (Int.sub z4 (Int.ofNat 1)) (
 K .normal (upd (upd (upd (upd (upd (upd (upd (upd (upd (upd a 18 (a 9)) 19 (.bool (leZ (Int.ofNat 0) z1))) 22 (a 0)) 23 (a 9)) 24 (a 8)) 25 (a 6)) 26 v2) 20 (a 9)) 21 (i64 (Int.sub z4 (Int.ofNat 1)))) 9 (i64 (Int.sub z4 (Int.ofNat 1)))) H3)) (
 K (.exit 0) (upd (upd a 18 (a 9)) 19 (.bool (leZ (Int.ofNat 0) z1))) H)) := by kernel_rfl
theorem heapSortB_W (con : CallT) (a : TF) (H : CH) (K : KX) : codeW (lpAt Tryz.prog 155 1) Tryz.prog con a H K =
 (AsInt .i64 (a 10) fun z1 =>
 Cd (leZ (Int.ofNat 0) z1) (
 AsInt .i64 (a 6) fun z2 =>
 AsInt .i64 (a 10) fun z3 =>
 InR (Int.add z2 z3) (
 AsInt .i64 (a 6) fun z4 =>
 AsInt .i64 (a 10) fun z5 =>
 InR (Int.add z4 z5) (
 AsSlc (a 0) fun p6 o7 l8 c9 =>
 AsCnt (i64 (Int.add z4 z5)) fun n10 =>
 Must (ltN n10 l8) (
 Ld H p6 (Nat.add o7 (Nat.mul n10 1)) fun v11 =>
 AsSlc (a 0) fun p12 o13 l14 c15 =>
 AsCnt (a 6) fun n16 =>
 Must (ltN n16 l14) (
 Ld H p12 (Nat.add o13 (Nat.mul n16 1)) fun v17 =>
 AsSlc (a 0) fun p18 o19 l20 c21 =>
 AsCnt (a 6) fun n22 =>
 Must (ltN n22 l20) (
 Sc v11 (St H p18 (Nat.add o19 (Nat.mul n22 1)) [v11] fun H23 =>
 AsSlc (a 0) fun p24 o25 l26 c27 =>
 AsCnt (i64 (Int.add z2 z3)) fun n28 =>
 Must (ltN n28 l26) (
 Sc v17 (St H23 p24 (Nat.add o25 (Nat.mul n28 1)) [v17] fun H29 =>
 Call1 Tryz.prog con 165 [(a 0), (a 7), (a 10), (a 6)] H29 fun v30 H31 =>
 AsInt .i64 (a 10) fun z32 =>
 InR (Int.sub z32 (Int.ofNat 1)) (
 K .normal (upd (upd (upd (upd (upd (upd (upd (upd (upd (upd (upd (upd (upd (upd (upd (upd (upd (upd (upd (upd (upd (upd (upd (upd (upd (upd (upd (upd a 29 (a 10)) 30 (.bool (leZ (Int.ofNat 0) z1))) 33 (a 0)) 34 (a 6)) 35 (a 0)) 36 (a 6)) 37 (a 10)) 38 (i64 (Int.add z2 z3))) 39 (a 0)) 40 (a 6)) 41 (a 10)) 42 (i64 (Int.add z4 z5))) 43 (ptr p6 (Nat.add o7 (Nat.mul n10 1)))) 44 v11) 45 (a 0)) 46 (a 6)) 47 (ptr p12 (Nat.add o13 (Nat.mul n16 1)))) 48 v17) 49 (ptr p18 (Nat.add o19 (Nat.mul n22 1)))) 50 (ptr p24 (Nat.add o25 (Nat.mul n28 1)))) 51 (a 0)) 52 (a 7)) 53 (a 10)) 54 (a 6)) 55 v30) 31 (a 10)) 32 (i64 (Int.sub z32 (Int.ofNat 1)))) 10 (i64 (Int.sub z32 (Int.ofNat 1)))) H31)))))))))) (
 K (.exit 2) (upd (upd a 29 (a 10)) 30 (.bool (leZ (Int.ofNat 0) z1))) H)) := by kernel_rfl
theorem siftDown_W (con : CallT) (v : Value) (a b c : Int) (H : CH) (K : KP) : funW Tryz.prog con 165 [v, i64 a, i64 b, i64 c] H K =
 (LoopC Tryz.prog con (lpAt Tryz.prog 165 0) (upd (upd (upd (upd (upd (upd (fun _ => undV) 3 (i64 c)) 2 (i64 b)) 1 (i64 a)) 0 v) 10 (i64 a)) 8 (i64 a)) H (fun e => ceP e
 (fun a1 H2 =>
 K (.tuple ⟨[]⟩) H2)
 (fun i3 => fun a1 H2 =>
 Cd (eqN i3 0) (
 K (.tuple ⟨[]⟩) H2) (
 False))
 (fun a1 H2 =>
 K (.tuple ⟨[]⟩) H2))) := by kernel_rfl
theorem breakPat_W (con : CallT) (v : Value) (a b : Int) (H : CH) (K : KP) : funW Tryz.prog con 156 [v, i64 a, i64 b] H K =
 (InR (Int.sub b a) (
 Cd (leZ (Int.ofNat 8) (Int.sub b a)) (
 Must (cvOk .i64 (Int.sub b a)) (
 Nw H (mkRow 317 0 [(u64 (0))]) fun p1 H2 =>
 St H2 p1 0 [(u64 ((wrapN .u64 (Int.sub b a))))] fun H3 =>
 Call1 Tryz.prog con 166 [(i64 (Int.sub b a))] H3 fun v4 H5 =>
 CInt .quo .i64 (Int.sub b a) (Int.ofNat 4) fun v6 =>
 AsInt .i64 v6 fun z7 =>
 CInt .mul .i64 z7 (Int.ofNat 2) fun v8 =>
 AsInt .i64 v8 fun z9 =>
 InR (Int.add a z9) (
 InR (Int.sub (Int.add a z9) (Int.ofNat 1)) (
 LoopC Tryz.prog con (lpAt Tryz.prog 156 0) (upd (upd (upd (upd (upd (upd (upd (upd (upd (upd (upd (upd (upd (upd (upd (upd (upd (upd (upd (upd (upd (upd (fun _ => undV) 2 (i64 b)) 1 (i64 a)) 0 v) 11 (i64 b)) 12 (i64 a)) 13 (i64 (Int.sub b a))) 6 (i64 (Int.sub b a))) 14 (i64 (Int.sub b a))) 15 (.bool (leZ (Int.ofNat 8) (Int.sub b a)))) 16 (i64 (Int.sub b a))) 17 (u64 ((wrapN .u64 (Int.sub b a))))) 7 (ptr p1 0)) 18 (i64 (Int.sub b a))) 19 v4) 8 v4) 20 (i64 a)) 21 (i64 (Int.sub b a))) 22 v6) 23 v8) 24 (i64 (Int.add a z9))) 25 (i64 (Int.sub (Int.add a z9) (Int.ofNat 1)))) 9 (i64 (Int.sub (Int.add a z9) (Int.ofNat 1)))) H5 (fun e => ceP e
 (fun a10 H11 =>
 K (.tuple ⟨[]⟩) H11)
 (fun i12 => fun a10 H11 =>
 Cd (eqN i12 0) (
 K (.tuple ⟨[]⟩) H11) (
 False))
 (fun a10 H11 =>
 K (.tuple ⟨[]⟩) H11)))))) (
 K (.tuple ⟨[]⟩) H))) := by kernel_rfl
theorem breakPatL_W (con : CallT) (a : TF) (H : CH) (K : KX) : codeW (lpAt Tryz.prog 156 0) Tryz.prog con a H K =
 (AsInt .i64 (a 6) fun z1 =>
 CInt .quo .i64 z1 (Int.ofNat 4) fun v2 =>
 AsInt .i64 v2 fun z3 =>
 CInt .mul .i64 z3 (Int.ofNat 2) fun v4 =>
 AsInt .i64 (a 1) fun z5 =>
 AsInt .i64 v4 fun z6 =>
 InR (Int.add z5 z6) (
 InR (Int.add (Int.add z5 z6) (Int.ofNat 1)) (
 AsInt .i64 (a 9) fun z7 =>
 Cd (leZ z7 (Int.add (Int.add z5 z6) (Int.ofNat 1))) (
 Call1 Tryz.prog con 167 [(a 7)] H fun v8 H9 =>
 AsNat .u64 (a 8) fun n10 =>
 AsNat .u64 v8 fun n11 =>
 CInt .and .u64 (Int.ofNat n11) (Int.ofNat (Go.CM.subM 18446744073709551616 n10 1)) fun v12 =>
 AsNat .u64 v12 fun n13 =>
 AsInt .i64 (a 6) fun z14 =>
 Cd (leZ z14 (IntKind.wrap .i64 (Int.ofNat n13))) (
 AsInt .i64 (a 6) fun z15 =>
 InR (Int.sub (IntKind.wrap .i64 (Int.ofNat n13)) z15) (
 AsInt .i64 (a 1) fun z16 =>
 InR (Int.add z16 (Int.sub (IntKind.wrap .i64 (Int.ofNat n13)) z15)) (
 AsInt .i64 (a 1) fun z17 =>
 InR (Int.add z17 (Int.sub (IntKind.wrap .i64 (Int.ofNat n13)) z15)) (
 AsSlc (a 0) fun p18 o19 l20 c21 =>
 AsCnt (i64 (Int.add z17 (Int.sub (IntKind.wrap .i64 (Int.ofNat n13)) z15))) fun n22 =>
 Must (ltN n22 l20) (
 Ld H9 p18 (Nat.add o19 (Nat.mul n22 1)) fun v23 =>
 AsSlc (a 0) fun p24 o25 l26 c27 =>
 AsCnt (a 9) fun n28 =>
 Must (ltN n28 l26) (
 Ld H9 p24 (Nat.add o25 (Nat.mul n28 1)) fun v29 =>
 AsSlc (a 0) fun p30 o31 l32 c33 =>
 AsCnt (a 9) fun n34 =>
 Must (ltN n34 l32) (
 Sc v23 (St H9 p30 (Nat.add o31 (Nat.mul n34 1)) [v23] fun H35 =>
 AsSlc (a 0) fun p36 o37 l38 c39 =>
 AsCnt (i64 (Int.add z16 (Int.sub (IntKind.wrap .i64 (Int.ofNat n13)) z15))) fun n40 =>
 Must (ltN n40 l38) (
 Sc v29 (St H35 p36 (Nat.add o37 (Nat.mul n40 1)) [v29] fun H41 =>
 AsInt .i64 (a 9) fun z42 =>
 InR (Int.add z42 (Int.ofNat 1)) (
 K .normal (upd (upd (upd (upd (upd (upd (upd (upd (upd (upd (upd (upd (upd (upd (upd (upd (upd (upd (upd (upd (upd (upd (upd (upd (upd (upd (upd (upd (upd (upd (upd (upd (upd (upd (upd (upd (upd (upd (upd (upd (upd (upd a 26 (a 9)) 27 (a 1)) 28 (a 6)) 29 v2) 30 v4) 31 (i64 (Int.add z5 z6))) 32 (i64 (Int.add (Int.add z5 z6) (Int.ofNat 1)))) 33 (.bool (leZ z7 (Int.add (Int.add z5 z6) (Int.ofNat 1))))) 36 v8) 37 (a 8)) 38 (u64 ((Go.CM.subM 18446744073709551616 n10 1)))) 39 v12) 40 (i64 (IntKind.wrap .i64 (Int.ofNat n13)))) 10 (i64 (IntKind.wrap .i64 (Int.ofNat n13)))) 41 (i64 (IntKind.wrap .i64 (Int.ofNat n13)))) 42 (a 6)) 43 (.bool (leZ z14 (IntKind.wrap .i64 (Int.ofNat n13))))) 44 (i64 (IntKind.wrap .i64 (Int.ofNat n13)))) 45 (a 6)) 46 (i64 (Int.sub (IntKind.wrap .i64 (Int.ofNat n13)) z15))) 10 (i64 (Int.sub (IntKind.wrap .i64 (Int.ofNat n13)) z15))) 47 (a 0)) 48 (a 9)) 49 (a 0)) 50 (a 1)) 51 (i64 (Int.sub (IntKind.wrap .i64 (Int.ofNat n13)) z15))) 52 (i64 (Int.add z16 (Int.sub (IntKind.wrap .i64 (Int.ofNat n13)) z15)))) 53 (a 0)) 54 (a 1)) 55 (i64 (Int.sub (IntKind.wrap .i64 (Int.ofNat n13)) z15))) 56 (i64 (Int.add z17 (Int.sub (IntKind.wrap .i64 (Int.ofNat n13)) z15)))) 57 (ptr p18 (Nat.add o19 (Nat.mul n22 1)))) 58 v23) 59 (a 0)) 60 (a 9)) 61 (ptr p24 (Nat.add o25 (Nat.mul n28 1)))) 62 v29) 63 (ptr p30 (Nat.add o31 (Nat.mul n34 1)))) 64 (ptr p36 (Nat.add o37 (Nat.mul n40 1)))) 34 (a 9)) 35 (i64 (Int.add z42 (Int.ofNat 1)))) 9 (i64 (Int.add z42 (Int.ofNat 1)))) H41))))))))))) (
 AsInt .i64 (a 1) fun z43 =>
 InR (Int.add z43 (IntKind.wrap .i64 (Int.ofNat n13))) (
 AsInt .i64 (a 1) fun z44 =>
 InR (Int.add z44 (IntKind.wrap .i64 (Int.ofNat n13))) (
 AsSlc (a 0) fun p45 o46 l47 c48 =>
 AsCnt (i64 (Int.add z44 (IntKind.wrap .i64 (Int.ofNat n13)))) fun n49 =>
 Must (ltN n49 l47) (
 Ld H9 p45 (Nat.add o46 (Nat.mul n49 1)) fun v50 =>
 AsSlc (a 0) fun p51 o52 l53 c54 =>
 AsCnt (a 9) fun n55 =>
 Must (ltN n55 l53) (
 Ld H9 p51 (Nat.add o52 (Nat.mul n55 1)) fun v56 =>
 AsSlc (a 0) fun p57 o58 l59 c60 =>
 AsCnt (a 9) fun n61 =>
 Must (ltN n61 l59) (
 Sc v50 (St H9 p57 (Nat.add o58 (Nat.mul n61 1)) [v50] fun H62 =>
 AsSlc (a 0) fun p63 o64 l65 c66 =>
 AsCnt (i64 (Int.add z43 (IntKind.wrap .i64 (Int.ofNat n13)))) fun n67 =>
 Must (ltN n67 l65) (
 Sc v56 (St H62 p63 (Nat.add o64 (Nat.mul n67 1)) [v56] fun H68 =>
 AsInt .i64 (a 9) fun z69 =>
 InR (Int.add z69 (Int.ofNat 1)) (
 K .normal (upd (upd (upd (upd (upd (upd (upd (upd (upd (upd (upd (upd (upd (upd (upd (upd (upd (upd (upd (upd (upd (upd (upd (upd (upd (upd (upd (upd (upd (upd (upd (upd (upd (upd (upd (upd (upd (upd a 26 (a 9)) 27 (a 1)) 28 (a 6)) 29 v2) 30 v4) 31 (i64 (Int.add z5 z6))) 32 (i64 (Int.add (Int.add z5 z6) (Int.ofNat 1)))) 33 (.bool (leZ z7 (Int.add (Int.add z5 z6) (Int.ofNat 1))))) 36 v8) 37 (a 8)) 38 (u64 ((Go.CM.subM 18446744073709551616 n10 1)))) 39 v12) 40 (i64 (IntKind.wrap .i64 (Int.ofNat n13)))) 10 (i64 (IntKind.wrap .i64 (Int.ofNat n13)))) 41 (i64 (IntKind.wrap .i64 (Int.ofNat n13)))) 42 (a 6)) 43 (.bool (leZ z14 (IntKind.wrap .i64 (Int.ofNat n13))))) 47 (a 0)) 48 (a 9)) 49 (a 0)) 50 (a 1)) 51 (i64 (IntKind.wrap .i64 (Int.ofNat n13)))) 52 (i64 (Int.add z43 (IntKind.wrap .i64 (Int.ofNat n13))))) 53 (a 0)) 54 (a 1)) 55 (i64 (IntKind.wrap .i64 (Int.ofNat n13)))) 56 (i64 (Int.add z44 (IntKind.wrap .i64 (Int.ofNat n13))))) 57 (ptr p45 (Nat.add o46 (Nat.mul n49 1)))) 58 v50) 59 (a 0)) 60 (a 9)) 61 (ptr p51 (Nat.add o52 (Nat.mul n55 1)))) 62 v56) 63 (ptr p57 (Nat.add o58 (Nat.mul n61 1)))) 64 (ptr p63 (Nat.add o64 (Nat.mul n67 1)))) 34 (a 9)) 35 (i64 (Int.add z69 (Int.ofNat 1)))) 9 (i64 (Int.add z69 (Int.ofNat 1)))) H68))))))))))) (
 K (.exit 0) (upd (upd (upd (upd (upd (upd (upd (upd a 26 (a 9)) 27 (a 1)) 28 (a 6)) 29 v2) 30 v4) 31 (i64 (Int.add z5 z6))) 32 (i64 (Int.add (Int.add z5 z6) (Int.ofNat 1)))) 33 (.bool (leZ z7 (Int.add (Int.add z5 z6) (Int.ofNat 1))))) H)))) := by kernel_rfl
theorem choosePiv_W (con : CallT) (v : Value) (a b : Int) (H : CH) (K : KP) : funW Tryz.prog con 157 [v, i64 a, i64 b] H K =
 (InR (Int.sub b a) (
 Nw H (mkRow 3 0 [(iN (0))]) fun p1 H2 =>
 CInt .quo .i64 (Int.sub b a) (Int.ofNat 4) fun v3 =>
 AsInt .i64 v3 fun z4 =>
 CInt .mul .i64 z4 (Int.ofNat 1) fun v5 =>
 AsInt .i64 v5 fun z6 =>
 InR (Int.add a z6) (
 CInt .quo .i64 (Int.sub b a) (Int.ofNat 4) fun v7 =>
 AsInt .i64 v7 fun z8 =>
 CInt .mul .i64 z8 (Int.ofNat 2) fun v9 =>
 AsInt .i64 v9 fun z10 =>
 InR (Int.add a z10) (
 CInt .quo .i64 (Int.sub b a) (Int.ofNat 4) fun v11 =>
 AsInt .i64 v11 fun z12 =>
 CInt .mul .i64 z12 (Int.ofNat 3) fun v13 =>
 AsInt .i64 v13 fun z14 =>
 InR (Int.add a z14) (
 Cd (leZ (Int.ofNat 8) (Int.sub b a)) (
 Cd (leZ (Int.ofNat 50) (Int.sub b a)) (
 Call1 Tryz.prog con 168 [v, (i64 (Int.add a z6)), (ptr p1 0)] H2 fun v15 H16 =>
 Call1 Tryz.prog con 168 [v, (i64 (Int.add a z10)), (ptr p1 0)] H16 fun v17 H18 =>
 Call1 Tryz.prog con 168 [v, (i64 (Int.add a z14)), (ptr p1 0)] H18 fun v19 H20 =>
 Call1 Tryz.prog con 169 [v, v15, v17, v19, (ptr p1 0)] H20 fun v21 H22 =>
 Ld H22 p1 0 fun v23 =>
 AsInt .i64 v23 fun z24 =>
 Cd (eqZ z24 (Int.ofNat 0)) (
 K (.tuple ⟨[v21, (iN (1))]⟩) H22) (
 AsInt .i64 v23 fun z25 =>
 Cd (eqZ z25 (Int.ofNat 12)) (
 K (.tuple ⟨[v21, (iN (2))]⟩) H22) (
 K (.tuple ⟨[v21, (iN (0))]⟩) H22))) (
 Call1 Tryz.prog con 169 [v, (i64 (Int.add a z6)), (i64 (Int.add a z10)), (i64 (Int.add a z14)), (ptr p1 0)] H2 fun v26 H27 =>
 Ld H27 p1 0 fun v28 =>
 AsInt .i64 v28 fun z29 =>
 Cd (eqZ z29 (Int.ofNat 0)) (
 K (.tuple ⟨[v26, (iN (1))]⟩) H27) (
 AsInt .i64 v28 fun z30 =>
 Cd (eqZ z30 (Int.ofNat 12)) (
 K (.tuple ⟨[v26, (iN (2))]⟩) H27) (
 K (.tuple ⟨[v26, (iN (0))]⟩) H27)))) (
 Ld H2 p1 0 fun v31 =>
 AsInt .i64 v31 fun z32 =>
 Cd (eqZ z32 (Int.ofNat 0)) (
 K (.tuple ⟨[(i64 (Int.add a z10)), (iN (1))]⟩) H2) (
 AsInt .i64 v31 fun z33 =>
 Cd (eqZ z33 (Int.ofNat 12)) (
 K (.tuple ⟨[(i64 (Int.add a z10)), (iN (2))]⟩) H2) (
 K (.tuple ⟨[(i64 (Int.add a z10)), (iN (0))]⟩) H2)))))))) := by kernel_rfl
theorem revRange_W (con : CallT) (v : Value) (a b : Int) (H : CH) (K : KP) : funW Tryz.prog con 158 [v, i64 a, i64 b] H K =
 (InR (Int.sub b (Int.ofNat 1)) (
 LoopC Tryz.prog con (lpAt Tryz.prog 158 0) (upd (upd (upd (upd (upd (upd (upd (upd (fun _ => undV) 2 (i64 b)) 1 (i64 a)) 0 v) 8 (i64 a)) 6 (i64 a)) 9 (i64 b)) 10 (i64 (Int.sub b (Int.ofNat 1)))) 7 (i64 (Int.sub b (Int.ofNat 1)))) H (fun e => ceP e
 (fun a1 H2 =>
 K (.tuple ⟨[]⟩) H2)
 (fun i3 => fun a1 H2 =>
 Cd (eqN i3 0) (
 K (.tuple ⟨[]⟩) H2) (
 False))
 (fun a1 H2 =>
 K (.tuple ⟨[]⟩) H2)))) := by kernel_rfl
theorem revRangeL_W (con : CallT) (a : TF) (H : CH) (K : KX) : codeW (lpAt Tryz.prog 158 0) Tryz.prog con a H K =
 (AsInt .i64 (a 6) fun z1 =>
 AsInt .i64 (a 7) fun z2 =>
 Cd (ltZ z1 z2) (
 AsSlc (a 0) fun p3 o4 l5 c6 =>
 AsCnt (a 7) fun n7 =>
 Must (ltN n7 l5) (
 Ld H p3 (Nat.add o4 (Nat.mul n7 1)) fun v8 =>
 AsSlc (a 0) fun p9 o10 l11 c12 =>
 AsCnt (a 6) fun n13 =>
 Must (ltN n13 l11) (
 Ld H p9 (Nat.add o10 (Nat.mul n13 1)) fun v14 =>
 AsSlc (a 0) fun p15 o16 l17 c18 =>
 AsCnt (a 6) fun n19 =>
 Must (ltN n19 l17) (
 Sc v8 (St H p15 (Nat.add o16 (Nat.mul n19 1)) [v8] fun H20 =>
 AsSlc (a 0) fun p21 o22 l23 c24 =>
 AsCnt (a 7) fun n25 =>
 Must (ltN n25 l23) (
 Sc v14 (St H20 p21 (Nat.add o22 (Nat.mul n25 1)) [v14] fun H26 =>
 AsInt .i64 (a 6) fun z27 =>
 InR (Int.add z27 (Int.ofNat 1)) (
 AsInt .i64 (a 7) fun z28 =>
 InR (Int.sub z28 (Int.ofNat 1)) (
 K .normal (upd (upd (upd (upd (upd (upd (upd (upd (upd (upd (upd (upd (upd (upd (upd (upd (upd (upd (upd (upd (upd (upd (upd a 11 (a 6)) 12 (a 7)) 13 (.bool (ltZ z1 z2))) 14 (a 0)) 15 (a 6)) 16 (a 0)) 17 (a 7)) 18 (a 0)) 19 (a 7)) 20 (ptr p3 (Nat.add o4 (Nat.mul n7 1)))) 21 v8) 22 (a 0)) 23 (a 6)) 24 (ptr p9 (Nat.add o10 (Nat.mul n13 1)))) 25 v14) 26 (ptr p15 (Nat.add o16 (Nat.mul n19 1)))) 27 (ptr p21 (Nat.add o22 (Nat.mul n25 1)))) 28 (a 6)) 29 (i64 (Int.add z27 (Int.ofNat 1)))) 6 (i64 (Int.add z27 (Int.ofNat 1)))) 30 (a 7)) 31 (i64 (Int.sub z28 (Int.ofNat 1)))) 7 (i64 (Int.sub z28 (Int.ofNat 1)))) H26))))))))) (
 K (.exit 0) (upd (upd (upd a 11 (a 6)) 12 (a 7)) 13 (.bool (ltZ z1 z2))) H)) := by kernel_rfl
theorem partIns_W (con : CallT) (v : Value) (a b : Int) (H : CH) (K : KP) : funW Tryz.prog con 159 [v, i64 a, i64 b] H K =
 (InR (Int.add a (Int.ofNat 1)) (
 LoopC Tryz.prog con (lpAt Tryz.prog 159 0) (upd (upd (upd (upd (upd (upd (upd (upd (fun _ => undV) 2 (i64 b)) 1 (i64 a)) 0 v) 6 (.bool false)) 11 (i64 a)) 12 (i64 (Int.add a (Int.ofNat 1)))) 7 (i64 (Int.add a (Int.ofNat 1)))) 8 (iN (0))) H (fun e => ceP e
 (fun a1 H2 =>
 K (.bool false) H2)
 (fun i3 => fun a1 H2 =>
 Cd (eqN i3 0) (
 K (.bool false) H2) (
 False))
 (fun a1 H2 =>
 K (a1 6) H2)))) := by kernel_rfl
theorem partInsA_W (con : CallT) (a : TF) (H : CH) (K : KX) : codeW (lpAt Tryz.prog 159 0) Tryz.prog con a H K =
 (AsInt .i64 (a 8) fun z1 =>
 Cd (ltZ z1 (Int.ofNat 5)) (
 LoopC Tryz.prog con (lpAt Tryz.prog 159 1) (upd (upd a 13 (a 8)) 14 (.bool (ltZ z1 (Int.ofNat 5)))) H (fun e => ceP e
 (fun a2 H3 =>
 AsInt .i64 (a2 7) fun z5 =>
 AsInt .i64 (a2 2) fun z6 =>
 Cd (eqZ z5 z6) (
 K .ret (upd (upd (upd (upd a2 35 (a2 7)) 36 (a2 2)) 37 (.bool (eqZ z5 z6))) 6 (.bool true)) H3) (
 AsInt .i64 (a2 2) fun z7 =>
 AsInt .i64 (a2 1) fun z8 =>
 InR (Int.sub z7 z8) (
 Cd (ltZ (Int.sub z7 z8) (Int.ofNat 50)) (
 K .ret (upd (upd (upd (upd (upd (upd (upd (upd a2 35 (a2 7)) 36 (a2 2)) 37 (.bool (eqZ z5 z6))) 38 (a2 2)) 39 (a2 1)) 40 (i64 (Int.sub z7 z8))) 41 (.bool (ltZ (Int.sub z7 z8) (Int.ofNat 50)))) 6 (.bool false)) H3) (
 AsInt .i64 (a2 7) fun z9 =>
 InR (Int.sub z9 (Int.ofNat 1)) (
 AsInt .i64 (a2 7) fun z10 =>
 InR (Int.sub z10 (Int.ofNat 1)) (
 AsSlc (a2 0) fun p11 o12 l13 c14 =>
 AsCnt (i64 (Int.sub z10 (Int.ofNat 1))) fun n15 =>
 Must (ltN n15 l13) (
 Ld H3 p11 (Nat.add o12 (Nat.mul n15 1)) fun v16 =>
 AsSlc (a2 0) fun p17 o18 l19 c20 =>
 AsCnt (a2 7) fun n21 =>
 Must (ltN n21 l19) (
 Ld H3 p17 (Nat.add o18 (Nat.mul n21 1)) fun v22 =>
 AsSlc (a2 0) fun p23 o24 l25 c26 =>
 AsCnt (a2 7) fun n27 =>
 Must (ltN n27 l25) (
 Sc v16 (St H3 p23 (Nat.add o24 (Nat.mul n27 1)) [v16] fun H28 =>
 AsSlc (a2 0) fun p29 o30 l31 c32 =>
 AsCnt (i64 (Int.sub z9 (Int.ofNat 1))) fun n33 =>
 Must (ltN n33 l31) (
 Sc v22 (St H28 p29 (Nat.add o30 (Nat.mul n33 1)) [v22] fun H34 =>
 AsInt .i64 (a2 7) fun z35 =>
 AsInt .i64 (a2 1) fun z36 =>
 InR (Int.sub z35 z36) (
 Cd (leZ (Int.ofNat 2) (Int.sub z35 z36)) (
 AsInt .i64 (a2 7) fun z37 =>
 InR (Int.sub z37 (Int.ofNat 1)) (
 LoopC Tryz.prog con (lpAt Tryz.prog 159 2) (upd (upd (upd (upd (upd (upd (upd (upd (upd (upd (upd (upd (upd (upd (upd (upd (upd (upd (upd (upd (upd (upd (upd (upd (upd (upd (upd (upd (upd (upd a2 35 (a2 7)) 36 (a2 2)) 37 (.bool (eqZ z5 z6))) 38 (a2 2)) 39 (a2 1)) 40 (i64 (Int.sub z7 z8))) 41 (.bool (ltZ (Int.sub z7 z8) (Int.ofNat 50)))) 42 (a2 0)) 43 (a2 7)) 44 (a2 0)) 45 (a2 7)) 46 (i64 (Int.sub z9 (Int.ofNat 1)))) 47 (a2 0)) 48 (a2 7)) 49 (i64 (Int.sub z10 (Int.ofNat 1)))) 50 (ptr p11 (Nat.add o12 (Nat.mul n15 1)))) 51 v16) 52 (a2 0)) 53 (a2 7)) 54 (ptr p17 (Nat.add o18 (Nat.mul n21 1)))) 55 v22) 56 (ptr p23 (Nat.add o24 (Nat.mul n27 1)))) 57 (ptr p29 (Nat.add o30 (Nat.mul n33 1)))) 58 (a2 7)) 59 (a2 1)) 60 (i64 (Int.sub z35 z36))) 61 (.bool (leZ (Int.ofNat 2) (Int.sub z35 z36)))) 62 (a2 7)) 63 (i64 (Int.sub z37 (Int.ofNat 1)))) 9 (i64 (Int.sub z37 (Int.ofNat 1)))) H34 (fun e => ceP e
 (fun a38 H39 =>
 AsInt .i64 (a38 2) fun z41 =>
 AsInt .i64 (a38 7) fun z42 =>
 InR (Int.sub z41 z42) (
 Cd (leZ (Int.ofNat 2) (Int.sub z41 z42)) (
 AsInt .i64 (a38 7) fun z43 =>
 InR (Int.add z43 (Int.ofNat 1)) (
 LoopC Tryz.prog con (lpAt Tryz.prog 159 3) (upd (upd (upd (upd (upd (upd (upd a38 95 (a38 2)) 96 (a38 7)) 97 (i64 (Int.sub z41 z42))) 98 (.bool (leZ (Int.ofNat 2) (Int.sub z41 z42)))) 99 (a38 7)) 100 (i64 (Int.add z43 (Int.ofNat 1)))) 10 (i64 (Int.add z43 (Int.ofNat 1)))) H39 (fun e => ceP e
 (fun a44 H45 =>
 AsInt .i64 (a44 8) fun z47 =>
 InR (Int.add z47 (Int.ofNat 1)) (
 K .normal (upd (upd (upd a44 15 (a44 8)) 16 (i64 (Int.add z47 (Int.ofNat 1)))) 8 (i64 (Int.add z47 (Int.ofNat 1)))) H45))
 (fun i46 => fun a44 H45 =>
 Cd (eqN i46 6) (
 AsInt .i64 (a44 8) fun z48 =>
 InR (Int.add z48 (Int.ofNat 1)) (
 K .normal (upd (upd (upd a44 15 (a44 8)) 16 (i64 (Int.add z48 (Int.ofNat 1)))) 8 (i64 (Int.add z48 (Int.ofNat 1)))) H45)) (
 Cd (eqN i46 1) (
 AsInt .i64 (a44 8) fun z49 =>
 InR (Int.add z49 (Int.ofNat 1)) (
 K .normal (upd (upd (upd a44 15 (a44 8)) 16 (i64 (Int.add z49 (Int.ofNat 1)))) 8 (i64 (Int.add z49 (Int.ofNat 1)))) H45)) (
 K (.exit i46) a44 H45)))
 (fun a44 H45 =>
 K .ret a44 H45)))) (
 AsInt .i64 (a38 8) fun z50 =>
 InR (Int.add z50 (Int.ofNat 1)) (
 K .normal (upd (upd (upd (upd (upd (upd (upd a38 95 (a38 2)) 96 (a38 7)) 97 (i64 (Int.sub z41 z42))) 98 (.bool (leZ (Int.ofNat 2) (Int.sub z41 z42)))) 15 (a38 8)) 16 (i64 (Int.add z50 (Int.ofNat 1)))) 8 (i64 (Int.add z50 (Int.ofNat 1)))) H39))))
 (fun i40 => fun a38 H39 =>
 Cd (eqN i40 4) (
 AsInt .i64 (a38 2) fun z51 =>
 AsInt .i64 (a38 7) fun z52 =>
 InR (Int.sub z51 z52) (
 Cd (leZ (Int.ofNat 2) (Int.sub z51 z52)) (
 AsInt .i64 (a38 7) fun z53 =>
 InR (Int.add z53 (Int.ofNat 1)) (
 LoopC Tryz.prog con (lpAt Tryz.prog 159 3) (upd (upd (upd (upd (upd (upd (upd a38 95 (a38 2)) 96 (a38 7)) 97 (i64 (Int.sub z51 z52))) 98 (.bool (leZ (Int.ofNat 2) (Int.sub z51 z52)))) 99 (a38 7)) 100 (i64 (Int.add z53 (Int.ofNat 1)))) 10 (i64 (Int.add z53 (Int.ofNat 1)))) H39 (fun e => ceP e
 (fun a54 H55 =>
 AsInt .i64 (a54 8) fun z57 =>
 InR (Int.add z57 (Int.ofNat 1)) (
 K .normal (upd (upd (upd a54 15 (a54 8)) 16 (i64 (Int.add z57 (Int.ofNat 1)))) 8 (i64 (Int.add z57 (Int.ofNat 1)))) H55))
 (fun i56 => fun a54 H55 =>
 Cd (eqN i56 6) (
 AsInt .i64 (a54 8) fun z58 =>
 InR (Int.add z58 (Int.ofNat 1)) (
 K .normal (upd (upd (upd a54 15 (a54 8)) 16 (i64 (Int.add z58 (Int.ofNat 1)))) 8 (i64 (Int.add z58 (Int.ofNat 1)))) H55)) (
 Cd (eqN i56 1) (
 AsInt .i64 (a54 8) fun z59 =>
 InR (Int.add z59 (Int.ofNat 1)) (
 K .normal (upd (upd (upd a54 15 (a54 8)) 16 (i64 (Int.add z59 (Int.ofNat 1)))) 8 (i64 (Int.add z59 (Int.ofNat 1)))) H55)) (
 K (.exit i56) a54 H55)))
 (fun a54 H55 =>
 K .ret a54 H55)))) (
 AsInt .i64 (a38 8) fun z60 =>
 InR (Int.add z60 (Int.ofNat 1)) (
 K .normal (upd (upd (upd (upd (upd (upd (upd a38 95 (a38 2)) 96 (a38 7)) 97 (i64 (Int.sub z51 z52))) 98 (.bool (leZ (Int.ofNat 2) (Int.sub z51 z52)))) 15 (a38 8)) 16 (i64 (Int.add z60 (Int.ofNat 1)))) 8 (i64 (Int.add z60 (Int.ofNat 1)))) H39)))) (
 Cd (eqN i40 1) (
 AsInt .i64 (a38 8) fun z61 =>
 InR (Int.add z61 (Int.ofNat 1)) (
 K .normal (upd (upd (upd a38 15 (a38 8)) 16 (i64 (Int.add z61 (Int.ofNat 1)))) 8 (i64 (Int.add z61 (Int.ofNat 1)))) H39)) (
 K (.exit i40) a38 H39)))
 (fun a38 H39 =>
 K .ret a38 H39)))) (
 AsInt .i64 (a2 2) fun z62 =>
 AsInt .i64 (a2 7) fun z63 =>
 InR (Int.sub z62 z63) (
 Cd (leZ (Int.ofNat 2) (Int.sub z62 z63)) (
 AsInt .i64 (a2 7) fun z64 =>
 InR (Int.add z64 (Int.ofNat 1)) (
 LoopC Tryz.prog con (lpAt Tryz.prog 159 3) (upd (upd (upd (upd (upd (upd (upd (upd (upd (upd (upd (upd (upd (upd (upd (upd (upd (upd (upd (upd (upd (upd (upd (upd (upd (upd (upd (upd (upd (upd (upd (upd (upd (upd a2 35 (a2 7)) 36 (a2 2)) 37 (.bool (eqZ z5 z6))) 38 (a2 2)) 39 (a2 1)) 40 (i64 (Int.sub z7 z8))) 41 (.bool (ltZ (Int.sub z7 z8) (Int.ofNat 50)))) 42 (a2 0)) 43 (a2 7)) 44 (a2 0)) 45 (a2 7)) 46 (i64 (Int.sub z9 (Int.ofNat 1)))) 47 (a2 0)) 48 (a2 7)) 49 (i64 (Int.sub z10 (Int.ofNat 1)))) 50 (ptr p11 (Nat.add o12 (Nat.mul n15 1)))) 51 v16) 52 (a2 0)) 53 (a2 7)) 54 (ptr p17 (Nat.add o18 (Nat.mul n21 1)))) 55 v22) 56 (ptr p23 (Nat.add o24 (Nat.mul n27 1)))) 57 (ptr p29 (Nat.add o30 (Nat.mul n33 1)))) 58 (a2 7)) 59 (a2 1)) 60 (i64 (Int.sub z35 z36))) 61 (.bool (leZ (Int.ofNat 2) (Int.sub z35 z36)))) 95 (a2 2)) 96 (a2 7)) 97 (i64 (Int.sub z62 z63))) 98 (.bool (leZ (Int.ofNat 2) (Int.sub z62 z63)))) 99 (a2 7)) 100 (i64 (Int.add z64 (Int.ofNat 1)))) 10 (i64 (Int.add z64 (Int.ofNat 1)))) H34 (fun e => ceP e
 (fun a65 H66 =>
 AsInt .i64 (a65 8) fun z68 =>
 InR (Int.add z68 (Int.ofNat 1)) (
 K .normal (upd (upd (upd a65 15 (a65 8)) 16 (i64 (Int.add z68 (Int.ofNat 1)))) 8 (i64 (Int.add z68 (Int.ofNat 1)))) H66))
 (fun i67 => fun a65 H66 =>
 Cd (eqN i67 6) (
 AsInt .i64 (a65 8) fun z69 =>
 InR (Int.add z69 (Int.ofNat 1)) (
 K .normal (upd (upd (upd a65 15 (a65 8)) 16 (i64 (Int.add z69 (Int.ofNat 1)))) 8 (i64 (Int.add z69 (Int.ofNat 1)))) H66)) (
 Cd (eqN i67 1) (
 AsInt .i64 (a65 8) fun z70 =>
 InR (Int.add z70 (Int.ofNat 1)) (
 K .normal (upd (upd (upd a65 15 (a65 8)) 16 (i64 (Int.add z70 (Int.ofNat 1)))) 8 (i64 (Int.add z70 (Int.ofNat 1)))) H66)) (
 K (.exit i67) a65 H66)))
 (fun a65 H66 =>
 K .ret a65 H66)))) (
 AsInt .i64 (a2 8) fun z71 =>
 InR (Int.add z71 (Int.ofNat 1)) (
 K .normal (upd (upd (upd (upd (upd (upd (upd (upd (upd (upd (upd (upd (upd (upd (upd (upd (upd (upd (upd (upd (upd (upd (upd (upd (upd (upd (upd (upd (upd (upd (upd (upd (upd (upd a2 35 (a2 7)) 36 (a2 2)) 37 (.bool (eqZ z5 z6))) 38 (a2 2)) 39 (a2 1)) 40 (i64 (Int.sub z7 z8))) 41 (.bool (ltZ (Int.sub z7 z8) (Int.ofNat 50)))) 42 (a2 0)) 43 (a2 7)) 44 (a2 0)) 45 (a2 7)) 46 (i64 (Int.sub z9 (Int.ofNat 1)))) 47 (a2 0)) 48 (a2 7)) 49 (i64 (Int.sub z10 (Int.ofNat 1)))) 50 (ptr p11 (Nat.add o12 (Nat.mul n15 1)))) 51 v16) 52 (a2 0)) 53 (a2 7)) 54 (ptr p17 (Nat.add o18 (Nat.mul n21 1)))) 55 v22) 56 (ptr p23 (Nat.add o24 (Nat.mul n27 1)))) 57 (ptr p29 (Nat.add o30 (Nat.mul n33 1)))) 58 (a2 7)) 59 (a2 1)) 60 (i64 (Int.sub z35 z36))) 61 (.bool (leZ (Int.ofNat 2) (Int.sub z35 z36)))) 95 (a2 2)) 96 (a2 7)) 97 (i64 (Int.sub z62 z63))) 98 (.bool (leZ (Int.ofNat 2) (Int.sub z62 z63)))) 15 (a2 8)) 16 (i64 (Int.add z71 (Int.ofNat 1)))) 8 (i64 (Int.add z71 (Int.ofNat 1)))) H34)))))))))))))))))
 (fun i4 => fun a2 H3 =>
 Cd (eqN i4 2) (
 AsInt .i64 (a2 7) fun z72 =>
 AsInt .i64 (a2 2) fun z73 =>
 Cd (eqZ z72 z73) (
 K .ret (upd (upd (upd (upd a2 35 (a2 7)) 36 (a2 2)) 37 (.bool (eqZ z72 z73))) 6 (.bool true)) H3) (
 AsInt .i64 (a2 2) fun z74 =>
 AsInt .i64 (a2 1) fun z75 =>
 InR (Int.sub z74 z75) (
 Cd (ltZ (Int.sub z74 z75) (Int.ofNat 50)) (
 K .ret (upd (upd (upd (upd (upd (upd (upd (upd a2 35 (a2 7)) 36 (a2 2)) 37 (.bool (eqZ z72 z73))) 38 (a2 2)) 39 (a2 1)) 40 (i64 (Int.sub z74 z75))) 41 (.bool (ltZ (Int.sub z74 z75) (Int.ofNat 50)))) 6 (.bool false)) H3) (
 AsInt .i64 (a2 7) fun z76 =>
 InR (Int.sub z76 (Int.ofNat 1)) (
 AsInt .i64 (a2 7) fun z77 =>
 InR (Int.sub z77 (Int.ofNat 1)) (
 AsSlc (a2 0) fun p78 o79 l80 c81 =>
 AsCnt (i64 (Int.sub z77 (Int.ofNat 1))) fun n82 =>
 Must (ltN n82 l80) (
 Ld H3 p78 (Nat.add o79 (Nat.mul n82 1)) fun v83 =>
 AsSlc (a2 0) fun p84 o85 l86 c87 =>
 AsCnt (a2 7) fun n88 =>
 Must (ltN n88 l86) (
 Ld H3 p84 (Nat.add o85 (Nat.mul n88 1)) fun v89 =>
 AsSlc (a2 0) fun p90 o91 l92 c93 =>
 AsCnt (a2 7) fun n94 =>
 Must (ltN n94 l92) (
 Sc v83 (St H3 p90 (Nat.add o91 (Nat.mul n94 1)) [v83] fun H95 =>
 AsSlc (a2 0) fun p96 o97 l98 c99 =>
 AsCnt (i64 (Int.sub z76 (Int.ofNat 1))) fun n100 =>
 Must (ltN n100 l98) (
 Sc v89 (St H95 p96 (Nat.add o97 (Nat.mul n100 1)) [v89] fun H101 =>
 AsInt .i64 (a2 7) fun z102 =>
 AsInt .i64 (a2 1) fun z103 =>
 InR (Int.sub z102 z103) (
 Cd (leZ (Int.ofNat 2) (Int.sub z102 z103)) (
 AsInt .i64 (a2 7) fun z104 =>
 InR (Int.sub z104 (Int.ofNat 1)) (
 LoopC Tryz.prog con (lpAt Tryz.prog 159 2) (upd (upd (upd (upd (upd (upd (upd (upd (upd (upd (upd (upd (upd (upd (upd (upd (upd (upd (upd (upd (upd (upd (upd (upd (upd (upd (upd (upd (upd (upd a2 35 (a2 7)) 36 (a2 2)) 37 (.bool (eqZ z72 z73))) 38 (a2 2)) 39 (a2 1)) 40 (i64 (Int.sub z74 z75))) 41 (.bool (ltZ (Int.sub z74 z75) (Int.ofNat 50)))) 42 (a2 0)) 43 (a2 7)) 44 (a2 0)) 45 (a2 7)) 46 (i64 (Int.sub z76 (Int.ofNat 1)))) 47 (a2 0)) 48 (a2 7)) 49 (i64 (Int.sub z77 (Int.ofNat 1)))) 50 (ptr p78 (Nat.add o79 (Nat.mul n82 1)))) 51 v83) 52 (a2 0)) 53 (a2 7)) 54 (ptr p84 (Nat.add o85 (Nat.mul n88 1)))) 55 v89) 56 (ptr p90 (Nat.add o91 (Nat.mul n94 1)))) 57 (ptr p96 (Nat.add o97 (Nat.mul n100 1)))) 58 (a2 7)) 59 (a2 1)) 60 (i64 (Int.sub z102 z103))) 61 (.bool (leZ (Int.ofNat 2) (Int.sub z102 z103)))) 62 (a2 7)) 63 (i64 (Int.sub z104 (Int.ofNat 1)))) 9 (i64 (Int.sub z104 (Int.ofNat 1)))) H101 (fun e => ceP e
 (fun a105 H106 =>
 AsInt .i64 (a105 2) fun z108 =>
 AsInt .i64 (a105 7) fun z109 =>
 InR (Int.sub z108 z109) (
 Cd (leZ (Int.ofNat 2) (Int.sub z108 z109)) (
 AsInt .i64 (a105 7) fun z110 =>
 InR (Int.add z110 (Int.ofNat 1)) (
 LoopC Tryz.prog con (lpAt Tryz.prog 159 3) (upd (upd (upd (upd (upd (upd (upd a105 95 (a105 2)) 96 (a105 7)) 97 (i64 (Int.sub z108 z109))) 98 (.bool (leZ (Int.ofNat 2) (Int.sub z108 z109)))) 99 (a105 7)) 100 (i64 (Int.add z110 (Int.ofNat 1)))) 10 (i64 (Int.add z110 (Int.ofNat 1)))) H106 (fun e => ceP e
 (fun a111 H112 =>
 AsInt .i64 (a111 8) fun z114 =>
 InR (Int.add z114 (Int.ofNat 1)) (
 K .normal (upd (upd (upd a111 15 (a111 8)) 16 (i64 (Int.add z114 (Int.ofNat 1)))) 8 (i64 (Int.add z114 (Int.ofNat 1)))) H112))
 (fun i113 => fun a111 H112 =>
 Cd (eqN i113 6) (
 AsInt .i64 (a111 8) fun z115 =>
 InR (Int.add z115 (Int.ofNat 1)) (
 K .normal (upd (upd (upd a111 15 (a111 8)) 16 (i64 (Int.add z115 (Int.ofNat 1)))) 8 (i64 (Int.add z115 (Int.ofNat 1)))) H112)) (
 Cd (eqN i113 1) (
 AsInt .i64 (a111 8) fun z116 =>
 InR (Int.add z116 (Int.ofNat 1)) (
 K .normal (upd (upd (upd a111 15 (a111 8)) 16 (i64 (Int.add z116 (Int.ofNat 1)))) 8 (i64 (Int.add z116 (Int.ofNat 1)))) H112)) (
 K (.exit i113) a111 H112)))
 (fun a111 H112 =>
 K .ret a111 H112)))) (
 AsInt .i64 (a105 8) fun z117 =>
 InR (Int.add z117 (Int.ofNat 1)) (
 K .normal (upd (upd (upd (upd (upd (upd (upd a105 95 (a105 2)) 96 (a105 7)) 97 (i64 (Int.sub z108 z109))) 98 (.bool (leZ (Int.ofNat 2) (Int.sub z108 z109)))) 15 (a105 8)) 16 (i64 (Int.add z117 (Int.ofNat 1)))) 8 (i64 (Int.add z117 (Int.ofNat 1)))) H106))))
 (fun i107 => fun a105 H106 =>
 Cd (eqN i107 4) (
 AsInt .i64 (a105 2) fun z118 =>
 AsInt .i64 (a105 7) fun z119 =>
 InR (Int.sub z118 z119) (
 Cd (leZ (Int.ofNat 2) (Int.sub z118 z119)) (
 AsInt .i64 (a105 7) fun z120 =>
 InR (Int.add z120 (Int.ofNat 1)) (
 LoopC Tryz.prog con (lpAt Tryz.prog 159 3) (upd (upd (upd (upd (upd (upd (upd a105 95 (a105 2)) 96 (a105 7)) 97 (i64 (Int.sub z118 z119))) 98 (.bool (leZ (Int.ofNat 2) (Int.sub z118 z119)))) 99 (a105 7)) 100 (i64 (Int.add z120 (Int.ofNat 1)))) 10 (i64 (Int.add z120 (Int.ofNat 1)))) H106 (fun e => ceP e
 (fun a121 H122 =>
 AsInt .i64 (a121 8) fun z124 =>
 InR (Int.add z124 (Int.ofNat 1)) (
 K .normal (upd (upd (upd a121 15 (a121 8)) 16 (i64 (Int.add z124 (Int.ofNat 1)))) 8 (i64 (Int.add z124 (Int.ofNat 1)))) H122))
 (fun i123 => fun a121 H122 =>
 Cd (eqN i123 6) (
 AsInt .i64 (a121 8) fun z125 =>
 InR (Int.add z125 (Int.ofNat 1)) (
 K .normal (upd (upd (upd a121 15 (a121 8)) 16 (i64 (Int.add z125 (Int.ofNat 1)))) 8 (i64 (Int.add z125 (Int.ofNat 1)))) H122)) (
 Cd (eqN i123 1) (
 AsInt .i64 (a121 8) fun z126 =>
 InR (Int.add z126 (Int.ofNat 1)) (
 K .normal (upd (upd (upd a121 15 (a121 8)) 16 (i64 (Int.add z126 (Int.ofNat 1)))) 8 (i64 (Int.add z126 (Int.ofNat 1)))) H122)) (
 K (.exit i123) a121 H122)))
 (fun a121 H122 =>
 K .ret a121 H122)))) (
 AsInt .i64 (a105 8) fun z127 =>
 InR (Int.add z127 (Int.ofNat 1)) (
 K .normal (upd (upd (upd (upd (upd (upd (upd a105 95 (a105 2)) 96 (a105 7)) 97 (i64 (Int.sub z118 z119))) 98 (.bool (leZ (Int.ofNat 2) (Int.sub z118 z119)))) 15 (a105 8)) 16 (i64 (Int.add z127 (Int.ofNat 1)))) 8 (i64 (Int.add z127 (Int.ofNat 1)))) H106)))) (
 Cd (eqN i107 1) (
 AsInt .i64 (a105 8) fun z128 =>
 InR (Int.add z128 (Int.ofNat 1)) (
 K .normal (upd (upd (upd a105 15 (a105 8)) 16 (i64 (Int.add z128 (Int.ofNat 1)))) 8 (i64 (Int.add z128 (Int.ofNat 1)))) H106)) (
 K (.exit i107) a105 H106)))
 (fun a105 H106 =>
 K .ret a105 H106)))) (
 AsInt .i64 (a2 2) fun z129 =>
 AsInt .i64 (a2 7) fun z130 =>
 InR (Int.sub z129 z130) (
 Cd (leZ (Int.ofNat 2) (Int.sub z129 z130)) (
 AsInt .i64 (a2 7) fun z131 =>
 InR (Int.add z131 (Int.ofNat 1)) (
 LoopC Tryz.prog con (lpAt Tryz.prog 159 3) (upd (upd (upd (upd (upd (upd (upd (upd (upd (upd (upd (upd (upd (upd (upd (upd (upd (upd (upd (upd (upd (upd (upd (upd (upd (upd (upd (upd (upd (upd (upd (upd (upd (upd a2 35 (a2 7)) 36 (a2 2)) 37 (.bool (eqZ z72 z73))) 38 (a2 2)) 39 (a2 1)) 40 (i64 (Int.sub z74 z75))) 41 (.bool (ltZ (Int.sub z74 z75) (Int.ofNat 50)))) 42 (a2 0)) 43 (a2 7)) 44 (a2 0)) 45 (a2 7)) 46 (i64 (Int.sub z76 (Int.ofNat 1)))) 47 (a2 0)) 48 (a2 7)) 49 (i64 (Int.sub z77 (Int.ofNat 1)))) 50 (ptr p78 (Nat.add o79 (Nat.mul n82 1)))) 51 v83) 52 (a2 0)) 53 (a2 7)) 54 (ptr p84 (Nat.add o85 (Nat.mul n88 1)))) 55 v89) 56 (ptr p90 (Nat.add o91 (Nat.mul n94 1)))) 57 (ptr p96 (Nat.add o97 (Nat.mul n100 1)))) 58 (a2 7)) 59 (a2 1)) 60 (i64 (Int.sub z102 z103))) 61 (.bool (leZ (Int.ofNat 2) (Int.sub z102 z103)))) 95 (a2 2)) 96 (a2 7)) 97 (i64 (Int.sub z129 z130))) 98 (.bool (leZ (Int.ofNat 2) (Int.sub z129 z130)))) 99 (a2 7)) 100 (i64 (Int.add z131 (Int.ofNat 1)))) 10 (i64 (Int.add z131 (Int.ofNat 1)))) H101 (fun e => ceP e
 (fun a132 H133 =>
 AsInt .i64 (a132 8) fun z135 =>
 InR (Int.add z135 (Int.ofNat 1)) (
 K .normal (upd (upd (upd a132 15 (a132 8)) 16 (i64 (Int.add z135 (Int.ofNat 1)))) 8 (i64 (Int.add z135 (Int.ofNat 1)))) H133))
 (fun i134 => fun a132 H133 =>
 Cd (eqN i134 6) (
 AsInt .i64 (a132 8) fun z136 =>
 InR (Int.add z136 (Int.ofNat 1)) (
 K .normal (upd (upd (upd a132 15 (a132 8)) 16 (i64 (Int.add z136 (Int.ofNat 1)))) 8 (i64 (Int.add z136 (Int.ofNat 1)))) H133)) (
 Cd (eqN i134 1) (
 AsInt .i64 (a132 8) fun z137 =>
 InR (Int.add z137 (Int.ofNat 1)) (
 K .normal (upd (upd (upd a132 15 (a132 8)) 16 (i64 (Int.add z137 (Int.ofNat 1)))) 8 (i64 (Int.add z137 (Int.ofNat 1)))) H133)) (
 K (.exit i134) a132 H133)))
 (fun a132 H133 =>
 K .ret a132 H133)))) (
 AsInt .i64 (a2 8) fun z138 =>
 InR (Int.add z138 (Int.ofNat 1)) (
 K .normal (upd (upd (upd (upd (upd (upd (upd (upd (upd (upd (upd (upd (upd (upd (upd (upd (upd (upd (upd (upd (upd (upd (upd (upd (upd (upd (upd (upd (upd (upd (upd (upd (upd (upd a2 35 (a2 7)) 36 (a2 2)) 37 (.bool (eqZ z72 z73))) 38 (a2 2)) 39 (a2 1)) 40 (i64 (Int.sub z74 z75))) 41 (.bool (ltZ (Int.sub z74 z75) (Int.ofNat 50)))) 42 (a2 0)) 43 (a2 7)) 44 (a2 0)) 45 (a2 7)) 46 (i64 (Int.sub z76 (Int.ofNat 1)))) 47 (a2 0)) 48 (a2 7)) 49 (i64 (Int.sub z77 (Int.ofNat 1)))) 50 (ptr p78 (Nat.add o79 (Nat.mul n82 1)))) 51 v83) 52 (a2 0)) 53 (a2 7)) 54 (ptr p84 (Nat.add o85 (Nat.mul n88 1)))) 55 v89) 56 (ptr p90 (Nat.add o91 (Nat.mul n94 1)))) 57 (ptr p96 (Nat.add o97 (Nat.mul n100 1)))) 58 (a2 7)) 59 (a2 1)) 60 (i64 (Int.sub z102 z103))) 61 (.bool (leZ (Int.ofNat 2) (Int.sub z102 z103)))) 95 (a2 2)) 96 (a2 7)) 97 (i64 (Int.sub z129 z130))) 98 (.bool (leZ (Int.ofNat 2) (Int.sub z129 z130)))) 15 (a2 8)) 16 (i64 (Int.add z138 (Int.ofNat 1)))) 8 (i64 (Int.add z138 (Int.ofNat 1)))) H101))))))))))))))))) (
 Cd (eqN i4 1) (
 AsInt .i64 (a2 8) fun z139 =>
 InR (Int.add z139 (Int.ofNat 1)) (
 K .normal (upd (upd (upd a2 15 (a2 8)) 16 (i64 (Int.add z139 (Int.ofNat 1)))) 8 (i64 (Int.add z139 (Int.ofNat 1)))) H3)) (
 K (.exit i4) a2 H3)))
 (fun a2 H3 =>
 K .ret a2 H3))) (
 K (.exit 0) (upd (upd a 13 (a 8)) 14 (.bool (ltZ z1 (Int.ofNat 5)))) H)) := by kernel_rfl
theorem partInsB_W (con : CallT) (a : TF) (H : CH) (K : KX) : codeW (lpAt Tryz.prog 159 1) Tryz.prog con a H K =
 (AsInt .i64 (a 7) fun z1 =>
 AsInt .i64 (a 2) fun z2 =>
 Cd (ltZ z1 z2) (
 AsSlc (a 0) fun p3 o4 l5 c6 =>
 AsCnt (a 7) fun n7 =>
 Must (ltN n7 l5) (
 Ld H p3 (Nat.add o4 (Nat.mul n7 1)) fun v8 =>
 AsInt .i64 (a 7) fun z9 =>
 InR (Int.sub z9 (Int.ofNat 1)) (
 AsSlc (a 0) fun p10 o11 l12 c13 =>
 AsCnt (i64 (Int.sub z9 (Int.ofNat 1))) fun n14 =>
 Must (ltN n14 l12) (
 Ld H p10 (Nat.add o11 (Nat.mul n14 1)) fun v15 =>
 Call1 Tryz.prog con 160 [v8, v15] H fun v16 H17 =>
 AsBool v16 fun b18 =>
 Cd (notB b18) (
 AsInt .i64 (a 7) fun z19 =>
 InR (Int.add z19 (Int.ofNat 1)) (
 K .normal (upd (upd (upd (upd (upd (upd (upd (upd (upd (upd (upd (upd (upd (upd (upd (upd (upd (upd (upd (upd (upd (upd (upd (upd (upd (upd (upd (upd (upd (upd a 17 (a 7)) 18 (a 2)) 19 (.bool (ltZ z1 z2))) 20 (.bool (ltZ z1 z2))) 20 (.bool true)) 21 (a 0)) 20 (.bool true)) 22 (a 7)) 20 (.bool true)) 23 (ptr p3 (Nat.add o4 (Nat.mul n7 1)))) 20 (.bool true)) 24 v8) 20 (.bool true)) 25 (a 0)) 20 (.bool true)) 26 (a 7)) 20 (.bool true)) 27 (i64 (Int.sub z9 (Int.ofNat 1)))) 20 (.bool true)) 28 (ptr p10 (Nat.add o11 (Nat.mul n14 1)))) 20 (.bool true)) 29 v15) 20 (.bool true)) 30 v16) 20 (.bool true)) 31 (.bool (notB b18))) 32 (.bool (notB b18))) 33 (a 7)) 34 (i64 (Int.add z19 (Int.ofNat 1)))) 7 (i64 (Int.add z19 (Int.ofNat 1)))) H17)) (
 K (.exit 2) (upd (upd (upd (upd (upd (upd (upd (upd (upd (upd (upd (upd (upd (upd (upd (upd (upd (upd (upd (upd (upd (upd (upd (upd (upd (upd (upd a 17 (a 7)) 18 (a 2)) 19 (.bool (ltZ z1 z2))) 20 (.bool (ltZ z1 z2))) 20 (.bool true)) 21 (a 0)) 20 (.bool true)) 22 (a 7)) 20 (.bool true)) 23 (ptr p3 (Nat.add o4 (Nat.mul n7 1)))) 20 (.bool true)) 24 v8) 20 (.bool true)) 25 (a 0)) 20 (.bool true)) 26 (a 7)) 20 (.bool true)) 27 (i64 (Int.sub z9 (Int.ofNat 1)))) 20 (.bool true)) 28 (ptr p10 (Nat.add o11 (Nat.mul n14 1)))) 20 (.bool true)) 29 v15) 20 (.bool true)) 30 v16) 20 (.bool true)) 31 (.bool (notB b18))) 32 (.bool (notB b18))) H17))))) (
 K (.exit 2) (upd (upd (upd (upd (upd (upd (upd (upd (upd (upd (upd (upd (upd (upd (upd (upd (upd (upd (upd (upd (upd (upd (upd (upd (upd (upd (upd a 17 (a 7)) 18 (a 2)) 19 (.bool (ltZ z1 z2))) 20 (.bool (ltZ z1 z2))) 20 (.bool false)) 21 (.tuple ⟨[]⟩)) 20 (.bool false)) 22 (.tuple ⟨[]⟩)) 20 (.bool false)) 23 (.tuple ⟨[]⟩)) 20 (.bool false)) 24 (.tuple ⟨[]⟩)) 20 (.bool false)) 25 (.tuple ⟨[]⟩)) 20 (.bool false)) 26 (.tuple ⟨[]⟩)) 20 (.bool false)) 27 (.tuple ⟨[]⟩)) 20 (.bool false)) 28 (.tuple ⟨[]⟩)) 20 (.bool false)) 29 (.tuple ⟨[]⟩)) 20 (.bool false)) 30 (.tuple ⟨[]⟩)) 20 (.bool false)) 31 (.tuple ⟨[]⟩)) 32 (.bool false)) H)) := by kernel_rfl
theorem partInsC_W (con : CallT) (a : TF) (H : CH) (K : KX) : codeW (lpAt Tryz.prog 159 2) Tryz.prog con a H K =
 (AsInt .i64 (a 9) fun z1 =>
 Cd (leZ (Int.ofNat 1) z1) (
 AsSlc (a 0) fun p2 o3 l4 c5 =>
 AsCnt (a 9) fun n6 =>
 Must (ltN n6 l4) (
 Ld H p2 (Nat.add o3 (Nat.mul n6 1)) fun v7 =>
 AsInt .i64 (a 9) fun z8 =>
 InR (Int.sub z8 (Int.ofNat 1)) (
 AsSlc (a 0) fun p9 o10 l11 c12 =>
 AsCnt (i64 (Int.sub z8 (Int.ofNat 1))) fun n13 =>
 Must (ltN n13 l11) (
 Ld H p9 (Nat.add o10 (Nat.mul n13 1)) fun v14 =>
 Call1 Tryz.prog con 160 [v7, v14] H fun v15 H16 =>
 AsBool v15 fun b17 =>
 Cd (notB b17) (
 K (.exit 4) (upd (upd (upd (upd (upd (upd (upd (upd (upd (upd (upd (upd (upd a 64 (a 9)) 65 (.bool (leZ (Int.ofNat 1) z1))) 68 (a 0)) 69 (a 9)) 70 (ptr p2 (Nat.add o3 (Nat.mul n6 1)))) 71 v7) 72 (a 0)) 73 (a 9)) 74 (i64 (Int.sub z8 (Int.ofNat 1)))) 75 (ptr p9 (Nat.add o10 (Nat.mul n13 1)))) 76 v14) 77 v15) 78 (.bool (notB b17))) H16) (
 AsInt .i64 (a 9) fun z18 =>
 InR (Int.sub z18 (Int.ofNat 1)) (
 AsInt .i64 (a 9) fun z19 =>
 InR (Int.sub z19 (Int.ofNat 1)) (
 AsSlc (a 0) fun p20 o21 l22 c23 =>
 AsCnt (i64 (Int.sub z19 (Int.ofNat 1))) fun n24 =>
 Must (ltN n24 l22) (
 Ld H16 p20 (Nat.add o21 (Nat.mul n24 1)) fun v25 =>
 AsSlc (a 0) fun p26 o27 l28 c29 =>
 AsCnt (a 9) fun n30 =>
 Must (ltN n30 l28) (
 Ld H16 p26 (Nat.add o27 (Nat.mul n30 1)) fun v31 =>
 AsSlc (a 0) fun p32 o33 l34 c35 =>
 AsCnt (a 9) fun n36 =>
 Must (ltN n36 l34) (
 Sc v25 (St H16 p32 (Nat.add o33 (Nat.mul n36 1)) [v25] fun H37 =>
 AsSlc (a 0) fun p38 o39 l40 c41 =>
 AsCnt (i64 (Int.sub z18 (Int.ofNat 1))) fun n42 =>
 Must (ltN n42 l40) (
 Sc v31 (St H37 p38 (Nat.add o39 (Nat.mul n42 1)) [v31] fun H43 =>
 AsInt .i64 (a 9) fun z44 =>
 InR (Int.sub z44 (Int.ofNat 1)) (
 K .normal (upd (upd (upd (upd (upd (upd (upd (upd (upd (upd (upd (upd (upd (upd (upd (upd (upd (upd (upd (upd (upd (upd (upd (upd (upd (upd (upd (upd (upd (upd (upd (upd a 64 (a 9)) 65 (.bool (leZ (Int.ofNat 1) z1))) 68 (a 0)) 69 (a 9)) 70 (ptr p2 (Nat.add o3 (Nat.mul n6 1)))) 71 v7) 72 (a 0)) 73 (a 9)) 74 (i64 (Int.sub z8 (Int.ofNat 1)))) 75 (ptr p9 (Nat.add o10 (Nat.mul n13 1)))) 76 v14) 77 v15) 78 (.bool (notB b17))) 79 (a 0)) 80 (a 9)) 81 (a 0)) 82 (a 9)) 83 (i64 (Int.sub z18 (Int.ofNat 1)))) 84 (a 0)) 85 (a 9)) 86 (i64 (Int.sub z19 (Int.ofNat 1)))) 87 (ptr p20 (Nat.add o21 (Nat.mul n24 1)))) 88 v25) 89 (a 0)) 90 (a 9)) 91 (ptr p26 (Nat.add o27 (Nat.mul n30 1)))) 92 v31) 93 (ptr p32 (Nat.add o33 (Nat.mul n36 1)))) 94 (ptr p38 (Nat.add o39 (Nat.mul n42 1)))) 66 (a 9)) 67 (i64 (Int.sub z44 (Int.ofNat 1)))) 9 (i64 (Int.sub z44 (Int.ofNat 1)))) H43)))))))))))))) (
 K (.exit 4) (upd (upd a 64 (a 9)) 65 (.bool (leZ (Int.ofNat 1) z1))) H)) := by kernel_rfl
theorem partInsD_W (con : CallT) (a : TF) (H : CH) (K : KX) : codeW (lpAt Tryz.prog 159 3) Tryz.prog con a H K =
 (AsInt .i64 (a 10) fun z1 =>
 AsInt .i64 (a 2) fun z2 =>
 Cd (ltZ z1 z2) (
 AsSlc (a 0) fun p3 o4 l5 c6 =>
 AsCnt (a 10) fun n7 =>
 Must (ltN n7 l5) (
 Ld H p3 (Nat.add o4 (Nat.mul n7 1)) fun v8 =>
 AsInt .i64 (a 10) fun z9 =>
 InR (Int.sub z9 (Int.ofNat 1)) (
 AsSlc (a 0) fun p10 o11 l12 c13 =>
 AsCnt (i64 (Int.sub z9 (Int.ofNat 1))) fun n14 =>
 Must (ltN n14 l12) (
 Ld H p10 (Nat.add o11 (Nat.mul n14 1)) fun v15 =>
 Call1 Tryz.prog con 160 [v8, v15] H fun v16 H17 =>
 AsBool v16 fun b18 =>
 Cd (notB b18) (
 K (.exit 6) (upd (upd (upd (upd (upd (upd (upd (upd (upd (upd (upd (upd (upd (upd a 101 (a 10)) 102 (a 2)) 103 (.bool (ltZ z1 z2))) 106 (a 0)) 107 (a 10)) 108 (ptr p3 (Nat.add o4 (Nat.mul n7 1)))) 109 v8) 110 (a 0)) 111 (a 10)) 112 (i64 (Int.sub z9 (Int.ofNat 1)))) 113 (ptr p10 (Nat.add o11 (Nat.mul n14 1)))) 114 v15) 115 v16) 116 (.bool (notB b18))) H17) (
 AsInt .i64 (a 10) fun z19 =>
 InR (Int.sub z19 (Int.ofNat 1)) (
 AsInt .i64 (a 10) fun z20 =>
 InR (Int.sub z20 (Int.ofNat 1)) (
 AsSlc (a 0) fun p21 o22 l23 c24 =>
 AsCnt (i64 (Int.sub z20 (Int.ofNat 1))) fun n25 =>
 Must (ltN n25 l23) (
 Ld H17 p21 (Nat.add o22 (Nat.mul n25 1)) fun v26 =>
 AsSlc (a 0) fun p27 o28 l29 c30 =>
 AsCnt (a 10) fun n31 =>
 Must (ltN n31 l29) (
 Ld H17 p27 (Nat.add o28 (Nat.mul n31 1)) fun v32 =>
 AsSlc (a 0) fun p33 o34 l35 c36 =>
 AsCnt (a 10) fun n37 =>
 Must (ltN n37 l35) (
 Sc v26 (St H17 p33 (Nat.add o34 (Nat.mul n37 1)) [v26] fun H38 =>
 AsSlc (a 0) fun p39 o40 l41 c42 =>
 AsCnt (i64 (Int.sub z19 (Int.ofNat 1))) fun n43 =>
 Must (ltN n43 l41) (
 Sc v32 (St H38 p39 (Nat.add o40 (Nat.mul n43 1)) [v32] fun H44 =>
 AsInt .i64 (a 10) fun z45 =>
 InR (Int.add z45 (Int.ofNat 1)) (
 K .normal (upd (upd (upd (upd (upd (upd (upd (upd (upd (upd (upd (upd (upd (upd (upd (upd (upd (upd (upd (upd (upd (upd (upd (upd (upd (upd (upd (upd (upd (upd (upd (upd (upd a 101 (a 10)) 102 (a 2)) 103 (.bool (ltZ z1 z2))) 106 (a 0)) 107 (a 10)) 108 (ptr p3 (Nat.add o4 (Nat.mul n7 1)))) 109 v8) 110 (a 0)) 111 (a 10)) 112 (i64 (Int.sub z9 (Int.ofNat 1)))) 113 (ptr p10 (Nat.add o11 (Nat.mul n14 1)))) 114 v15) 115 v16) 116 (.bool (notB b18))) 117 (a 0)) 118 (a 10)) 119 (a 0)) 120 (a 10)) 121 (i64 (Int.sub z19 (Int.ofNat 1)))) 122 (a 0)) 123 (a 10)) 124 (i64 (Int.sub z20 (Int.ofNat 1)))) 125 (ptr p21 (Nat.add o22 (Nat.mul n25 1)))) 126 v26) 127 (a 0)) 128 (a 10)) 129 (ptr p27 (Nat.add o28 (Nat.mul n31 1)))) 130 v32) 131 (ptr p33 (Nat.add o34 (Nat.mul n37 1)))) 132 (ptr p39 (Nat.add o40 (Nat.mul n43 1)))) 104 (a 10)) 105 (i64 (Int.add z45 (Int.ofNat 1)))) 10 (i64 (Int.add z45 (Int.ofNat 1)))) H44)))))))))))))) (
 K (.exit 6) (upd (upd (upd a 101 (a 10)) 102 (a 2)) 103 (.bool (ltZ z1 z2))) H)) := by kernel_rfl
theorem cmpLess_W (con : CallT) (x y : Nat) (H : CH) (K : KP) : funW Tryz.prog con 160 [u64 x, u64 y] H K =
 (Call1 Tryz.prog con 170 [(u64 (x))] H fun v1 H2 =>
 AsWant v1 (False) fun b3 =>
 Cd b3 (
 Call1 Tryz.prog con 170 [(u64 (y))] H2 fun v4 H5 =>
 AsBool v4 fun b6 =>
 Cd (notB b6) (
 K (.bool true) H5) (
 K (.bool (ltN x y)) H5)) (
 K (.bool (ltN x y)) H2)) := by kernel_rfl
theorem partEq_W (con : CallT) (v : Value) (a b c : Int) (H : CH) (K : KP) : funW Tryz.prog con 161 [v, i64 a, i64 b, i64 c] H K =
 (AsSlc v fun p1 o2 l3 c4 =>
 AsCnt (i64 c) fun n5 =>
 Must (ltN n5 l3) (
 Ld H p1 (Nat.add o2 (Nat.mul n5 1)) fun v6 =>
 AsSlc v fun p7 o8 l9 c10 =>
 AsCnt (i64 a) fun n11 =>
 Must (ltN n11 l9) (
 Ld H p7 (Nat.add o8 (Nat.mul n11 1)) fun v12 =>
 AsSlc v fun p13 o14 l15 c16 =>
 AsCnt (i64 a) fun n17 =>
 Must (ltN n17 l15) (
 Sc v6 (St H p13 (Nat.add o14 (Nat.mul n17 1)) [v6] fun H18 =>
 AsSlc v fun p19 o20 l21 c22 =>
 AsCnt (i64 c) fun n23 =>
 Must (ltN n23 l21) (
 Sc v12 (St H18 p19 (Nat.add o20 (Nat.mul n23 1)) [v12] fun H24 =>
 InR (Int.add a (Int.ofNat 1)) (
 InR (Int.sub b (Int.ofNat 1)) (
 LoopC Tryz.prog con (lpAt Tryz.prog 161 0) (upd (upd (upd (upd (upd (upd (upd (upd (upd (upd (upd (upd (upd (upd (upd (upd (upd (upd (upd (upd (upd (upd (upd (upd (upd (fun _ => undV) 3 (i64 c)) 2 (i64 b)) 1 (i64 a)) 0 v) 8 (iN (0))) 11 v) 12 (i64 a)) 13 v) 14 (i64 c)) 15 v) 16 (i64 c)) 17 (ptr p1 (Nat.add o2 (Nat.mul n5 1)))) 18 v6) 19 v) 20 (i64 a)) 21 (ptr p7 (Nat.add o8 (Nat.mul n11 1)))) 22 v12) 23 (ptr p13 (Nat.add o14 (Nat.mul n17 1)))) 24 (ptr p19 (Nat.add o20 (Nat.mul n23 1)))) 25 (i64 a)) 26 (i64 (Int.add a (Int.ofNat 1)))) 27 (i64 b)) 28 (i64 (Int.sub b (Int.ofNat 1)))) 9 (i64 (Int.add a (Int.ofNat 1)))) 10 (i64 (Int.sub b (Int.ofNat 1)))) H24 (fun e => ceP e
 (fun a25 H26 =>
 K (a25 9) H26)
 (fun i27 => fun a25 H26 =>
 Cd (eqN i27 0) (
 K (a25 9) H26) (
 False))
 (fun a25 H26 =>
 K (a25 8) H26))))))))))) := by kernel_rfl
theorem partEqA_W (con : CallT) (a : TF) (H : CH) (K : KX) : codeW (lpAt Tryz.prog 161 0) Tryz.prog con a H K =
 (LoopC Tryz.prog con (lpAt Tryz.prog 161 1) a H (fun e => ceP e
 (fun a1 H2 =>
 LoopC Tryz.prog con (lpAt Tryz.prog 161 2) a1 H2 (fun e => ceP e
 (fun a4 H5 =>
 AsInt .i64 (a4 9) fun z7 =>
 AsInt .i64 (a4 10) fun z8 =>
 Cd (ltZ z8 z7) (
 K (.exit 0) (upd (upd (upd a4 62 (a4 9)) 63 (a4 10)) 64 (.bool (ltZ z8 z7))) H5) (
 AsSlc (a4 0) fun p9 o10 l11 c12 =>
 AsCnt (a4 10) fun n13 =>
 Must (ltN n13 l11) (
 Ld H5 p9 (Nat.add o10 (Nat.mul n13 1)) fun v14 =>
 AsSlc (a4 0) fun p15 o16 l17 c18 =>
 AsCnt (a4 9) fun n19 =>
 Must (ltN n19 l17) (
 Ld H5 p15 (Nat.add o16 (Nat.mul n19 1)) fun v20 =>
 AsSlc (a4 0) fun p21 o22 l23 c24 =>
 AsCnt (a4 9) fun n25 =>
 Must (ltN n25 l23) (
 Sc v14 (St H5 p21 (Nat.add o22 (Nat.mul n25 1)) [v14] fun H26 =>
 AsSlc (a4 0) fun p27 o28 l29 c30 =>
 AsCnt (a4 10) fun n31 =>
 Must (ltN n31 l29) (
 Sc v20 (St H26 p27 (Nat.add o28 (Nat.mul n31 1)) [v20] fun H32 =>
 AsInt .i64 (a4 9) fun z33 =>
 InR (Int.add z33 (Int.ofNat 1)) (
 AsInt .i64 (a4 10) fun z34 =>
 InR (Int.sub z34 (Int.ofNat 1)) (
 K .normal (upd (upd (upd (upd (upd (upd (upd (upd (upd (upd (upd (upd (upd (upd (upd (upd (upd (upd (upd (upd (upd (upd (upd a4 62 (a4 9)) 63 (a4 10)) 64 (.bool (ltZ z8 z7))) 65 (a4 0)) 66 (a4 9)) 67 (a4 0)) 68 (a4 10)) 69 (a4 0)) 70 (a4 10)) 71 (ptr p9 (Nat.add o10 (Nat.mul n13 1)))) 72 v14) 73 (a4 0)) 74 (a4 9)) 75 (ptr p15 (Nat.add o16 (Nat.mul n19 1)))) 76 v20) 77 (ptr p21 (Nat.add o22 (Nat.mul n25 1)))) 78 (ptr p27 (Nat.add o28 (Nat.mul n31 1)))) 79 (a4 9)) 80 (i64 (Int.add z33 (Int.ofNat 1)))) 9 (i64 (Int.add z33 (Int.ofNat 1)))) 81 (a4 10)) 82 (i64 (Int.sub z34 (Int.ofNat 1)))) 10 (i64 (Int.sub z34 (Int.ofNat 1)))) H32))))))))))
 (fun i6 => fun a4 H5 =>
 Cd (eqN i6 4) (
 AsInt .i64 (a4 9) fun z35 =>
 AsInt .i64 (a4 10) fun z36 =>
 Cd (ltZ z36 z35) (
 K (.exit 0) (upd (upd (upd a4 62 (a4 9)) 63 (a4 10)) 64 (.bool (ltZ z36 z35))) H5) (
 AsSlc (a4 0) fun p37 o38 l39 c40 =>
 AsCnt (a4 10) fun n41 =>
 Must (ltN n41 l39) (
 Ld H5 p37 (Nat.add o38 (Nat.mul n41 1)) fun v42 =>
 AsSlc (a4 0) fun p43 o44 l45 c46 =>
 AsCnt (a4 9) fun n47 =>
 Must (ltN n47 l45) (
 Ld H5 p43 (Nat.add o44 (Nat.mul n47 1)) fun v48 =>
 AsSlc (a4 0) fun p49 o50 l51 c52 =>
 AsCnt (a4 9) fun n53 =>
 Must (ltN n53 l51) (
 Sc v42 (St H5 p49 (Nat.add o50 (Nat.mul n53 1)) [v42] fun H54 =>
 AsSlc (a4 0) fun p55 o56 l57 c58 =>
 AsCnt (a4 10) fun n59 =>
 Must (ltN n59 l57) (
 Sc v48 (St H54 p55 (Nat.add o56 (Nat.mul n59 1)) [v48] fun H60 =>
 AsInt .i64 (a4 9) fun z61 =>
 InR (Int.add z61 (Int.ofNat 1)) (
 AsInt .i64 (a4 10) fun z62 =>
 InR (Int.sub z62 (Int.ofNat 1)) (
 K .normal (upd (upd (upd (upd (upd (upd (upd (upd (upd (upd (upd (upd (upd (upd (upd (upd (upd (upd (upd (upd (upd (upd (upd a4 62 (a4 9)) 63 (a4 10)) 64 (.bool (ltZ z36 z35))) 65 (a4 0)) 66 (a4 9)) 67 (a4 0)) 68 (a4 10)) 69 (a4 0)) 70 (a4 10)) 71 (ptr p37 (Nat.add o38 (Nat.mul n41 1)))) 72 v42) 73 (a4 0)) 74 (a4 9)) 75 (ptr p43 (Nat.add o44 (Nat.mul n47 1)))) 76 v48) 77 (ptr p49 (Nat.add o50 (Nat.mul n53 1)))) 78 (ptr p55 (Nat.add o56 (Nat.mul n59 1)))) 79 (a4 9)) 80 (i64 (Int.add z61 (Int.ofNat 1)))) 9 (i64 (Int.add z61 (Int.ofNat 1)))) 81 (a4 10)) 82 (i64 (Int.sub z62 (Int.ofNat 1)))) 10 (i64 (Int.sub z62 (Int.ofNat 1)))) H60)))))))))) (
 Cd (eqN i6 1) (
 K .normal a4 H5) (
 K (.exit i6) a4 H5)))
 (fun a4 H5 =>
 K .ret a4 H5)))
 (fun i3 => fun a1 H2 =>
 Cd (eqN i3 2) (
 LoopC Tryz.prog con (lpAt Tryz.prog 161 2) a1 H2 (fun e => ceP e
 (fun a63 H64 =>
 AsInt .i64 (a63 9) fun z66 =>
 AsInt .i64 (a63 10) fun z67 =>
 Cd (ltZ z67 z66) (
 K (.exit 0) (upd (upd (upd a63 62 (a63 9)) 63 (a63 10)) 64 (.bool (ltZ z67 z66))) H64) (
 AsSlc (a63 0) fun p68 o69 l70 c71 =>
 AsCnt (a63 10) fun n72 =>
 Must (ltN n72 l70) (
 Ld H64 p68 (Nat.add o69 (Nat.mul n72 1)) fun v73 =>
 AsSlc (a63 0) fun p74 o75 l76 c77 =>
 AsCnt (a63 9) fun n78 =>
 Must (ltN n78 l76) (
 Ld H64 p74 (Nat.add o75 (Nat.mul n78 1)) fun v79 =>
 AsSlc (a63 0) fun p80 o81 l82 c83 =>
 AsCnt (a63 9) fun n84 =>
 Must (ltN n84 l82) (
 Sc v73 (St H64 p80 (Nat.add o81 (Nat.mul n84 1)) [v73] fun H85 =>
 AsSlc (a63 0) fun p86 o87 l88 c89 =>
 AsCnt (a63 10) fun n90 =>
 Must (ltN n90 l88) (
 Sc v79 (St H85 p86 (Nat.add o87 (Nat.mul n90 1)) [v79] fun H91 =>
 AsInt .i64 (a63 9) fun z92 =>
 InR (Int.add z92 (Int.ofNat 1)) (
 AsInt .i64 (a63 10) fun z93 =>
 InR (Int.sub z93 (Int.ofNat 1)) (
 K .normal (upd (upd (upd (upd (upd (upd (upd (upd (upd (upd (upd (upd (upd (upd (upd (upd (upd (upd (upd (upd (upd (upd (upd a63 62 (a63 9)) 63 (a63 10)) 64 (.bool (ltZ z67 z66))) 65 (a63 0)) 66 (a63 9)) 67 (a63 0)) 68 (a63 10)) 69 (a63 0)) 70 (a63 10)) 71 (ptr p68 (Nat.add o69 (Nat.mul n72 1)))) 72 v73) 73 (a63 0)) 74 (a63 9)) 75 (ptr p74 (Nat.add o75 (Nat.mul n78 1)))) 76 v79) 77 (ptr p80 (Nat.add o81 (Nat.mul n84 1)))) 78 (ptr p86 (Nat.add o87 (Nat.mul n90 1)))) 79 (a63 9)) 80 (i64 (Int.add z92 (Int.ofNat 1)))) 9 (i64 (Int.add z92 (Int.ofNat 1)))) 81 (a63 10)) 82 (i64 (Int.sub z93 (Int.ofNat 1)))) 10 (i64 (Int.sub z93 (Int.ofNat 1)))) H91))))))))))
 (fun i65 => fun a63 H64 =>
 Cd (eqN i65 4) (
 AsInt .i64 (a63 9) fun z94 =>
 AsInt .i64 (a63 10) fun z95 =>
 Cd (ltZ z95 z94) (
 K (.exit 0) (upd (upd (upd a63 62 (a63 9)) 63 (a63 10)) 64 (.bool (ltZ z95 z94))) H64) (
 AsSlc (a63 0) fun p96 o97 l98 c99 =>
 AsCnt (a63 10) fun n100 =>
 Must (ltN n100 l98) (
 Ld H64 p96 (Nat.add o97 (Nat.mul n100 1)) fun v101 =>
 AsSlc (a63 0) fun p102 o103 l104 c105 =>
 AsCnt (a63 9) fun n106 =>
 Must (ltN n106 l104) (
 Ld H64 p102 (Nat.add o103 (Nat.mul n106 1)) fun v107 =>
 AsSlc (a63 0) fun p108 o109 l110 c111 =>
 AsCnt (a63 9) fun n112 =>
 Must (ltN n112 l110) (
 Sc v101 (St H64 p108 (Nat.add o109 (Nat.mul n112 1)) [v101] fun H113 =>
 AsSlc (a63 0) fun p114 o115 l116 c117 =>
 AsCnt (a63 10) fun n118 =>
 Must (ltN n118 l116) (
 Sc v107 (St H113 p114 (Nat.add o115 (Nat.mul n118 1)) [v107] fun H119 =>
 AsInt .i64 (a63 9) fun z120 =>
 InR (Int.add z120 (Int.ofNat 1)) (
 AsInt .i64 (a63 10) fun z121 =>
 InR (Int.sub z121 (Int.ofNat 1)) (
 K .normal (upd (upd (upd (upd (upd (upd (upd (upd (upd (upd (upd (upd (upd (upd (upd (upd (upd (upd (upd (upd (upd (upd (upd a63 62 (a63 9)) 63 (a63 10)) 64 (.bool (ltZ z95 z94))) 65 (a63 0)) 66 (a63 9)) 67 (a63 0)) 68 (a63 10)) 69 (a63 0)) 70 (a63 10)) 71 (ptr p96 (Nat.add o97 (Nat.mul n100 1)))) 72 v101) 73 (a63 0)) 74 (a63 9)) 75 (ptr p102 (Nat.add o103 (Nat.mul n106 1)))) 76 v107) 77 (ptr p108 (Nat.add o109 (Nat.mul n112 1)))) 78 (ptr p114 (Nat.add o115 (Nat.mul n118 1)))) 79 (a63 9)) 80 (i64 (Int.add z120 (Int.ofNat 1)))) 9 (i64 (Int.add z120 (Int.ofNat 1)))) 81 (a63 10)) 82 (i64 (Int.sub z121 (Int.ofNat 1)))) 10 (i64 (Int.sub z121 (Int.ofNat 1)))) H119)))))))))) (
 Cd (eqN i65 1) (
 K .normal a63 H64) (
 K (.exit i65) a63 H64)))
 (fun a63 H64 =>
 K .ret a63 H64))) (
 Cd (eqN i3 1) (
 K .normal a1 H2) (
 K (.exit i3) a1 H2)))
 (fun a1 H2 =>
 K .ret a1 H2))) := by kernel_rfl
theorem partEqB_W (con : CallT) (a : TF) (H : CH) (K : KX) : codeW (lpAt Tryz.prog 161 1) Tryz.prog con a H K =
 (AsInt .i64 (a 9) fun z1 =>
 AsInt .i64 (a 10) fun z2 =>
 Cd (leZ z1 z2) (
 AsSlc (a 0) fun p3 o4 l5 c6 =>
 AsCnt (a 1) fun n7 =>
 Must (ltN n7 l5) (
 Ld H p3 (Nat.add o4 (Nat.mul n7 1)) fun v8 =>
 AsSlc (a 0) fun p9 o10 l11 c12 =>
 AsCnt (a 9) fun n13 =>
 Must (ltN n13 l11) (
 Ld H p9 (Nat.add o10 (Nat.mul n13 1)) fun v14 =>
 Call1 Tryz.prog con 160 [v8, v14] H fun v15 H16 =>
 AsBool v15 fun b17 =>
 Cd (notB b17) (
 AsInt .i64 (a 9) fun z18 =>
 InR (Int.add z18 (Int.ofNat 1)) (
 K .normal (upd (upd (upd (upd (upd (upd (upd (upd (upd (upd (upd (upd (upd (upd (upd (upd (upd (upd (upd (upd (upd (upd (upd (upd (upd (upd (upd (upd a 29 (a 9)) 30 (a 10)) 31 (.bool (leZ z1 z2))) 32 (.bool (leZ z1 z2))) 32 (.bool true)) 33 (a 0)) 32 (.bool true)) 34 (a 1)) 32 (.bool true)) 35 (ptr p3 (Nat.add o4 (Nat.mul n7 1)))) 32 (.bool true)) 36 v8) 32 (.bool true)) 37 (a 0)) 32 (.bool true)) 38 (a 9)) 32 (.bool true)) 39 (ptr p9 (Nat.add o10 (Nat.mul n13 1)))) 32 (.bool true)) 40 v14) 32 (.bool true)) 41 v15) 32 (.bool true)) 42 (.bool (notB b17))) 43 (.bool (notB b17))) 44 (a 9)) 45 (i64 (Int.add z18 (Int.ofNat 1)))) 9 (i64 (Int.add z18 (Int.ofNat 1)))) H16)) (
 K (.exit 2) (upd (upd (upd (upd (upd (upd (upd (upd (upd (upd (upd (upd (upd (upd (upd (upd (upd (upd (upd (upd (upd (upd (upd (upd (upd a 29 (a 9)) 30 (a 10)) 31 (.bool (leZ z1 z2))) 32 (.bool (leZ z1 z2))) 32 (.bool true)) 33 (a 0)) 32 (.bool true)) 34 (a 1)) 32 (.bool true)) 35 (ptr p3 (Nat.add o4 (Nat.mul n7 1)))) 32 (.bool true)) 36 v8) 32 (.bool true)) 37 (a 0)) 32 (.bool true)) 38 (a 9)) 32 (.bool true)) 39 (ptr p9 (Nat.add o10 (Nat.mul n13 1)))) 32 (.bool true)) 40 v14) 32 (.bool true)) 41 v15) 32 (.bool true)) 42 (.bool (notB b17))) 43 (.bool (notB b17))) H16)))) (
 K (.exit 2) (upd (upd (upd (upd (upd (upd (upd (upd (upd (upd (upd (upd (upd (upd (upd (upd (upd (upd (upd (upd (upd (upd (upd (upd (upd a 29 (a 9)) 30 (a 10)) 31 (.bool (leZ z1 z2))) 32 (.bool (leZ z1 z2))) 32 (.bool false)) 33 (.tuple ⟨[]⟩)) 32 (.bool false)) 34 (.tuple ⟨[]⟩)) 32 (.bool false)) 35 (.tuple ⟨[]⟩)) 32 (.bool false)) 36 (.tuple ⟨[]⟩)) 32 (.bool false)) 37 (.tuple ⟨[]⟩)) 32 (.bool false)) 38 (.tuple ⟨[]⟩)) 32 (.bool false)) 39 (.tuple ⟨[]⟩)) 32 (.bool false)) 40 (.tuple ⟨[]⟩)) 32 (.bool false)) 41 (.tuple ⟨[]⟩)) 32 (.bool false)) 42 (.tuple ⟨[]⟩)) 43 (.bool false)) H)) := by kernel_rfl
theorem partEqC_W (con : CallT) (a : TF) (H : CH) (K : KX) : codeW (lpAt Tryz.prog 161 2) Tryz.prog con a H K =
 (AsInt .i64 (a 9) fun z1 =>
 AsInt .i64 (a 10) fun z2 =>
 Cd (leZ z1 z2) (
 AsSlc (a 0) fun p3 o4 l5 c6 =>
 AsCnt (a 1) fun n7 =>
 Must (ltN n7 l5) (
 Ld H p3 (Nat.add o4 (Nat.mul n7 1)) fun v8 =>
 AsSlc (a 0) fun p9 o10 l11 c12 =>
 AsCnt (a 10) fun n13 =>
 Must (ltN n13 l11) (
 Ld H p9 (Nat.add o10 (Nat.mul n13 1)) fun v14 =>
 Call1 Tryz.prog con 160 [v8, v14] H fun v15 H16 =>
 AsBool v15 fun b17 =>
 Cd b17 (
 AsInt .i64 (a 10) fun z18 =>
 InR (Int.sub z18 (Int.ofNat 1)) (
 K .normal (upd (upd (upd (upd (upd (upd (upd (upd (upd (upd (upd (upd (upd (upd (upd (upd (upd (upd (upd (upd (upd (upd (upd (upd (upd (upd a 46 (a 9)) 47 (a 10)) 48 (.bool (leZ z1 z2))) 49 (.bool (leZ z1 z2))) 49 (.bool true)) 50 (a 0)) 49 (.bool true)) 51 (a 1)) 49 (.bool true)) 52 (ptr p3 (Nat.add o4 (Nat.mul n7 1)))) 49 (.bool true)) 53 v8) 49 (.bool true)) 54 (a 0)) 49 (.bool true)) 55 (a 10)) 49 (.bool true)) 56 (ptr p9 (Nat.add o10 (Nat.mul n13 1)))) 49 (.bool true)) 57 v14) 49 (.bool true)) 58 v15) 59 v15) 60 (a 10)) 61 (i64 (Int.sub z18 (Int.ofNat 1)))) 10 (i64 (Int.sub z18 (Int.ofNat 1)))) H16)) (
 K (.exit 4) (upd (upd (upd (upd (upd (upd (upd (upd (upd (upd (upd (upd (upd (upd (upd (upd (upd (upd (upd (upd (upd (upd (upd a 46 (a 9)) 47 (a 10)) 48 (.bool (leZ z1 z2))) 49 (.bool (leZ z1 z2))) 49 (.bool true)) 50 (a 0)) 49 (.bool true)) 51 (a 1)) 49 (.bool true)) 52 (ptr p3 (Nat.add o4 (Nat.mul n7 1)))) 49 (.bool true)) 53 v8) 49 (.bool true)) 54 (a 0)) 49 (.bool true)) 55 (a 10)) 49 (.bool true)) 56 (ptr p9 (Nat.add o10 (Nat.mul n13 1)))) 49 (.bool true)) 57 v14) 49 (.bool true)) 58 v15) 59 v15) H16)))) (
 K (.exit 4) (upd (upd (upd (upd (upd (upd (upd (upd (upd (upd (upd (upd (upd (upd (upd (upd (upd (upd (upd (upd (upd (upd (upd a 46 (a 9)) 47 (a 10)) 48 (.bool (leZ z1 z2))) 49 (.bool (leZ z1 z2))) 49 (.bool false)) 50 (.tuple ⟨[]⟩)) 49 (.bool false)) 51 (.tuple ⟨[]⟩)) 49 (.bool false)) 52 (.tuple ⟨[]⟩)) 49 (.bool false)) 53 (.tuple ⟨[]⟩)) 49 (.bool false)) 54 (.tuple ⟨[]⟩)) 49 (.bool false)) 55 (.tuple ⟨[]⟩)) 49 (.bool false)) 56 (.tuple ⟨[]⟩)) 49 (.bool false)) 57 (.tuple ⟨[]⟩)) 49 (.bool false)) 58 (.tuple ⟨[]⟩)) 59 (.bool false)) H)) := by kernel_rfl
theorem partOrd_W (con : CallT) (v : Value) (a b c : Int) (H : CH) (K : KP) : funW Tryz.prog con 162 [v, i64 a, i64 b, i64 c] H K =
 (AsSlc v fun p1 o2 l3 c4 =>
 AsCnt (i64 c) fun n5 =>
 Must (ltN n5 l3) (
 Ld H p1 (Nat.add o2 (Nat.mul n5 1)) fun v6 =>
 AsSlc v fun p7 o8 l9 c10 =>
 AsCnt (i64 a) fun n11 =>
 Must (ltN n11 l9) (
 Ld H p7 (Nat.add o8 (Nat.mul n11 1)) fun v12 =>
 AsSlc v fun p13 o14 l15 c16 =>
 AsCnt (i64 a) fun n17 =>
 Must (ltN n17 l15) (
 Sc v6 (St H p13 (Nat.add o14 (Nat.mul n17 1)) [v6] fun H18 =>
 AsSlc v fun p19 o20 l21 c22 =>
 AsCnt (i64 c) fun n23 =>
 Must (ltN n23 l21) (
 Sc v12 (St H18 p19 (Nat.add o20 (Nat.mul n23 1)) [v12] fun H24 =>
 InR (Int.add a (Int.ofNat 1)) (
 InR (Int.sub b (Int.ofNat 1)) (
 LoopC Tryz.prog con (lpAt Tryz.prog 162 0) (upd (upd (upd (upd (upd (upd (upd (upd (upd (upd (upd (upd (upd (upd (upd (upd (upd (upd (upd (upd (upd (upd (upd (upd (upd (upd (fun _ => undV) 3 (i64 c)) 2 (i64 b)) 1 (i64 a)) 0 v) 8 (iN (0))) 9 (.bool false)) 12 v) 13 (i64 a)) 14 v) 15 (i64 c)) 16 v) 17 (i64 c)) 18 (ptr p1 (Nat.add o2 (Nat.mul n5 1)))) 19 v6) 20 v) 21 (i64 a)) 22 (ptr p7 (Nat.add o8 (Nat.mul n11 1)))) 23 v12) 24 (ptr p13 (Nat.add o14 (Nat.mul n17 1)))) 25 (ptr p19 (Nat.add o20 (Nat.mul n23 1)))) 26 (i64 a)) 27 (i64 (Int.add a (Int.ofNat 1)))) 28 (i64 b)) 29 (i64 (Int.sub b (Int.ofNat 1)))) 10 (i64 (Int.add a (Int.ofNat 1)))) 11 (i64 (Int.sub b (Int.ofNat 1)))) H24 (fun e => ceP e
 (fun a25 H26 =>
 LoopC Tryz.prog con (lpAt Tryz.prog 162 1) a25 H26 (fun e => ceP e
 (fun a28 H29 =>
 AsInt .i64 (a28 10) fun z31 =>
 AsInt .i64 (a28 11) fun z32 =>
 Cd (ltZ z32 z31) (
 AsSlc (a28 0) fun p33 o34 l35 c36 =>
 AsCnt (a28 1) fun n37 =>
 Must (ltN n37 l35) (
 Ld H29 p33 (Nat.add o34 (Nat.mul n37 1)) fun v38 =>
 AsSlc (a28 0) fun p39 o40 l41 c42 =>
 AsCnt (a28 11) fun n43 =>
 Must (ltN n43 l41) (
 Ld H29 p39 (Nat.add o40 (Nat.mul n43 1)) fun v44 =>
 AsSlc (a28 0) fun p45 o46 l47 c48 =>
 AsCnt (a28 11) fun n49 =>
 Must (ltN n49 l47) (
 Sc v38 (St H29 p45 (Nat.add o46 (Nat.mul n49 1)) [v38] fun H50 =>
 AsSlc (a28 0) fun p51 o52 l53 c54 =>
 AsCnt (a28 1) fun n55 =>
 Must (ltN n55 l53) (
 Sc v44 (St H50 p51 (Nat.add o52 (Nat.mul n55 1)) [v44] fun H56 =>
 K (.tuple ⟨[(a28 11), (.bool true)]⟩) H56))))))) (
 AsSlc (a28 0) fun p57 o58 l59 c60 =>
 AsCnt (a28 11) fun n61 =>
 Must (ltN n61 l59) (
 Ld H29 p57 (Nat.add o58 (Nat.mul n61 1)) fun v62 =>
 AsSlc (a28 0) fun p63 o64 l65 c66 =>
 AsCnt (a28 10) fun n67 =>
 Must (ltN n67 l65) (
 Ld H29 p63 (Nat.add o64 (Nat.mul n67 1)) fun v68 =>
 AsSlc (a28 0) fun p69 o70 l71 c72 =>
 AsCnt (a28 10) fun n73 =>
 Must (ltN n73 l71) (
 Sc v62 (St H29 p69 (Nat.add o70 (Nat.mul n73 1)) [v62] fun H74 =>
 AsSlc (a28 0) fun p75 o76 l77 c78 =>
 AsCnt (a28 11) fun n79 =>
 Must (ltN n79 l77) (
 Sc v68 (St H74 p75 (Nat.add o76 (Nat.mul n79 1)) [v68] fun H80 =>
 AsInt .i64 (a28 10) fun z81 =>
 InR (Int.add z81 (Int.ofNat 1)) (
 AsInt .i64 (a28 11) fun z82 =>
 InR (Int.sub z82 (Int.ofNat 1)) (
 LoopC Tryz.prog con (lpAt Tryz.prog 162 2) (upd (upd (upd (upd (upd (upd (upd (upd (upd (upd (upd (upd (upd (upd (upd (upd (upd (upd (upd (upd (upd (upd (upd a28 63 (a28 10)) 64 (a28 11)) 65 (.bool (ltZ z32 z31))) 81 (a28 0)) 82 (a28 10)) 83 (a28 0)) 84 (a28 11)) 85 (a28 0)) 86 (a28 11)) 87 (ptr p57 (Nat.add o58 (Nat.mul n61 1)))) 88 v62) 89 (a28 0)) 90 (a28 10)) 91 (ptr p63 (Nat.add o64 (Nat.mul n67 1)))) 92 v68) 93 (ptr p69 (Nat.add o70 (Nat.mul n73 1)))) 94 (ptr p75 (Nat.add o76 (Nat.mul n79 1)))) 95 (a28 10)) 96 (i64 (Int.add z81 (Int.ofNat 1)))) 10 (i64 (Int.add z81 (Int.ofNat 1)))) 97 (a28 11)) 98 (i64 (Int.sub z82 (Int.ofNat 1)))) 11 (i64 (Int.sub z82 (Int.ofNat 1)))) H80 (fun e => ceP e
 (fun a83 H84 =>
 AsSlc (a83 0) fun p86 o87 l88 c89 =>
 AsCnt (a83 1) fun n90 =>
 Must (ltN n90 l88) (
 Ld H84 p86 (Nat.add o87 (Nat.mul n90 1)) fun v91 =>
 AsSlc (a83 0) fun p92 o93 l94 c95 =>
 AsCnt (a83 11) fun n96 =>
 Must (ltN n96 l94) (
 Ld H84 p92 (Nat.add o93 (Nat.mul n96 1)) fun v97 =>
 AsSlc (a83 0) fun p98 o99 l100 c101 =>
 AsCnt (a83 11) fun n102 =>
 Must (ltN n102 l100) (
 Sc v91 (St H84 p98 (Nat.add o99 (Nat.mul n102 1)) [v91] fun H103 =>
 AsSlc (a83 0) fun p104 o105 l106 c107 =>
 AsCnt (a83 1) fun n108 =>
 Must (ltN n108 l106) (
 Sc v97 (St H103 p104 (Nat.add o105 (Nat.mul n108 1)) [v97] fun H109 =>
 K (.tuple ⟨[(a83 11), (.bool false)]⟩) H109)))))))
 (fun i85 => fun a83 H84 =>
 Cd (eqN i85 4) (
 AsSlc (a83 0) fun p110 o111 l112 c113 =>
 AsCnt (a83 1) fun n114 =>
 Must (ltN n114 l112) (
 Ld H84 p110 (Nat.add o111 (Nat.mul n114 1)) fun v115 =>
 AsSlc (a83 0) fun p116 o117 l118 c119 =>
 AsCnt (a83 11) fun n120 =>
 Must (ltN n120 l118) (
 Ld H84 p116 (Nat.add o117 (Nat.mul n120 1)) fun v121 =>
 AsSlc (a83 0) fun p122 o123 l124 c125 =>
 AsCnt (a83 11) fun n126 =>
 Must (ltN n126 l124) (
 Sc v115 (St H84 p122 (Nat.add o123 (Nat.mul n126 1)) [v115] fun H127 =>
 AsSlc (a83 0) fun p128 o129 l130 c131 =>
 AsCnt (a83 1) fun n132 =>
 Must (ltN n132 l130) (
 Sc v121 (St H127 p128 (Nat.add o129 (Nat.mul n132 1)) [v121] fun H133 =>
 K (.tuple ⟨[(a83 11), (.bool false)]⟩) H133))))))) (
 False))
 (fun a83 H84 =>
 K (.tuple ⟨[(a83 8), (a83 9)]⟩) H84))))))))))))
 (fun i30 => fun a28 H29 =>
 Cd (eqN i30 2) (
 AsInt .i64 (a28 10) fun z134 =>
 AsInt .i64 (a28 11) fun z135 =>
 Cd (ltZ z135 z134) (
 AsSlc (a28 0) fun p136 o137 l138 c139 =>
 AsCnt (a28 1) fun n140 =>
 Must (ltN n140 l138) (
 Ld H29 p136 (Nat.add o137 (Nat.mul n140 1)) fun v141 =>
 AsSlc (a28 0) fun p142 o143 l144 c145 =>
 AsCnt (a28 11) fun n146 =>
 Must (ltN n146 l144) (
 Ld H29 p142 (Nat.add o143 (Nat.mul n146 1)) fun v147 =>
 AsSlc (a28 0) fun p148 o149 l150 c151 =>
 AsCnt (a28 11) fun n152 =>
 Must (ltN n152 l150) (
 Sc v141 (St H29 p148 (Nat.add o149 (Nat.mul n152 1)) [v141] fun H153 =>
 AsSlc (a28 0) fun p154 o155 l156 c157 =>
 AsCnt (a28 1) fun n158 =>
 Must (ltN n158 l156) (
 Sc v147 (St H153 p154 (Nat.add o155 (Nat.mul n158 1)) [v147] fun H159 =>
 K (.tuple ⟨[(a28 11), (.bool true)]⟩) H159))))))) (
 AsSlc (a28 0) fun p160 o161 l162 c163 =>
 AsCnt (a28 11) fun n164 =>
 Must (ltN n164 l162) (
 Ld H29 p160 (Nat.add o161 (Nat.mul n164 1)) fun v165 =>
 AsSlc (a28 0) fun p166 o167 l168 c169 =>
 AsCnt (a28 10) fun n170 =>
 Must (ltN n170 l168) (
 Ld H29 p166 (Nat.add o167 (Nat.mul n170 1)) fun v171 =>
 AsSlc (a28 0) fun p172 o173 l174 c175 =>
 AsCnt (a28 10) fun n176 =>
 Must (ltN n176 l174) (
 Sc v165 (St H29 p172 (Nat.add o173 (Nat.mul n176 1)) [v165] fun H177 =>
 AsSlc (a28 0) fun p178 o179 l180 c181 =>
 AsCnt (a28 11) fun n182 =>
 Must (ltN n182 l180) (
 Sc v171 (St H177 p178 (Nat.add o179 (Nat.mul n182 1)) [v171] fun H183 =>
 AsInt .i64 (a28 10) fun z184 =>
 InR (Int.add z184 (Int.ofNat 1)) (
 AsInt .i64 (a28 11) fun z185 =>
 InR (Int.sub z185 (Int.ofNat 1)) (
 LoopC Tryz.prog con (lpAt Tryz.prog 162 2) (upd (upd (upd (upd (upd (upd (upd (upd (upd (upd (upd (upd (upd (upd (upd (upd (upd (upd (upd (upd (upd (upd (upd a28 63 (a28 10)) 64 (a28 11)) 65 (.bool (ltZ z135 z134))) 81 (a28 0)) 82 (a28 10)) 83 (a28 0)) 84 (a28 11)) 85 (a28 0)) 86 (a28 11)) 87 (ptr p160 (Nat.add o161 (Nat.mul n164 1)))) 88 v165) 89 (a28 0)) 90 (a28 10)) 91 (ptr p166 (Nat.add o167 (Nat.mul n170 1)))) 92 v171) 93 (ptr p172 (Nat.add o173 (Nat.mul n176 1)))) 94 (ptr p178 (Nat.add o179 (Nat.mul n182 1)))) 95 (a28 10)) 96 (i64 (Int.add z184 (Int.ofNat 1)))) 10 (i64 (Int.add z184 (Int.ofNat 1)))) 97 (a28 11)) 98 (i64 (Int.sub z185 (Int.ofNat 1)))) 11 (i64 (Int.sub z185 (Int.ofNat 1)))) H183 (fun e => ceP e
 (fun a186 H187 =>
 AsSlc (a186 0) fun p189 o190 l191 c192 =>
 AsCnt (a186 1) fun n193 =>
 Must (ltN n193 l191) (
 Ld H187 p189 (Nat.add o190 (Nat.mul n193 1)) fun v194 =>
 AsSlc (a186 0) fun p195 o196 l197 c198 =>
 AsCnt (a186 11) fun n199 =>
 Must (ltN n199 l197) (
 Ld H187 p195 (Nat.add o196 (Nat.mul n199 1)) fun v200 =>
 AsSlc (a186 0) fun p201 o202 l203 c204 =>
 AsCnt (a186 11) fun n205 =>
 Must (ltN n205 l203) (
 Sc v194 (St H187 p201 (Nat.add o202 (Nat.mul n205 1)) [v194] fun H206 =>
 AsSlc (a186 0) fun p207 o208 l209 c210 =>
 AsCnt (a186 1) fun n211 =>
 Must (ltN n211 l209) (
 Sc v200 (St H206 p207 (Nat.add o208 (Nat.mul n211 1)) [v200] fun H212 =>
 K (.tuple ⟨[(a186 11), (.bool false)]⟩) H212)))))))
 (fun i188 => fun a186 H187 =>
 Cd (eqN i188 4) (
 AsSlc (a186 0) fun p213 o214 l215 c216 =>
 AsCnt (a186 1) fun n217 =>
 Must (ltN n217 l215) (
 Ld H187 p213 (Nat.add o214 (Nat.mul n217 1)) fun v218 =>
 AsSlc (a186 0) fun p219 o220 l221 c222 =>
 AsCnt (a186 11) fun n223 =>
 Must (ltN n223 l221) (
 Ld H187 p219 (Nat.add o220 (Nat.mul n223 1)) fun v224 =>
 AsSlc (a186 0) fun p225 o226 l227 c228 =>
 AsCnt (a186 11) fun n229 =>
 Must (ltN n229 l227) (
 Sc v218 (St H187 p225 (Nat.add o226 (Nat.mul n229 1)) [v218] fun H230 =>
 AsSlc (a186 0) fun p231 o232 l233 c234 =>
 AsCnt (a186 1) fun n235 =>
 Must (ltN n235 l233) (
 Sc v224 (St H230 p231 (Nat.add o232 (Nat.mul n235 1)) [v224] fun H236 =>
 K (.tuple ⟨[(a186 11), (.bool false)]⟩) H236))))))) (
 False))
 (fun a186 H187 =>
 K (.tuple ⟨[(a186 8), (a186 9)]⟩) H187)))))))))))) (
 False))
 (fun a28 H29 =>
 K (.tuple ⟨[(a28 8), (a28 9)]⟩) H29)))
 (fun i27 => fun a25 H26 =>
 Cd (eqN i27 0) (
 LoopC Tryz.prog con (lpAt Tryz.prog 162 1) a25 H26 (fun e => ceP e
 (fun a237 H238 =>
 AsInt .i64 (a237 10) fun z240 =>
 AsInt .i64 (a237 11) fun z241 =>
 Cd (ltZ z241 z240) (
 AsSlc (a237 0) fun p242 o243 l244 c245 =>
 AsCnt (a237 1) fun n246 =>
 Must (ltN n246 l244) (
 Ld H238 p242 (Nat.add o243 (Nat.mul n246 1)) fun v247 =>
 AsSlc (a237 0) fun p248 o249 l250 c251 =>
 AsCnt (a237 11) fun n252 =>
 Must (ltN n252 l250) (
 Ld H238 p248 (Nat.add o249 (Nat.mul n252 1)) fun v253 =>
 AsSlc (a237 0) fun p254 o255 l256 c257 =>
 AsCnt (a237 11) fun n258 =>
 Must (ltN n258 l256) (
 Sc v247 (St H238 p254 (Nat.add o255 (Nat.mul n258 1)) [v247] fun H259 =>
 AsSlc (a237 0) fun p260 o261 l262 c263 =>
 AsCnt (a237 1) fun n264 =>
 Must (ltN n264 l262) (
 Sc v253 (St H259 p260 (Nat.add o261 (Nat.mul n264 1)) [v253] fun H265 =>
 K (.tuple ⟨[(a237 11), (.bool true)]⟩) H265))))))) (
 AsSlc (a237 0) fun p266 o267 l268 c269 =>
 AsCnt (a237 11) fun n270 =>
 Must (ltN n270 l268) (
 Ld H238 p266 (Nat.add o267 (Nat.mul n270 1)) fun v271 =>
 AsSlc (a237 0) fun p272 o273 l274 c275 =>
 AsCnt (a237 10) fun n276 =>
 Must (ltN n276 l274) (
 Ld H238 p272 (Nat.add o273 (Nat.mul n276 1)) fun v277 =>
 AsSlc (a237 0) fun p278 o279 l280 c281 =>
 AsCnt (a237 10) fun n282 =>
 Must (ltN n282 l280) (
 Sc v271 (St H238 p278 (Nat.add o279 (Nat.mul n282 1)) [v271] fun H283 =>
 AsSlc (a237 0) fun p284 o285 l286 c287 =>
 AsCnt (a237 11) fun n288 =>
 Must (ltN n288 l286) (
 Sc v277 (St H283 p284 (Nat.add o285 (Nat.mul n288 1)) [v277] fun H289 =>
 AsInt .i64 (a237 10) fun z290 =>
 InR (Int.add z290 (Int.ofNat 1)) (
 AsInt .i64 (a237 11) fun z291 =>
 InR (Int.sub z291 (Int.ofNat 1)) (
 LoopC Tryz.prog con (lpAt Tryz.prog 162 2) (upd (upd (upd (upd (upd (upd (upd (upd (upd (upd (upd (upd (upd (upd (upd (upd (upd (upd (upd (upd (upd (upd (upd a237 63 (a237 10)) 64 (a237 11)) 65 (.bool (ltZ z241 z240))) 81 (a237 0)) 82 (a237 10)) 83 (a237 0)) 84 (a237 11)) 85 (a237 0)) 86 (a237 11)) 87 (ptr p266 (Nat.add o267 (Nat.mul n270 1)))) 88 v271) 89 (a237 0)) 90 (a237 10)) 91 (ptr p272 (Nat.add o273 (Nat.mul n276 1)))) 92 v277) 93 (ptr p278 (Nat.add o279 (Nat.mul n282 1)))) 94 (ptr p284 (Nat.add o285 (Nat.mul n288 1)))) 95 (a237 10)) 96 (i64 (Int.add z290 (Int.ofNat 1)))) 10 (i64 (Int.add z290 (Int.ofNat 1)))) 97 (a237 11)) 98 (i64 (Int.sub z291 (Int.ofNat 1)))) 11 (i64 (Int.sub z291 (Int.ofNat 1)))) H289 (fun e => ceP e
 (fun a292 H293 =>
 AsSlc (a292 0) fun p295 o296 l297 c298 =>
 AsCnt (a292 1) fun n299 =>
 Must (ltN n299 l297) (
 Ld H293 p295 (Nat.add o296 (Nat.mul n299 1)) fun v300 =>
 AsSlc (a292 0) fun p301 o302 l303 c304 =>
 AsCnt (a292 11) fun n305 =>
 Must (ltN n305 l303) (
 Ld H293 p301 (Nat.add o302 (Nat.mul n305 1)) fun v306 =>
 AsSlc (a292 0) fun p307 o308 l309 c310 =>
 AsCnt (a292 11) fun n311 =>
 Must (ltN n311 l309) (
 Sc v300 (St H293 p307 (Nat.add o308 (Nat.mul n311 1)) [v300] fun H312 =>
 AsSlc (a292 0) fun p313 o314 l315 c316 =>
 AsCnt (a292 1) fun n317 =>
 Must (ltN n317 l315) (
 Sc v306 (St H312 p313 (Nat.add o314 (Nat.mul n317 1)) [v306] fun H318 =>
 K (.tuple ⟨[(a292 11), (.bool false)]⟩) H318)))))))
 (fun i294 => fun a292 H293 =>
 Cd (eqN i294 4) (
 AsSlc (a292 0) fun p319 o320 l321 c322 =>
 AsCnt (a292 1) fun n323 =>
 Must (ltN n323 l321) (
 Ld H293 p319 (Nat.add o320 (Nat.mul n323 1)) fun v324 =>
 AsSlc (a292 0) fun p325 o326 l327 c328 =>
 AsCnt (a292 11) fun n329 =>
 Must (ltN n329 l327) (
 Ld H293 p325 (Nat.add o326 (Nat.mul n329 1)) fun v330 =>
 AsSlc (a292 0) fun p331 o332 l333 c334 =>
 AsCnt (a292 11) fun n335 =>
 Must (ltN n335 l333) (
 Sc v324 (St H293 p331 (Nat.add o332 (Nat.mul n335 1)) [v324] fun H336 =>
 AsSlc (a292 0) fun p337 o338 l339 c340 =>
 AsCnt (a292 1) fun n341 =>
 Must (ltN n341 l339) (
 Sc v330 (St H336 p337 (Nat.add o338 (Nat.mul n341 1)) [v330] fun H342 =>
 K (.tuple ⟨[(a292 11), (.bool false)]⟩) H342))))))) (
 False))
 (fun a292 H293 =>
 K (.tuple ⟨[(a292 8), (a292 9)]⟩) H293))))))))))))
 (fun i239 => fun a237 H238 =>
 Cd (eqN i239 2) (
 AsInt .i64 (a237 10) fun z343 =>
 AsInt .i64 (a237 11) fun z344 =>
 Cd (ltZ z344 z343) (
 AsSlc (a237 0) fun p345 o346 l347 c348 =>
 AsCnt (a237 1) fun n349 =>
 Must (ltN n349 l347) (
 Ld H238 p345 (Nat.add o346 (Nat.mul n349 1)) fun v350 =>
 AsSlc (a237 0) fun p351 o352 l353 c354 =>
 AsCnt (a237 11) fun n355 =>
 Must (ltN n355 l353) (
 Ld H238 p351 (Nat.add o352 (Nat.mul n355 1)) fun v356 =>
 AsSlc (a237 0) fun p357 o358 l359 c360 =>
 AsCnt (a237 11) fun n361 =>
 Must (ltN n361 l359) (
 Sc v350 (St H238 p357 (Nat.add o358 (Nat.mul n361 1)) [v350] fun H362 =>
 AsSlc (a237 0) fun p363 o364 l365 c366 =>
 AsCnt (a237 1) fun n367 =>
 Must (ltN n367 l365) (
 Sc v356 (St H362 p363 (Nat.add o364 (Nat.mul n367 1)) [v356] fun H368 =>
 K (.tuple ⟨[(a237 11), (.bool true)]⟩) H368))))))) (
 AsSlc (a237 0) fun p369 o370 l371 c372 =>
 AsCnt (a237 11) fun n373 =>
 Must (ltN n373 l371) (
 Ld H238 p369 (Nat.add o370 (Nat.mul n373 1)) fun v374 =>
 AsSlc (a237 0) fun p375 o376 l377 c378 =>
 AsCnt (a237 10) fun n379 =>
 Must (ltN n379 l377) (
 Ld H238 p375 (Nat.add o376 (Nat.mul n379 1)) fun v380 =>
 AsSlc (a237 0) fun p381 o382 l383 c384 =>
 AsCnt (a237 10) fun n385 =>
 Must (ltN n385 l383) (
 Sc v374 (St H238 p381 (Nat.add o382 (Nat.mul n385 1)) [v374] fun H386 =>
 AsSlc (a237 0) fun p387 o388 l389 c390 =>
 AsCnt (a237 11) fun n391 =>
 Must (ltN n391 l389) (
 Sc v380 (St H386 p387 (Nat.add o388 (Nat.mul n391 1)) [v380] fun H392 =>
 AsInt .i64 (a237 10) fun z393 =>
 InR (Int.add z393 (Int.ofNat 1)) (
 AsInt .i64 (a237 11) fun z394 =>
 InR (Int.sub z394 (Int.ofNat 1)) (
 LoopC Tryz.prog con (lpAt Tryz.prog 162 2) (upd (upd (upd (upd (upd (upd (upd (upd (upd (upd (upd (upd (upd (upd (upd (upd (upd (upd (upd (upd (upd (upd (upd a237 63 (a237 10)) 64 (a237 11)) 65 (.bool (ltZ z344 z343))) 81 (a237 0)) 82 (a237 10)) 83 (a237 0)) 84 (a237 11)) 85 (a237 0)) 86 (a237 11)) 87 (ptr p369 (Nat.add o370 (Nat.mul n373 1)))) 88 v374) 89 (a237 0)) 90 (a237 10)) 91 (ptr p375 (Nat.add o376 (Nat.mul n379 1)))) 92 v380) 93 (ptr p381 (Nat.add o382 (Nat.mul n385 1)))) 94 (ptr p387 (Nat.add o388 (Nat.mul n391 1)))) 95 (a237 10)) 96 (i64 (Int.add z393 (Int.ofNat 1)))) 10 (i64 (Int.add z393 (Int.ofNat 1)))) 97 (a237 11)) 98 (i64 (Int.sub z394 (Int.ofNat 1)))) 11 (i64 (Int.sub z394 (Int.ofNat 1)))) H392 (fun e => ceP e
 (fun a395 H396 =>
 AsSlc (a395 0) fun p398 o399 l400 c401 =>
 AsCnt (a395 1) fun n402 =>
 Must (ltN n402 l400) (
 Ld H396 p398 (Nat.add o399 (Nat.mul n402 1)) fun v403 =>
 AsSlc (a395 0) fun p404 o405 l406 c407 =>
 AsCnt (a395 11) fun n408 =>
 Must (ltN n408 l406) (
 Ld H396 p404 (Nat.add o405 (Nat.mul n408 1)) fun v409 =>
 AsSlc (a395 0) fun p410 o411 l412 c413 =>
 AsCnt (a395 11) fun n414 =>
 Must (ltN n414 l412) (
 Sc v403 (St H396 p410 (Nat.add o411 (Nat.mul n414 1)) [v403] fun H415 =>
 AsSlc (a395 0) fun p416 o417 l418 c419 =>
 AsCnt (a395 1) fun n420 =>
 Must (ltN n420 l418) (
 Sc v409 (St H415 p416 (Nat.add o417 (Nat.mul n420 1)) [v409] fun H421 =>
 K (.tuple ⟨[(a395 11), (.bool false)]⟩) H421)))))))
 (fun i397 => fun a395 H396 =>
 Cd (eqN i397 4) (
 AsSlc (a395 0) fun p422 o423 l424 c425 =>
 AsCnt (a395 1) fun n426 =>
 Must (ltN n426 l424) (
 Ld H396 p422 (Nat.add o423 (Nat.mul n426 1)) fun v427 =>
 AsSlc (a395 0) fun p428 o429 l430 c431 =>
 AsCnt (a395 11) fun n432 =>
 Must (ltN n432 l430) (
 Ld H396 p428 (Nat.add o429 (Nat.mul n432 1)) fun v433 =>
 AsSlc (a395 0) fun p434 o435 l436 c437 =>
 AsCnt (a395 11) fun n438 =>
 Must (ltN n438 l436) (
 Sc v427 (St H396 p434 (Nat.add o435 (Nat.mul n438 1)) [v427] fun H439 =>
 AsSlc (a395 0) fun p440 o441 l442 c443 =>
 AsCnt (a395 1) fun n444 =>
 Must (ltN n444 l442) (
 Sc v433 (St H439 p440 (Nat.add o441 (Nat.mul n444 1)) [v433] fun H445 =>
 K (.tuple ⟨[(a395 11), (.bool false)]⟩) H445))))))) (
 False))
 (fun a395 H396 =>
 K (.tuple ⟨[(a395 8), (a395 9)]⟩) H396)))))))))))) (
 False))
 (fun a237 H238 =>
 K (.tuple ⟨[(a237 8), (a237 9)]⟩) H238))) (
 False))
 (fun a25 H26 =>
 K (.tuple ⟨[(a25 8), (a25 9)]⟩) H26))))))))))) := by kernel_rfl
theorem partOrdA_W (con : CallT) (a : TF) (H : CH) (K : KX) : codeW (lpAt Tryz.prog 162 0) Tryz.prog con a H K =
 (AsInt .i64 (a 10) fun z1 =>
 AsInt .i64 (a 11) fun z2 =>
 Cd (leZ z1 z2) (
 AsSlc (a 0) fun p3 o4 l5 c6 =>
 AsCnt (a 10) fun n7 =>
 Must (ltN n7 l5) (
 Ld H p3 (Nat.add o4 (Nat.mul n7 1)) fun v8 =>
 AsSlc (a 0) fun p9 o10 l11 c12 =>
 AsCnt (a 1) fun n13 =>
 Must (ltN n13 l11) (
 Ld H p9 (Nat.add o10 (Nat.mul n13 1)) fun v14 =>
 Call1 Tryz.prog con 160 [v8, v14] H fun v15 H16 =>
 AsBool v15 fun b17 =>
 Cd b17 (
 AsInt .i64 (a 10) fun z18 =>
 InR (Int.add z18 (Int.ofNat 1)) (
 K .normal (upd (upd (upd (upd (upd (upd (upd (upd (upd (upd (upd (upd (upd (upd (upd (upd (upd (upd (upd (upd (upd (upd (upd (upd (upd (upd a 30 (a 10)) 31 (a 11)) 32 (.bool (leZ z1 z2))) 33 (.bool (leZ z1 z2))) 33 (.bool true)) 34 (a 0)) 33 (.bool true)) 35 (a 10)) 33 (.bool true)) 36 (ptr p3 (Nat.add o4 (Nat.mul n7 1)))) 33 (.bool true)) 37 v8) 33 (.bool true)) 38 (a 0)) 33 (.bool true)) 39 (a 1)) 33 (.bool true)) 40 (ptr p9 (Nat.add o10 (Nat.mul n13 1)))) 33 (.bool true)) 41 v14) 33 (.bool true)) 42 v15) 43 v15) 44 (a 10)) 45 (i64 (Int.add z18 (Int.ofNat 1)))) 10 (i64 (Int.add z18 (Int.ofNat 1)))) H16)) (
 K (.exit 0) (upd (upd (upd (upd (upd (upd (upd (upd (upd (upd (upd (upd (upd (upd (upd (upd (upd (upd (upd (upd (upd (upd (upd a 30 (a 10)) 31 (a 11)) 32 (.bool (leZ z1 z2))) 33 (.bool (leZ z1 z2))) 33 (.bool true)) 34 (a 0)) 33 (.bool true)) 35 (a 10)) 33 (.bool true)) 36 (ptr p3 (Nat.add o4 (Nat.mul n7 1)))) 33 (.bool true)) 37 v8) 33 (.bool true)) 38 (a 0)) 33 (.bool true)) 39 (a 1)) 33 (.bool true)) 40 (ptr p9 (Nat.add o10 (Nat.mul n13 1)))) 33 (.bool true)) 41 v14) 33 (.bool true)) 42 v15) 43 v15) H16)))) (
 K (.exit 0) (upd (upd (upd (upd (upd (upd (upd (upd (upd (upd (upd (upd (upd (upd (upd (upd (upd (upd (upd (upd (upd (upd (upd a 30 (a 10)) 31 (a 11)) 32 (.bool (leZ z1 z2))) 33 (.bool (leZ z1 z2))) 33 (.bool false)) 34 (.tuple ⟨[]⟩)) 33 (.bool false)) 35 (.tuple ⟨[]⟩)) 33 (.bool false)) 36 (.tuple ⟨[]⟩)) 33 (.bool false)) 37 (.tuple ⟨[]⟩)) 33 (.bool false)) 38 (.tuple ⟨[]⟩)) 33 (.bool false)) 39 (.tuple ⟨[]⟩)) 33 (.bool false)) 40 (.tuple ⟨[]⟩)) 33 (.bool false)) 41 (.tuple ⟨[]⟩)) 33 (.bool false)) 42 (.tuple ⟨[]⟩)) 43 (.bool false)) H)) := by kernel_rfl
theorem partOrdB_W (con : CallT) (a : TF) (H : CH) (K : KX) : codeW (lpAt Tryz.prog 162 1) Tryz.prog con a H K =
 (AsInt .i64 (a 10) fun z1 =>
 AsInt .i64 (a 11) fun z2 =>
 Cd (leZ z1 z2) (
 AsSlc (a 0) fun p3 o4 l5 c6 =>
 AsCnt (a 11) fun n7 =>
 Must (ltN n7 l5) (
 Ld H p3 (Nat.add o4 (Nat.mul n7 1)) fun v8 =>
 AsSlc (a 0) fun p9 o10 l11 c12 =>
 AsCnt (a 1) fun n13 =>
 Must (ltN n13 l11) (
 Ld H p9 (Nat.add o10 (Nat.mul n13 1)) fun v14 =>
 Call1 Tryz.prog con 160 [v8, v14] H fun v15 H16 =>
 AsBool v15 fun b17 =>
 Cd (notB b17) (
 AsInt .i64 (a 11) fun z18 =>
 InR (Int.sub z18 (Int.ofNat 1)) (
 K .normal (upd (upd (upd (upd (upd (upd (upd (upd (upd (upd (upd (upd (upd (upd (upd (upd (upd (upd (upd (upd (upd (upd (upd (upd (upd (upd (upd (upd a 46 (a 10)) 47 (a 11)) 48 (.bool (leZ z1 z2))) 49 (.bool (leZ z1 z2))) 49 (.bool true)) 50 (a 0)) 49 (.bool true)) 51 (a 11)) 49 (.bool true)) 52 (ptr p3 (Nat.add o4 (Nat.mul n7 1)))) 49 (.bool true)) 53 v8) 49 (.bool true)) 54 (a 0)) 49 (.bool true)) 55 (a 1)) 49 (.bool true)) 56 (ptr p9 (Nat.add o10 (Nat.mul n13 1)))) 49 (.bool true)) 57 v14) 49 (.bool true)) 58 v15) 49 (.bool true)) 59 (.bool (notB b17))) 60 (.bool (notB b17))) 61 (a 11)) 62 (i64 (Int.sub z18 (Int.ofNat 1)))) 11 (i64 (Int.sub z18 (Int.ofNat 1)))) H16)) (
 K (.exit 2) (upd (upd (upd (upd (upd (upd (upd (upd (upd (upd (upd (upd (upd (upd (upd (upd (upd (upd (upd (upd (upd (upd (upd (upd (upd a 46 (a 10)) 47 (a 11)) 48 (.bool (leZ z1 z2))) 49 (.bool (leZ z1 z2))) 49 (.bool true)) 50 (a 0)) 49 (.bool true)) 51 (a 11)) 49 (.bool true)) 52 (ptr p3 (Nat.add o4 (Nat.mul n7 1)))) 49 (.bool true)) 53 v8) 49 (.bool true)) 54 (a 0)) 49 (.bool true)) 55 (a 1)) 49 (.bool true)) 56 (ptr p9 (Nat.add o10 (Nat.mul n13 1)))) 49 (.bool true)) 57 v14) 49 (.bool true)) 58 v15) 49 (.bool true)) 59 (.bool (notB b17))) 60 (.bool (notB b17))) H16)))) (
 K (.exit 2) (upd (upd (upd (upd (upd (upd (upd (upd (upd (upd (upd (upd (upd (upd (upd (upd (upd (upd (upd (upd (upd (upd (upd (upd (upd a 46 (a 10)) 47 (a 11)) 48 (.bool (leZ z1 z2))) 49 (.bool (leZ z1 z2))) 49 (.bool false)) 50 (.tuple ⟨[]⟩)) 49 (.bool false)) 51 (.tuple ⟨[]⟩)) 49 (.bool false)) 52 (.tuple ⟨[]⟩)) 49 (.bool false)) 53 (.tuple ⟨[]⟩)) 49 (.bool false)) 54 (.tuple ⟨[]⟩)) 49 (.bool false)) 55 (.tuple ⟨[]⟩)) 49 (.bool false)) 56 (.tuple ⟨[]⟩)) 49 (.bool false)) 57 (.tuple ⟨[]⟩)) 49 (.bool false)) 58 (.tuple ⟨[]⟩)) 49 (.bool false)) 59 (.tuple ⟨[]⟩)) 60 (.bool false)) H)) := by kernel_rfl
theorem partOrdC_W (con : CallT) (a : TF) (H : CH) (K : KX) : codeW (lpAt Tryz.prog 162 2) Tryz.prog con a H K =
 (LoopC Tryz.prog con (lpAt Tryz.prog 162 3) a H (fun e => ceP e
 (fun a1 H2 =>
 LoopC Tryz.prog con (lpAt Tryz.prog 162 4) a1 H2 (fun e => ceP e
 (fun a4 H5 =>
 AsInt .i64 (a4 10) fun z7 =>
 AsInt .i64 (a4 11) fun z8 =>
 Cd (ltZ z8 z7) (
 K (.exit 4) (upd (upd (upd a4 132 (a4 10)) 133 (a4 11)) 134 (.bool (ltZ z8 z7))) H5) (
 AsSlc (a4 0) fun p9 o10 l11 c12 =>
 AsCnt (a4 11) fun n13 =>
 Must (ltN n13 l11) (
 Ld H5 p9 (Nat.add o10 (Nat.mul n13 1)) fun v14 =>
 AsSlc (a4 0) fun p15 o16 l17 c18 =>
 AsCnt (a4 10) fun n19 =>
 Must (ltN n19 l17) (
 Ld H5 p15 (Nat.add o16 (Nat.mul n19 1)) fun v20 =>
 AsSlc (a4 0) fun p21 o22 l23 c24 =>
 AsCnt (a4 10) fun n25 =>
 Must (ltN n25 l23) (
 Sc v14 (St H5 p21 (Nat.add o22 (Nat.mul n25 1)) [v14] fun H26 =>
 AsSlc (a4 0) fun p27 o28 l29 c30 =>
 AsCnt (a4 11) fun n31 =>
 Must (ltN n31 l29) (
 Sc v20 (St H26 p27 (Nat.add o28 (Nat.mul n31 1)) [v20] fun H32 =>
 AsInt .i64 (a4 10) fun z33 =>
 InR (Int.add z33 (Int.ofNat 1)) (
 AsInt .i64 (a4 11) fun z34 =>
 InR (Int.sub z34 (Int.ofNat 1)) (
 K .normal (upd (upd (upd (upd (upd (upd (upd (upd (upd (upd (upd (upd (upd (upd (upd (upd (upd (upd (upd (upd (upd (upd (upd a4 132 (a4 10)) 133 (a4 11)) 134 (.bool (ltZ z8 z7))) 135 (a4 0)) 136 (a4 10)) 137 (a4 0)) 138 (a4 11)) 139 (a4 0)) 140 (a4 11)) 141 (ptr p9 (Nat.add o10 (Nat.mul n13 1)))) 142 v14) 143 (a4 0)) 144 (a4 10)) 145 (ptr p15 (Nat.add o16 (Nat.mul n19 1)))) 146 v20) 147 (ptr p21 (Nat.add o22 (Nat.mul n25 1)))) 148 (ptr p27 (Nat.add o28 (Nat.mul n31 1)))) 149 (a4 10)) 150 (i64 (Int.add z33 (Int.ofNat 1)))) 10 (i64 (Int.add z33 (Int.ofNat 1)))) 151 (a4 11)) 152 (i64 (Int.sub z34 (Int.ofNat 1)))) 11 (i64 (Int.sub z34 (Int.ofNat 1)))) H32))))))))))
 (fun i6 => fun a4 H5 =>
 Cd (eqN i6 8) (
 AsInt .i64 (a4 10) fun z35 =>
 AsInt .i64 (a4 11) fun z36 =>
 Cd (ltZ z36 z35) (
 K (.exit 4) (upd (upd (upd a4 132 (a4 10)) 133 (a4 11)) 134 (.bool (ltZ z36 z35))) H5) (
 AsSlc (a4 0) fun p37 o38 l39 c40 =>
 AsCnt (a4 11) fun n41 =>
 Must (ltN n41 l39) (
 Ld H5 p37 (Nat.add o38 (Nat.mul n41 1)) fun v42 =>
 AsSlc (a4 0) fun p43 o44 l45 c46 =>
 AsCnt (a4 10) fun n47 =>
 Must (ltN n47 l45) (
 Ld H5 p43 (Nat.add o44 (Nat.mul n47 1)) fun v48 =>
 AsSlc (a4 0) fun p49 o50 l51 c52 =>
 AsCnt (a4 10) fun n53 =>
 Must (ltN n53 l51) (
 Sc v42 (St H5 p49 (Nat.add o50 (Nat.mul n53 1)) [v42] fun H54 =>
 AsSlc (a4 0) fun p55 o56 l57 c58 =>
 AsCnt (a4 11) fun n59 =>
 Must (ltN n59 l57) (
 Sc v48 (St H54 p55 (Nat.add o56 (Nat.mul n59 1)) [v48] fun H60 =>
 AsInt .i64 (a4 10) fun z61 =>
 InR (Int.add z61 (Int.ofNat 1)) (
 AsInt .i64 (a4 11) fun z62 =>
 InR (Int.sub z62 (Int.ofNat 1)) (
 K .normal (upd (upd (upd (upd (upd (upd (upd (upd (upd (upd (upd (upd (upd (upd (upd (upd (upd (upd (upd (upd (upd (upd (upd a4 132 (a4 10)) 133 (a4 11)) 134 (.bool (ltZ z36 z35))) 135 (a4 0)) 136 (a4 10)) 137 (a4 0)) 138 (a4 11)) 139 (a4 0)) 140 (a4 11)) 141 (ptr p37 (Nat.add o38 (Nat.mul n41 1)))) 142 v42) 143 (a4 0)) 144 (a4 10)) 145 (ptr p43 (Nat.add o44 (Nat.mul n47 1)))) 146 v48) 147 (ptr p49 (Nat.add o50 (Nat.mul n53 1)))) 148 (ptr p55 (Nat.add o56 (Nat.mul n59 1)))) 149 (a4 10)) 150 (i64 (Int.add z61 (Int.ofNat 1)))) 10 (i64 (Int.add z61 (Int.ofNat 1)))) 151 (a4 11)) 152 (i64 (Int.sub z62 (Int.ofNat 1)))) 11 (i64 (Int.sub z62 (Int.ofNat 1)))) H60)))))))))) (
 Cd (eqN i6 5) (
 K .normal a4 H5) (
 K (.exit i6) a4 H5)))
 (fun a4 H5 =>
 K .ret a4 H5)))
 (fun i3 => fun a1 H2 =>
 Cd (eqN i3 6) (
 LoopC Tryz.prog con (lpAt Tryz.prog 162 4) a1 H2 (fun e => ceP e
 (fun a63 H64 =>
 AsInt .i64 (a63 10) fun z66 =>
 AsInt .i64 (a63 11) fun z67 =>
 Cd (ltZ z67 z66) (
 K (.exit 4) (upd (upd (upd a63 132 (a63 10)) 133 (a63 11)) 134 (.bool (ltZ z67 z66))) H64) (
 AsSlc (a63 0) fun p68 o69 l70 c71 =>
 AsCnt (a63 11) fun n72 =>
 Must (ltN n72 l70) (
 Ld H64 p68 (Nat.add o69 (Nat.mul n72 1)) fun v73 =>
 AsSlc (a63 0) fun p74 o75 l76 c77 =>
 AsCnt (a63 10) fun n78 =>
 Must (ltN n78 l76) (
 Ld H64 p74 (Nat.add o75 (Nat.mul n78 1)) fun v79 =>
 AsSlc (a63 0) fun p80 o81 l82 c83 =>
 AsCnt (a63 10) fun n84 =>
 Must (ltN n84 l82) (
 Sc v73 (St H64 p80 (Nat.add o81 (Nat.mul n84 1)) [v73] fun H85 =>
 AsSlc (a63 0) fun p86 o87 l88 c89 =>
 AsCnt (a63 11) fun n90 =>
 Must (ltN n90 l88) (
 Sc v79 (St H85 p86 (Nat.add o87 (Nat.mul n90 1)) [v79] fun H91 =>
 AsInt .i64 (a63 10) fun z92 =>
 InR (Int.add z92 (Int.ofNat 1)) (
 AsInt .i64 (a63 11) fun z93 =>
 InR (Int.sub z93 (Int.ofNat 1)) (
 K .normal (upd (upd (upd (upd (upd (upd (upd (upd (upd (upd (upd (upd (upd (upd (upd (upd (upd (upd (upd (upd (upd (upd (upd a63 132 (a63 10)) 133 (a63 11)) 134 (.bool (ltZ z67 z66))) 135 (a63 0)) 136 (a63 10)) 137 (a63 0)) 138 (a63 11)) 139 (a63 0)) 140 (a63 11)) 141 (ptr p68 (Nat.add o69 (Nat.mul n72 1)))) 142 v73) 143 (a63 0)) 144 (a63 10)) 145 (ptr p74 (Nat.add o75 (Nat.mul n78 1)))) 146 v79) 147 (ptr p80 (Nat.add o81 (Nat.mul n84 1)))) 148 (ptr p86 (Nat.add o87 (Nat.mul n90 1)))) 149 (a63 10)) 150 (i64 (Int.add z92 (Int.ofNat 1)))) 10 (i64 (Int.add z92 (Int.ofNat 1)))) 151 (a63 11)) 152 (i64 (Int.sub z93 (Int.ofNat 1)))) 11 (i64 (Int.sub z93 (Int.ofNat 1)))) H91))))))))))
 (fun i65 => fun a63 H64 =>
 Cd (eqN i65 8) (
 AsInt .i64 (a63 10) fun z94 =>
 AsInt .i64 (a63 11) fun z95 =>
 Cd (ltZ z95 z94) (
 K (.exit 4) (upd (upd (upd a63 132 (a63 10)) 133 (a63 11)) 134 (.bool (ltZ z95 z94))) H64) (
 AsSlc (a63 0) fun p96 o97 l98 c99 =>
 AsCnt (a63 11) fun n100 =>
 Must (ltN n100 l98) (
 Ld H64 p96 (Nat.add o97 (Nat.mul n100 1)) fun v101 =>
 AsSlc (a63 0) fun p102 o103 l104 c105 =>
 AsCnt (a63 10) fun n106 =>
 Must (ltN n106 l104) (
 Ld H64 p102 (Nat.add o103 (Nat.mul n106 1)) fun v107 =>
 AsSlc (a63 0) fun p108 o109 l110 c111 =>
 AsCnt (a63 10) fun n112 =>
 Must (ltN n112 l110) (
 Sc v101 (St H64 p108 (Nat.add o109 (Nat.mul n112 1)) [v101] fun H113 =>
 AsSlc (a63 0) fun p114 o115 l116 c117 =>
 AsCnt (a63 11) fun n118 =>
 Must (ltN n118 l116) (
 Sc v107 (St H113 p114 (Nat.add o115 (Nat.mul n118 1)) [v107] fun H119 =>
 AsInt .i64 (a63 10) fun z120 =>
 InR (Int.add z120 (Int.ofNat 1)) (
 AsInt .i64 (a63 11) fun z121 =>
 InR (Int.sub z121 (Int.ofNat 1)) (
 K .normal (upd (upd (upd (upd (upd (upd (upd (upd (upd (upd (upd (upd (upd (upd (upd (upd (upd (upd (upd (upd (upd (upd (upd a63 132 (a63 10)) 133 (a63 11)) 134 (.bool (ltZ z95 z94))) 135 (a63 0)) 136 (a63 10)) 137 (a63 0)) 138 (a63 11)) 139 (a63 0)) 140 (a63 11)) 141 (ptr p96 (Nat.add o97 (Nat.mul n100 1)))) 142 v101) 143 (a63 0)) 144 (a63 10)) 145 (ptr p102 (Nat.add o103 (Nat.mul n106 1)))) 146 v107) 147 (ptr p108 (Nat.add o109 (Nat.mul n112 1)))) 148 (ptr p114 (Nat.add o115 (Nat.mul n118 1)))) 149 (a63 10)) 150 (i64 (Int.add z120 (Int.ofNat 1)))) 10 (i64 (Int.add z120 (Int.ofNat 1)))) 151 (a63 11)) 152 (i64 (Int.sub z121 (Int.ofNat 1)))) 11 (i64 (Int.sub z121 (Int.ofNat 1)))) H119)))))))))) (
 Cd (eqN i65 5) (
 K .normal a63 H64) (
 K (.exit i65) a63 H64)))
 (fun a63 H64 =>
 K .ret a63 H64))) (
 Cd (eqN i3 5) (
 K .normal a1 H2) (
 K (.exit i3) a1 H2)))
 (fun a1 H2 =>
 K .ret a1 H2))) := by kernel_rfl
theorem partOrdD_W (con : CallT) (a : TF) (H : CH) (K : KX) : codeW (lpAt Tryz.prog 162 3) Tryz.prog con a H K =
 (AsInt .i64 (a 10) fun z1 =>
 AsInt .i64 (a 11) fun z2 =>
 Cd (leZ z1 z2) (
 AsSlc (a 0) fun p3 o4 l5 c6 =>
 AsCnt (a 10) fun n7 =>
 Must (ltN n7 l5) (
 Ld H p3 (Nat.add o4 (Nat.mul n7 1)) fun v8 =>
 AsSlc (a 0) fun p9 o10 l11 c12 =>
 AsCnt (a 1) fun n13 =>
 Must (ltN n13 l11) (
 Ld H p9 (Nat.add o10 (Nat.mul n13 1)) fun v14 =>
 Call1 Tryz.prog con 160 [v8, v14] H fun v15 H16 =>
 AsBool v15 fun b17 =>
 Cd b17 (
 AsInt .i64 (a 10) fun z18 =>
 InR (Int.add z18 (Int.ofNat 1)) (
 K .normal (upd (upd (upd (upd (upd (upd (upd (upd (upd (upd (upd (upd (upd (upd (upd (upd (upd (upd (upd (upd (upd (upd (upd (upd (upd (upd a 99 (a 10)) 100 (a 11)) 101 (.bool (leZ z1 z2))) 102 (.bool (leZ z1 z2))) 102 (.bool true)) 103 (a 0)) 102 (.bool true)) 104 (a 10)) 102 (.bool true)) 105 (ptr p3 (Nat.add o4 (Nat.mul n7 1)))) 102 (.bool true)) 106 v8) 102 (.bool true)) 107 (a 0)) 102 (.bool true)) 108 (a 1)) 102 (.bool true)) 109 (ptr p9 (Nat.add o10 (Nat.mul n13 1)))) 102 (.bool true)) 110 v14) 102 (.bool true)) 111 v15) 112 v15) 113 (a 10)) 114 (i64 (Int.add z18 (Int.ofNat 1)))) 10 (i64 (Int.add z18 (Int.ofNat 1)))) H16)) (
 K (.exit 6) (upd (upd (upd (upd (upd (upd (upd (upd (upd (upd (upd (upd (upd (upd (upd (upd (upd (upd (upd (upd (upd (upd (upd a 99 (a 10)) 100 (a 11)) 101 (.bool (leZ z1 z2))) 102 (.bool (leZ z1 z2))) 102 (.bool true)) 103 (a 0)) 102 (.bool true)) 104 (a 10)) 102 (.bool true)) 105 (ptr p3 (Nat.add o4 (Nat.mul n7 1)))) 102 (.bool true)) 106 v8) 102 (.bool true)) 107 (a 0)) 102 (.bool true)) 108 (a 1)) 102 (.bool true)) 109 (ptr p9 (Nat.add o10 (Nat.mul n13 1)))) 102 (.bool true)) 110 v14) 102 (.bool true)) 111 v15) 112 v15) H16)))) (
 K (.exit 6) (upd (upd (upd (upd (upd (upd (upd (upd (upd (upd (upd (upd (upd (upd (upd (upd (upd (upd (upd (upd (upd (upd (upd a 99 (a 10)) 100 (a 11)) 101 (.bool (leZ z1 z2))) 102 (.bool (leZ z1 z2))) 102 (.bool false)) 103 (.tuple ⟨[]⟩)) 102 (.bool false)) 104 (.tuple ⟨[]⟩)) 102 (.bool false)) 105 (.tuple ⟨[]⟩)) 102 (.bool false)) 106 (.tuple ⟨[]⟩)) 102 (.bool false)) 107 (.tuple ⟨[]⟩)) 102 (.bool false)) 108 (.tuple ⟨[]⟩)) 102 (.bool false)) 109 (.tuple ⟨[]⟩)) 102 (.bool false)) 110 (.tuple ⟨[]⟩)) 102 (.bool false)) 111 (.tuple ⟨[]⟩)) 112 (.bool false)) H)) := by kernel_rfl
theorem partOrdE_W (con : CallT) (a : TF) (H : CH) (K : KX) : codeW (lpAt Tryz.prog 162 4) Tryz.prog con a H K =
 (AsInt .i64 (a 10) fun z1 =>
 AsInt .i64 (a 11) fun z2 =>
 Cd (leZ z1 z2) (
 AsSlc (a 0) fun p3 o4 l5 c6 =>
 AsCnt (a 11) fun n7 =>
 Must (ltN n7 l5) (
 Ld H p3 (Nat.add o4 (Nat.mul n7 1)) fun v8 =>
 AsSlc (a 0) fun p9 o10 l11 c12 =>
 AsCnt (a 1) fun n13 =>
 Must (ltN n13 l11) (
 Ld H p9 (Nat.add o10 (Nat.mul n13 1)) fun v14 =>
 Call1 Tryz.prog con 160 [v8, v14] H fun v15 H16 =>
 AsBool v15 fun b17 =>
 Cd (notB b17) (
 AsInt .i64 (a 11) fun z18 =>
 InR (Int.sub z18 (Int.ofNat 1)) (
 K .normal (upd (upd (upd (upd (upd (upd (upd (upd (upd (upd (upd (upd (upd (upd (upd (upd (upd (upd (upd (upd (upd (upd (upd (upd (upd (upd (upd (upd a 115 (a 10)) 116 (a 11)) 117 (.bool (leZ z1 z2))) 118 (.bool (leZ z1 z2))) 118 (.bool true)) 119 (a 0)) 118 (.bool true)) 120 (a 11)) 118 (.bool true)) 121 (ptr p3 (Nat.add o4 (Nat.mul n7 1)))) 118 (.bool true)) 122 v8) 118 (.bool true)) 123 (a 0)) 118 (.bool true)) 124 (a 1)) 118 (.bool true)) 125 (ptr p9 (Nat.add o10 (Nat.mul n13 1)))) 118 (.bool true)) 126 v14) 118 (.bool true)) 127 v15) 118 (.bool true)) 128 (.bool (notB b17))) 129 (.bool (notB b17))) 130 (a 11)) 131 (i64 (Int.sub z18 (Int.ofNat 1)))) 11 (i64 (Int.sub z18 (Int.ofNat 1)))) H16)) (
 K (.exit 8) (upd (upd (upd (upd (upd (upd (upd (upd (upd (upd (upd (upd (upd (upd (upd (upd (upd (upd (upd (upd (upd (upd (upd (upd (upd a 115 (a 10)) 116 (a 11)) 117 (.bool (leZ z1 z2))) 118 (.bool (leZ z1 z2))) 118 (.bool true)) 119 (a 0)) 118 (.bool true)) 120 (a 11)) 118 (.bool true)) 121 (ptr p3 (Nat.add o4 (Nat.mul n7 1)))) 118 (.bool true)) 122 v8) 118 (.bool true)) 123 (a 0)) 118 (.bool true)) 124 (a 1)) 118 (.bool true)) 125 (ptr p9 (Nat.add o10 (Nat.mul n13 1)))) 118 (.bool true)) 126 v14) 118 (.bool true)) 127 v15) 118 (.bool true)) 128 (.bool (notB b17))) 129 (.bool (notB b17))) H16)))) (
 K (.exit 8) (upd (upd (upd (upd (upd (upd (upd (upd (upd (upd (upd (upd (upd (upd (upd (upd (upd (upd (upd (upd (upd (upd (upd (upd (upd a 115 (a 10)) 116 (a 11)) 117 (.bool (leZ z1 z2))) 118 (.bool (leZ z1 z2))) 118 (.bool false)) 119 (.tuple ⟨[]⟩)) 118 (.bool false)) 120 (.tuple ⟨[]⟩)) 118 (.bool false)) 121 (.tuple ⟨[]⟩)) 118 (.bool false)) 122 (.tuple ⟨[]⟩)) 118 (.bool false)) 123 (.tuple ⟨[]⟩)) 118 (.bool false)) 124 (.tuple ⟨[]⟩)) 118 (.bool false)) 125 (.tuple ⟨[]⟩)) 118 (.bool false)) 126 (.tuple ⟨[]⟩)) 118 (.bool false)) 127 (.tuple ⟨[]⟩)) 118 (.bool false)) 128 (.tuple ⟨[]⟩)) 129 (.bool false)) H)) := by kernel_rfl
theorem nextPow_W (con : CallT) (n : Int) (H : CH) (K : KP) : funW Tryz.prog con 166 [i64 n] H K =
 (Must (cvOk .i64 n) (
 Call1 Tryz.prog con 149 [(u64 ((wrapN .u64 n)))] H fun v1 H2 =>
 AsCnt v1 fun n3 =>
 K (u64 ((Nat.mod (Nat.mul 1 (Nat.pow 2 (Nat.min n3 64))) 18446744073709551616))) H2)) := by kernel_rfl
theorem xorNext_W (con : CallT) (p : Nat) (H : CH) (K : KP) : funW Tryz.prog con 167 [ptr p 0] H K =
 (Ld H p 0 fun v1 =>
 Ld H p 0 fun v2 =>
 AsNat .u64 v2 fun n3 =>
 AsNat .u64 v1 fun n4 =>
 CInt .xor .u64 (Int.ofNat n4) (Int.ofNat (Nat.mod (Nat.mul n3 8192) 18446744073709551616)) fun v5 =>
 Sc v5 (St H p 0 [v5] fun H6 =>
 Ld H6 p 0 fun v7 =>
 Ld H6 p 0 fun v8 =>
 AsNat .u64 v8 fun n9 =>
 AsNat .u64 v7 fun n10 =>
 CInt .xor .u64 (Int.ofNat n10) (Int.ofNat (Nat.div n9 128)) fun v11 =>
 Sc v11 (St H6 p 0 [v11] fun H12 =>
 Ld H12 p 0 fun v13 =>
 Ld H12 p 0 fun v14 =>
 AsNat .u64 v14 fun n15 =>
 AsNat .u64 v13 fun n16 =>
 CInt .xor .u64 (Int.ofNat n16) (Int.ofNat (Nat.mod (Nat.mul n15 131072) 18446744073709551616)) fun v17 =>
 Sc v17 (St H12 p 0 [v17] fun H18 =>
 Ld H18 p 0 fun v19 =>
 K v19 H18)))) := by kernel_rfl
theorem medAdj_W (con : CallT) (v : Value) (i : Int) (p : Nat) (H : CH) (K : KP) : funW Tryz.prog con 168 [v, i64 i, ptr p 0] H K =
 (InR (Int.sub i (Int.ofNat 1)) (
 InR (Int.add i (Int.ofNat 1)) (
 Call1 Tryz.prog con 169 [v, (i64 (Int.sub i (Int.ofNat 1))), (i64 i), (i64 (Int.add i (Int.ofNat 1))), (ptr p 0)] H fun v1 H2 =>
 K v1 H2))) := by kernel_rfl
theorem median_W (con : CallT) (v : Value) (i j k : Int) (p : Nat) (H : CH) (K : KP) : funW Tryz.prog con 169 [v, i64 i, i64 j, i64 k, ptr p 0] H K =
 (Call1 Tryz.prog con 171 [v, (i64 i), (i64 j), (ptr p 0)] H fun v1 H2 =>
 AsTup v1 fun l3 =>
 Nth l3 0 fun v4 =>
 AsTup v1 fun l5 =>
 Nth l5 1 fun v6 =>
 Call1 Tryz.prog con 171 [v, v6, (i64 k), (ptr p 0)] H2 fun v7 H8 =>
 AsTup v7 fun l9 =>
 Nth l9 0 fun v10 =>
 AsTup v7 fun l11 =>
 Nth l11 1 fun v12 =>
 Call1 Tryz.prog con 171 [v, v4, v10, (ptr p 0)] H8 fun v13 H14 =>
 AsTup v13 fun l15 =>
 Nth l15 0 fun v16 =>
 AsTup v13 fun l17 =>
 Nth l17 1 fun v18 =>
 K v18 H14) := by kernel_rfl
theorem cmpNaN_W (con : CallT) (x : Nat) (H : CH) (K : KP) : funW Tryz.prog con 170 [u64 x] H K =
 (K (.bool (notB (eqN x x))) H) := by kernel_rfl
theorem order2_W (con : CallT) (v : Value) (i j : Int) (p : Nat) (H : CH) (K : KP) : funW Tryz.prog con 171 [v, i64 i, i64 j, ptr p 0] H K =
 (AsSlc v fun p1 o2 l3 c4 =>
 AsCnt (i64 j) fun n5 =>
 Must (ltN n5 l3) (
 Ld H p1 (Nat.add o2 (Nat.mul n5 1)) fun v6 =>
 AsSlc v fun p7 o8 l9 c10 =>
 AsCnt (i64 i) fun n11 =>
 Must (ltN n11 l9) (
 Ld H p7 (Nat.add o8 (Nat.mul n11 1)) fun v12 =>
 Call1 Tryz.prog con 160 [v6, v12] H fun v13 H14 =>
 AsBool v13 fun b15 =>
 Cd b15 (
 Ld H14 p 0 fun v16 =>
 AsInt .i64 v16 fun z17 =>
 InR (Int.add z17 (Int.ofNat 1)) (
 St H14 p 0 [(i64 (Int.add z17 (Int.ofNat 1)))] fun H18 =>
 K (.tuple ⟨[(i64 j), (i64 i)]⟩) H18)) (
 K (.tuple ⟨[(i64 i), (i64 j)]⟩) H14)))) := by kernel_rfl
theorem compactL_W (con : CallT) (a : TF) (H : CH) (K : KX) : codeW (lpAt Tryz.prog 127 0) Tryz.prog con a H K =
 (AsLen (a 0) fun l1 =>
 AsInt .i64 (a 3) fun z2 =>
 Cd (ltZ z2 (Int.ofNat l1)) (
 AsSlc (a 0) fun p3 o4 l5 c6 =>
 AsCnt (a 3) fun n7 =>
 Must (ltN n7 l5) (
 Ld H p3 (Nat.add o4 (Nat.mul n7 1)) fun v8 =>
 AsInt .i64 (a 3) fun z9 =>
 InR (Int.sub z9 (Int.ofNat 1)) (
 AsSlc (a 0) fun p10 o11 l12 c13 =>
 AsCnt (i64 (Int.sub z9 (Int.ofNat 1))) fun n14 =>
 Must (ltN n14 l12) (
 Ld H p10 (Nat.add o11 (Nat.mul n14 1)) fun v15 =>
 AsNat .u64 v8 fun n16 =>
 AsNat .u64 v15 fun n17 =>
 Cd (eqN n16 n17) (
 Slc Tryz.prog H 36 (a 0) (some (a 3)) none none fun v18 =>
 LoopC Tryz.prog con (lpAt Tryz.prog 127 1) (upd (upd (upd (upd (upd (upd (upd (upd (upd (upd (upd (upd (upd (upd (upd (upd (upd (upd (upd a 10 (a 3)) 11 (a 0)) 12 (iN (l1))) 13 (.bool (ltZ z2 (Int.ofNat l1)))) 16 (a 0)) 17 (a 3)) 18 (ptr p3 (Nat.add o4 (Nat.mul n7 1)))) 19 v8) 20 (a 0)) 21 (a 3)) 22 (i64 (Int.sub z9 (Int.ofNat 1)))) 23 (ptr p10 (Nat.add o11 (Nat.mul n14 1)))) 24 v15) 25 (.bool (eqN n16 n17))) 26 (a 0)) 27 (a 3)) 28 v18) 4 v18) 5 (iN (1))) H (fun e => ceP e
 (fun a19 H20 =>
 Slc Tryz.prog H20 36 (a19 0) (some (a19 3)) none none fun v22 =>
 Clr Tryz.prog 36 H20 v22 fun v23 H24 =>
 Slc Tryz.prog H24 36 (a19 0) none (some (a19 3)) none fun v25 =>
 K .ret (upd (upd (upd (upd (upd (upd (upd a19 54 (a19 0)) 55 (a19 3)) 56 v22) 57 (a19 0)) 58 (a19 3)) 59 v25) 2 v25) H24)
 (fun i21 => fun a19 H20 =>
 Cd (eqN i21 2) (
 Slc Tryz.prog H20 36 (a19 0) (some (a19 3)) none none fun v26 =>
 Clr Tryz.prog 36 H20 v26 fun v27 H28 =>
 Slc Tryz.prog H28 36 (a19 0) none (some (a19 3)) none fun v29 =>
 K .ret (upd (upd (upd (upd (upd (upd (upd a19 54 (a19 0)) 55 (a19 3)) 56 v26) 57 (a19 0)) 58 (a19 3)) 59 v29) 2 v29) H28) (
 Cd (eqN i21 1) (
 AsInt .i64 (a19 3) fun z30 =>
 InR (Int.add z30 (Int.ofNat 1)) (
 K .normal (upd (upd (upd a19 14 (a19 3)) 15 (i64 (Int.add z30 (Int.ofNat 1)))) 3 (i64 (Int.add z30 (Int.ofNat 1)))) H20)) (
 K (.exit i21) a19 H20)))
 (fun a19 H20 =>
 K .ret a19 H20))) (
 AsInt .i64 (a 3) fun z31 =>
 InR (Int.add z31 (Int.ofNat 1)) (
 K .normal (upd (upd (upd (upd (upd (upd (upd (upd (upd (upd (upd (upd (upd (upd (upd (upd (upd a 10 (a 3)) 11 (a 0)) 12 (iN (l1))) 13 (.bool (ltZ z2 (Int.ofNat l1)))) 16 (a 0)) 17 (a 3)) 18 (ptr p3 (Nat.add o4 (Nat.mul n7 1)))) 19 v8) 20 (a 0)) 21 (a 3)) 22 (i64 (Int.sub z9 (Int.ofNat 1)))) 23 (ptr p10 (Nat.add o11 (Nat.mul n14 1)))) 24 v15) 25 (.bool (eqN n16 n17))) 14 (a 3)) 15 (i64 (Int.add z31 (Int.ofNat 1)))) 3 (i64 (Int.add z31 (Int.ofNat 1)))) H)))))) (
 K (.exit 0) (upd (upd (upd (upd a 10 (a 3)) 11 (a 0)) 12 (iN (l1))) 13 (.bool (ltZ z2 (Int.ofNat l1)))) H)) := by kernel_rfl
theorem compactM_W (con : CallT) (a : TF) (H : CH) (K : KX) : codeW (lpAt Tryz.prog 127 1) Tryz.prog con a H K =
 (AsLen (a 4) fun l1 =>
 AsInt .i64 (a 5) fun z2 =>
 Cd (ltZ z2 (Int.ofNat l1)) (
 AsSlc (a 4) fun p3 o4 l5 c6 =>
 AsCnt (a 5) fun n7 =>
 Must (ltN n7 l5) (
 Ld H p3 (Nat.add o4 (Nat.mul n7 1)) fun v8 =>
 AsInt .i64 (a 5) fun z9 =>
 InR (Int.sub z9 (Int.ofNat 1)) (
 AsSlc (a 4) fun p10 o11 l12 c13 =>
 AsCnt (i64 (Int.sub z9 (Int.ofNat 1))) fun n14 =>
 Must (ltN n14 l12) (
 Ld H p10 (Nat.add o11 (Nat.mul n14 1)) fun v15 =>
 AsNat .u64 v8 fun n16 =>
 AsNat .u64 v15 fun n17 =>
 Cd (notB (eqN n16 n17)) (
 AsSlc (a 4) fun p18 o19 l20 c21 =>
 AsCnt (a 5) fun n22 =>
 Must (ltN n22 l20) (
 Ld H p18 (Nat.add o19 (Nat.mul n22 1)) fun v23 =>
 AsSlc (a 0) fun p24 o25 l26 c27 =>
 AsCnt (a 3) fun n28 =>
 Must (ltN n28 l26) (
 Sc v23 (St H p24 (Nat.add o25 (Nat.mul n28 1)) [v23] fun H29 =>
 AsInt .i64 (a 3) fun z30 =>
 InR (Int.add z30 (Int.ofNat 1)) (
 AsInt .i64 (a 5) fun z31 =>
 InR (Int.add z31 (Int.ofNat 1)) (
 K .normal (upd (upd (upd (upd (upd (upd (upd (upd (upd (upd (upd (upd (upd (upd (upd (upd (upd (upd (upd (upd (upd (upd (upd (upd (upd (upd (upd a 29 (a 5)) 30 (a 4)) 31 (iN (l1))) 32 (.bool (ltZ z2 (Int.ofNat l1)))) 35 (a 4)) 36 (a 5)) 37 (ptr p3 (Nat.add o4 (Nat.mul n7 1)))) 38 v8) 39 (a 4)) 40 (a 5)) 41 (i64 (Int.sub z9 (Int.ofNat 1)))) 42 (ptr p10 (Nat.add o11 (Nat.mul n14 1)))) 43 v15) 44 (.bool (notB (eqN n16 n17)))) 45 (a 0)) 46 (a 3)) 47 (a 4)) 48 (a 5)) 49 (ptr p18 (Nat.add o19 (Nat.mul n22 1)))) 50 v23) 51 (ptr p24 (Nat.add o25 (Nat.mul n28 1)))) 52 (a 3)) 53 (i64 (Int.add z30 (Int.ofNat 1)))) 3 (i64 (Int.add z30 (Int.ofNat 1)))) 33 (a 5)) 34 (i64 (Int.add z31 (Int.ofNat 1)))) 5 (i64 (Int.add z31 (Int.ofNat 1)))) H29)))))) (
 AsInt .i64 (a 5) fun z32 =>
 InR (Int.add z32 (Int.ofNat 1)) (
 K .normal (upd (upd (upd (upd (upd (upd (upd (upd (upd (upd (upd (upd (upd (upd (upd (upd (upd a 29 (a 5)) 30 (a 4)) 31 (iN (l1))) 32 (.bool (ltZ z2 (Int.ofNat l1)))) 35 (a 4)) 36 (a 5)) 37 (ptr p3 (Nat.add o4 (Nat.mul n7 1)))) 38 v8) 39 (a 4)) 40 (a 5)) 41 (i64 (Int.sub z9 (Int.ofNat 1)))) 42 (ptr p10 (Nat.add o11 (Nat.mul n14 1)))) 43 v15) 44 (.bool (notB (eqN n16 n17)))) 33 (a 5)) 34 (i64 (Int.add z32 (Int.ofNat 1)))) 5 (i64 (Int.add z32 (Int.ofNat 1)))) H)))))) (
 K (.exit 2) (upd (upd (upd (upd a 29 (a 5)) 30 (a 4)) 31 (iN (l1))) 32 (.bool (ltZ z2 (Int.ofNat l1)))) H)) := by kernel_rfl
end Go.Proofs.YtipbbnoepphdkaaGreat

/- What some functions' texts ask for, step by step, each checked by the kernel. No conditions. -/
set_option linter.unusedVariables false
namespace Go.Proofs.YtipbbnoepphdkaaGreat
open Go Go.CM
theorem bitsLen64_W (con : CallT) (n : Nat) (H : CH) (K : KP) : funW Tryz.prog con 164 [u64 n] H K =
 (Cd (leN 4294967296 n) (
 Cd (leN 65536 (Nat.div n 4294967296)) (
 InR (Int.add (Int.ofNat 32) (Int.ofNat 16)) (
 Cd (leN 256 (Nat.div (Nat.div n 4294967296) 65536)) (
 InR (Int.add (Int.add (Int.ofNat 32) (Int.ofNat 16)) (Int.ofNat 8)) (
 OpN Tryz.prog H (upd (upd (upd (upd (upd (upd (upd (upd (upd (upd (upd (upd (upd (upd (upd (upd (upd (upd (upd (upd (upd (upd (upd (upd (upd (upd (upd (fun _ => undV) 0 (u64 (n))) 2 (iN (0))) 3 (u64 (n))) 4 (.bool (leN 4294967296 n))) 5 (u64 (n))) 6 (u64 ((Nat.div n 4294967296)))) 0 (u64 ((Nat.div n 4294967296)))) 2 (iN (32))) 7 (u64 ((Nat.div n 4294967296)))) 8 (.bool (leN 65536 (Nat.div n 4294967296)))) 9 (u64 ((Nat.div n 4294967296)))) 10 (u64 ((Nat.div (Nat.div n 4294967296) 65536)))) 0 (u64 ((Nat.div (Nat.div n 4294967296) 65536)))) 11 (iN (32))) 12 (i64 (Int.add (Int.ofNat 32) (Int.ofNat 16)))) 2 (i64 (Int.add (Int.ofNat 32) (Int.ofNat 16)))) 13 (u64 ((Nat.div (Nat.div n 4294967296) 65536)))) 14 (.bool (leN 256 (Nat.div (Nat.div n 4294967296) 65536)))) 15 (u64 ((Nat.div (Nat.div n 4294967296) 65536)))) 16 (u64 ((Nat.div (Nat.div (Nat.div n 4294967296) 65536) 256)))) 0 (u64 ((Nat.div (Nat.div (Nat.div n 4294967296) 65536) 256)))) 17 (i64 (Int.add (Int.ofNat 32) (Int.ofNat 16)))) 18 (i64 (Int.add (Int.add (Int.ofNat 32) (Int.ofNat 16)) (Int.ofNat 8)))) 2 (i64 (Int.add (Int.add (Int.ofNat 32) (Int.ofNat 16)) (Int.ofNat 8)))) 19 (i64 (Int.add (Int.add (Int.ofNat 32) (Int.ofNat 16)) (Int.ofNat 8)))) 20 (u64 ((Nat.div (Nat.div (Nat.div n 4294967296) 65536) 256)))) 21 (u8 ((Nat.mod (Nat.div (Nat.div (Nat.div n 4294967296) 65536) 256) 256)))) (.index 9 (.const (.string ({
 data :=
 (([0, 1, 2, 2, 3, 3, 3, 3, 4, 4, 4, 4, 4, 4, 4, 4, 5, 5, 5, 5, 5, 5, 5, 5, 5, 5, 5, 5, 5, 5, 5, 5, 6, 6, 6, 6, 6, 6,
 6, 6, 6, 6, 6, 6, 6, 6, 6, 6, 6, 6, 6, 6, 6, 6, 6, 6, 6, 6, 6, 6, 6, 6, 6, 6].append
 [7, 7, 7, 7, 7, 7, 7, 7, 7, 7, 7, 7, 7, 7, 7, 7, 7, 7, 7, 7, 7, 7, 7, 7, 7, 7, 7, 7, 7, 7, 7, 7, 7, 7, 7, 7,
 7, 7, 7, 7, 7, 7, 7, 7, 7, 7, 7, 7, 7, 7, 7, 7, 7, 7, 7, 7, 7, 7, 7, 7, 7, 7, 7, 7]).append
 ([8, 8, 8, 8, 8, 8, 8, 8, 8, 8, 8, 8, 8, 8, 8, 8, 8, 8, 8, 8, 8, 8, 8, 8, 8, 8, 8, 8, 8, 8, 8, 8, 8, 8, 8, 8, 8,
 8, 8, 8, 8, 8, 8, 8, 8, 8, 8, 8, 8, 8, 8, 8, 8, 8, 8, 8, 8, 8, 8, 8, 8, 8, 8, 8].append
 [8, 8, 8, 8, 8, 8, 8, 8, 8, 8, 8, 8, 8, 8, 8, 8, 8, 8, 8, 8, 8, 8, 8, 8, 8, 8, 8, 8, 8, 8, 8, 8, 8, 8, 8, 8,
 8, 8, 8, 8, 8, 8, 8, 8, 8, 8, 8, 8, 8, 8, 8, 8, 8, 8, 8, 8, 8, 8, 8, 8, 8, 8, 8, 8])).toArray }))) (.tmp 21)) fun v1 H2 =>
 AsNat .u8 v1 fun n3 =>
 Must (ltN n3 256) (
 InR (Int.add (Int.add (Int.add (Int.ofNat 32) (Int.ofNat 16)) (Int.ofNat 8)) (Int.ofNat n3)) (
 K (i64 (Int.add (Int.add (Int.add (Int.ofNat 32) (Int.ofNat 16)) (Int.ofNat 8)) (Int.ofNat n3))) H2)))) (
 OpN Tryz.prog H (upd (upd (upd (upd (upd (upd (upd (upd (upd (upd (upd (upd (upd (upd (upd (upd (upd (upd (upd (upd (upd (fun _ => undV) 0 (u64 (n))) 2 (iN (0))) 3 (u64 (n))) 4 (.bool (leN 4294967296 n))) 5 (u64 (n))) 6 (u64 ((Nat.div n 4294967296)))) 0 (u64 ((Nat.div n 4294967296)))) 2 (iN (32))) 7 (u64 ((Nat.div n 4294967296)))) 8 (.bool (leN 65536 (Nat.div n 4294967296)))) 9 (u64 ((Nat.div n 4294967296)))) 10 (u64 ((Nat.div (Nat.div n 4294967296) 65536)))) 0 (u64 ((Nat.div (Nat.div n 4294967296) 65536)))) 11 (iN (32))) 12 (i64 (Int.add (Int.ofNat 32) (Int.ofNat 16)))) 2 (i64 (Int.add (Int.ofNat 32) (Int.ofNat 16)))) 13 (u64 ((Nat.div (Nat.div n 4294967296) 65536)))) 14 (.bool (leN 256 (Nat.div (Nat.div n 4294967296) 65536)))) 19 (i64 (Int.add (Int.ofNat 32) (Int.ofNat 16)))) 20 (u64 ((Nat.div (Nat.div n 4294967296) 65536)))) 21 (u8 ((Nat.mod (Nat.div (Nat.div n 4294967296) 65536) 256)))) (.index 9 (.const (.string ({
 data :=
 (([0, 1, 2, 2, 3, 3, 3, 3, 4, 4, 4, 4, 4, 4, 4, 4, 5, 5, 5, 5, 5, 5, 5, 5, 5, 5, 5, 5, 5, 5, 5, 5, 6, 6, 6, 6, 6, 6,
 6, 6, 6, 6, 6, 6, 6, 6, 6, 6, 6, 6, 6, 6, 6, 6, 6, 6, 6, 6, 6, 6, 6, 6, 6, 6].append
 [7, 7, 7, 7, 7, 7, 7, 7, 7, 7, 7, 7, 7, 7, 7, 7, 7, 7, 7, 7, 7, 7, 7, 7, 7, 7, 7, 7, 7, 7, 7, 7, 7, 7, 7, 7,
 7, 7, 7, 7, 7, 7, 7, 7, 7, 7, 7, 7, 7, 7, 7, 7, 7, 7, 7, 7, 7, 7, 7, 7, 7, 7, 7, 7]).append
 ([8, 8, 8, 8, 8, 8, 8, 8, 8, 8, 8, 8, 8, 8, 8, 8, 8, 8, 8, 8, 8, 8, 8, 8, 8, 8, 8, 8, 8, 8, 8, 8, 8, 8, 8, 8, 8,
 8, 8, 8, 8, 8, 8, 8, 8, 8, 8, 8, 8, 8, 8, 8, 8, 8, 8, 8, 8, 8, 8, 8, 8, 8, 8, 8].append
 [8, 8, 8, 8, 8, 8, 8, 8, 8, 8, 8, 8, 8, 8, 8, 8, 8, 8, 8, 8, 8, 8, 8, 8, 8, 8, 8, 8, 8, 8, 8, 8, 8, 8, 8, 8,
 8, 8, 8, 8, 8, 8, 8, 8, 8, 8, 8, 8, 8, 8, 8, 8, 8, 8, 8, 8, 8, 8, 8, 8, 8, 8, 8, 8])).toArray }))) (.tmp 21)) fun v4 H5 =>
 AsNat .u8 v4 fun n6 =>
 Must (ltN n6 256) (
 InR (Int.add (Int.add (Int.ofNat 32) (Int.ofNat 16)) (Int.ofNat n6)) (
 K (i64 (Int.add (Int.add (Int.ofNat 32) (Int.ofNat 16)) (Int.ofNat n6))) H5))))) (
 Cd (leN 256 (Nat.div n 4294967296)) (
 InR (Int.add (Int.ofNat 32) (Int.ofNat 8)) (
 OpN Tryz.prog H (upd (upd (upd (upd (upd (upd (upd (upd (upd (upd (upd (upd (upd (upd (upd (upd (upd (upd (upd (upd (upd (fun _ => undV) 0 (u64 (n))) 2 (iN (0))) 3 (u64 (n))) 4 (.bool (leN 4294967296 n))) 5 (u64 (n))) 6 (u64 ((Nat.div n 4294967296)))) 0 (u64 ((Nat.div n 4294967296)))) 2 (iN (32))) 7 (u64 ((Nat.div n 4294967296)))) 8 (.bool (leN 65536 (Nat.div n 4294967296)))) 13 (u64 ((Nat.div n 4294967296)))) 14 (.bool (leN 256 (Nat.div n 4294967296)))) 15 (u64 ((Nat.div n 4294967296)))) 16 (u64 ((Nat.div (Nat.div n 4294967296) 256)))) 0 (u64 ((Nat.div (Nat.div n 4294967296) 256)))) 17 (iN (32))) 18 (i64 (Int.add (Int.ofNat 32) (Int.ofNat 8)))) 2 (i64 (Int.add (Int.ofNat 32) (Int.ofNat 8)))) 19 (i64 (Int.add (Int.ofNat 32) (Int.ofNat 8)))) 20 (u64 ((Nat.div (Nat.div n 4294967296) 256)))) 21 (u8 ((Nat.mod (Nat.div (Nat.div n 4294967296) 256) 256)))) (.index 9 (.const (.string ({
 data :=
 (([0, 1, 2, 2, 3, 3, 3, 3, 4, 4, 4, 4, 4, 4, 4, 4, 5, 5, 5, 5, 5, 5, 5, 5, 5, 5, 5, 5, 5, 5, 5, 5, 6, 6, 6, 6, 6, 6,
 6, 6, 6, 6, 6, 6, 6, 6, 6, 6, 6, 6, 6, 6, 6, 6, 6, 6, 6, 6, 6, 6, 6, 6, 6, 6].append
 [7, 7, 7, 7, 7, 7, 7, 7, 7, 7, 7, 7, 7, 7, 7, 7, 7, 7, 7, 7, 7, 7, 7, 7, 7, 7, 7, 7, 7, 7, 7, 7, 7, 7, 7, 7,
 7, 7, 7, 7, 7, 7, 7, 7, 7, 7, 7, 7, 7, 7, 7, 7, 7, 7, 7, 7, 7, 7, 7, 7, 7, 7, 7, 7]).append
 ([8, 8, 8, 8, 8, 8, 8, 8, 8, 8, 8, 8, 8, 8, 8, 8, 8, 8, 8, 8, 8, 8, 8, 8, 8, 8, 8, 8, 8, 8, 8, 8, 8, 8, 8, 8, 8,
 8, 8, 8, 8, 8, 8, 8, 8, 8, 8, 8, 8, 8, 8, 8, 8, 8, 8, 8, 8, 8, 8, 8, 8, 8, 8, 8].append
 [8, 8, 8, 8, 8, 8, 8, 8, 8, 8, 8, 8, 8, 8, 8, 8, 8, 8, 8, 8, 8, 8, 8, 8, 8, 8, 8, 8, 8, 8, 8, 8, 8, 8, 8, 8,
 8, 8, 8, 8, 8, 8, 8, 8, 8, 8, 8, 8, 8, 8, 8, 8, 8, 8, 8, 8, 8, 8, 8, 8, 8, 8, 8, 8])).toArray }))) (.tmp 21)) fun v7 H8 =>
 AsNat .u8 v7 fun n9 =>
 Must (ltN n9 256) (
 InR (Int.add (Int.add (Int.ofNat 32) (Int.ofNat 8)) (Int.ofNat n9)) (
 K (i64 (Int.add (Int.add (Int.ofNat 32) (Int.ofNat 8)) (Int.ofNat n9))) H8)))) (
 OpN Tryz.prog H (upd (upd (upd (upd (upd (upd (upd (upd (upd (upd (upd (upd (upd (upd (upd (fun _ => undV) 0 (u64 (n))) 2 (iN (0))) 3 (u64 (n))) 4 (.bool (leN 4294967296 n))) 5 (u64 (n))) 6 (u64 ((Nat.div n 4294967296)))) 0 (u64 ((Nat.div n 4294967296)))) 2 (iN (32))) 7 (u64 ((Nat.div n 4294967296)))) 8 (.bool (leN 65536 (Nat.div n 4294967296)))) 13 (u64 ((Nat.div n 4294967296)))) 14 (.bool (leN 256 (Nat.div n 4294967296)))) 19 (iN (32))) 20 (u64 ((Nat.div n 4294967296)))) 21 (u8 ((Nat.mod (Nat.div n 4294967296) 256)))) (.index 9 (.const (.string ({
 data :=
 (([0, 1, 2, 2, 3, 3, 3, 3, 4, 4, 4, 4, 4, 4, 4, 4, 5, 5, 5, 5, 5, 5, 5, 5, 5, 5, 5, 5, 5, 5, 5, 5, 6, 6, 6, 6, 6, 6,
 6, 6, 6, 6, 6, 6, 6, 6, 6, 6, 6, 6, 6, 6, 6, 6, 6, 6, 6, 6, 6, 6, 6, 6, 6, 6].append
 [7, 7, 7, 7, 7, 7, 7, 7, 7, 7, 7, 7, 7, 7, 7, 7, 7, 7, 7, 7, 7, 7, 7, 7, 7, 7, 7, 7, 7, 7, 7, 7, 7, 7, 7, 7,
 7, 7, 7, 7, 7, 7, 7, 7, 7, 7, 7, 7, 7, 7, 7, 7, 7, 7, 7, 7, 7, 7, 7, 7, 7, 7, 7, 7]).append
 ([8, 8, 8, 8, 8, 8, 8, 8, 8, 8, 8, 8, 8, 8, 8, 8, 8, 8, 8, 8, 8, 8, 8, 8, 8, 8, 8, 8, 8, 8, 8, 8, 8, 8, 8, 8, 8,
 8, 8, 8, 8, 8, 8, 8, 8, 8, 8, 8, 8, 8, 8, 8, 8, 8, 8, 8, 8, 8, 8, 8, 8, 8, 8, 8].append
 [8, 8, 8, 8, 8, 8, 8, 8, 8, 8, 8, 8, 8, 8, 8, 8, 8, 8, 8, 8, 8, 8, 8, 8, 8, 8, 8, 8, 8, 8, 8, 8, 8, 8, 8, 8,
 8, 8, 8, 8, 8, 8, 8, 8, 8, 8, 8, 8, 8, 8, 8, 8, 8, 8, 8, 8, 8, 8, 8, 8, 8, 8, 8, 8])).toArray }))) (.tmp 21)) fun v10 H11 =>
 AsNat .u8 v10 fun n12 =>
 Must (ltN n12 256) (
 InR (Int.add (Int.ofNat 32) (Int.ofNat n12)) (
 K (i64 (Int.add (Int.ofNat 32) (Int.ofNat n12))) H11))))) (
 Cd (leN 65536 n) (
 InR (Int.add (Int.ofNat 0) (Int.ofNat 16)) (
 Cd (leN 256 (Nat.div n 65536)) (
 InR (Int.add (Int.add (Int.ofNat 0) (Int.ofNat 16)) (Int.ofNat 8)) (
 OpN Tryz.prog H (upd (upd (upd (upd (upd (upd (upd (upd (upd (upd (upd (upd (upd (upd (upd (upd (upd (upd (upd (upd (upd (upd (upd (fun _ => undV) 0 (u64 (n))) 2 (iN (0))) 3 (u64 (n))) 4 (.bool (leN 4294967296 n))) 7 (u64 (n))) 8 (.bool (leN 65536 n))) 9 (u64 (n))) 10 (u64 ((Nat.div n 65536)))) 0 (u64 ((Nat.div n 65536)))) 11 (iN (0))) 12 (i64 (Int.add (Int.ofNat 0) (Int.ofNat 16)))) 2 (i64 (Int.add (Int.ofNat 0) (Int.ofNat 16)))) 13 (u64 ((Nat.div n 65536)))) 14 (.bool (leN 256 (Nat.div n 65536)))) 15 (u64 ((Nat.div n 65536)))) 16 (u64 ((Nat.div (Nat.div n 65536) 256)))) 0 (u64 ((Nat.div (Nat.div n 65536) 256)))) 17 (i64 (Int.add (Int.ofNat 0) (Int.ofNat 16)))) 18 (i64 (Int.add (Int.add (Int.ofNat 0) (Int.ofNat 16)) (Int.ofNat 8)))) 2 (i64 (Int.add (Int.add (Int.ofNat 0) (Int.ofNat 16)) (Int.ofNat 8)))) 19 (i64 (Int.add (Int.add (Int.ofNat 0) (Int.ofNat 16)) (Int.ofNat 8)))) 20 (u64 ((Nat.div (Nat.div n 65536) 256)))) 21 (u8 ((Nat.mod (Nat.div (Nat.div n 65536) 256) 256)))) (.index 9 (.const (.string ({
 data :=
 (([0, 1, 2, 2, 3, 3, 3, 3, 4, 4, 4, 4, 4, 4, 4, 4, 5, 5, 5, 5, 5, 5, 5, 5, 5, 5, 5, 5, 5, 5, 5, 5, 6, 6, 6, 6, 6, 6,
 6, 6, 6, 6, 6, 6, 6, 6, 6, 6, 6, 6, 6, 6, 6, 6, 6, 6, 6, 6, 6, 6, 6, 6, 6, 6].append
 [7, 7, 7, 7, 7, 7, 7, 7, 7, 7, 7, 7, 7, 7, 7, 7, 7, 7, 7, 7, 7, 7, 7, 7, 7, 7, 7, 7, 7, 7, 7, 7, 7, 7, 7, 7,
 7, 7, 7, 7, 7, 7, 7, 7, 7, 7, 7, 7, 7, 7, 7, 7, 7, 7, 7, 7, 7, 7, 7, 7, 7, 7, 7, 7]).append
 ([8, 8, 8, 8, 8, 8, 8, 8, 8, 8, 8, 8, 8, 8, 8, 8, 8, 8, 8, 8, 8, 8, 8, 8, 8, 8, 8, 8, 8, 8, 8, 8, 8, 8, 8, 8, 8,
 8, 8, 8, 8, 8, 8, 8, 8, 8, 8, 8, 8, 8, 8, 8, 8, 8, 8, 8, 8, 8, 8, 8, 8, 8, 8, 8].append
 [8, 8, 8, 8, 8, 8, 8, 8, 8, 8, 8, 8, 8, 8, 8, 8, 8, 8, 8, 8, 8, 8, 8, 8, 8, 8, 8, 8, 8, 8, 8, 8, 8, 8, 8, 8,
 8, 8, 8, 8, 8, 8, 8, 8, 8, 8, 8, 8, 8, 8, 8, 8, 8, 8, 8, 8, 8, 8, 8, 8, 8, 8, 8, 8])).toArray }))) (.tmp 21)) fun v13 H14 =>
 AsNat .u8 v13 fun n15 =>
 Must (ltN n15 256) (
 InR (Int.add (Int.add (Int.add (Int.ofNat 0) (Int.ofNat 16)) (Int.ofNat 8)) (Int.ofNat n15)) (
 K (i64 (Int.add (Int.add (Int.add (Int.ofNat 0) (Int.ofNat 16)) (Int.ofNat 8)) (Int.ofNat n15))) H14)))) (
 OpN Tryz.prog H (upd (upd (upd (upd (upd (upd (upd (upd (upd (upd (upd (upd (upd (upd (upd (upd (upd (fun _ => undV) 0 (u64 (n))) 2 (iN (0))) 3 (u64 (n))) 4 (.bool (leN 4294967296 n))) 7 (u64 (n))) 8 (.bool (leN 65536 n))) 9 (u64 (n))) 10 (u64 ((Nat.div n 65536)))) 0 (u64 ((Nat.div n 65536)))) 11 (iN (0))) 12 (i64 (Int.add (Int.ofNat 0) (Int.ofNat 16)))) 2 (i64 (Int.add (Int.ofNat 0) (Int.ofNat 16)))) 13 (u64 ((Nat.div n 65536)))) 14 (.bool (leN 256 (Nat.div n 65536)))) 19 (i64 (Int.add (Int.ofNat 0) (Int.ofNat 16)))) 20 (u64 ((Nat.div n 65536)))) 21 (u8 ((Nat.mod (Nat.div n 65536) 256)))) (.index 9 (.const (.string ({
 data :=
 (([0, 1, 2, 2, 3, 3, 3, 3, 4, 4, 4, 4, 4, 4, 4, 4, 5, 5, 5, 5, 5, 5, 5, 5, 5, 5, 5, 5, 5, 5, 5, 5, 6, 6, 6, 6, 6, 6,
 6, 6, 6, 6, 6, 6, 6, 6, 6, 6, 6, 6, 6, 6, 6, 6, 6, 6, 6, 6, 6, 6, 6, 6, 6, 6].append
 [7, 7, 7, 7, 7, 7, 7, 7, 7, 7, 7, 7, 7, 7, 7, 7, 7, 7, 7, 7, 7, 7, 7, 7, 7, 7, 7, 7, 7, 7, 7, 7, 7, 7, 7, 7,
 7, 7, 7, 7, 7, 7, 7, 7, 7, 7, 7, 7, 7, 7, 7, 7, 7, 7, 7, 7, 7, 7, 7, 7, 7, 7, 7, 7]).append
 ([8, 8, 8, 8, 8, 8, 8, 8, 8, 8, 8, 8, 8, 8, 8, 8, 8, 8, 8, 8, 8, 8, 8, 8, 8, 8, 8, 8, 8, 8, 8, 8, 8, 8, 8, 8, 8,
 8, 8, 8, 8, 8, 8, 8, 8, 8, 8, 8, 8, 8, 8, 8, 8, 8, 8, 8, 8, 8, 8, 8, 8, 8, 8, 8].append
 [8, 8, 8, 8, 8, 8, 8, 8, 8, 8, 8, 8, 8, 8, 8, 8, 8, 8, 8, 8, 8, 8, 8, 8, 8, 8, 8, 8, 8, 8, 8, 8, 8, 8, 8, 8,
 8, 8, 8, 8, 8, 8, 8, 8, 8, 8, 8, 8, 8, 8, 8, 8, 8, 8, 8, 8, 8, 8, 8, 8, 8, 8, 8, 8])).toArray }))) (.tmp 21)) fun v16 H17 =>
 AsNat .u8 v16 fun n18 =>
 Must (ltN n18 256) (
 InR (Int.add (Int.add (Int.ofNat 0) (Int.ofNat 16)) (Int.ofNat n18)) (
 K (i64 (Int.add (Int.add (Int.ofNat 0) (Int.ofNat 16)) (Int.ofNat n18))) H17))))) (
 Cd (leN 256 n) (
 InR (Int.add (Int.ofNat 0) (Int.ofNat 8)) (
 OpN Tryz.prog H (upd (upd (upd (upd (upd (upd (upd (upd (upd (upd (upd (upd (upd (upd (upd (upd (upd (fun _ => undV) 0 (u64 (n))) 2 (iN (0))) 3 (u64 (n))) 4 (.bool (leN 4294967296 n))) 7 (u64 (n))) 8 (.bool (leN 65536 n))) 13 (u64 (n))) 14 (.bool (leN 256 n))) 15 (u64 (n))) 16 (u64 ((Nat.div n 256)))) 0 (u64 ((Nat.div n 256)))) 17 (iN (0))) 18 (i64 (Int.add (Int.ofNat 0) (Int.ofNat 8)))) 2 (i64 (Int.add (Int.ofNat 0) (Int.ofNat 8)))) 19 (i64 (Int.add (Int.ofNat 0) (Int.ofNat 8)))) 20 (u64 ((Nat.div n 256)))) 21 (u8 ((Nat.mod (Nat.div n 256) 256)))) (.index 9 (.const (.string ({
 data :=
 (([0, 1, 2, 2, 3, 3, 3, 3, 4, 4, 4, 4, 4, 4, 4, 4, 5, 5, 5, 5, 5, 5, 5, 5, 5, 5, 5, 5, 5, 5, 5, 5, 6, 6, 6, 6, 6, 6,
 6, 6, 6, 6, 6, 6, 6, 6, 6, 6, 6, 6, 6, 6, 6, 6, 6, 6, 6, 6, 6, 6, 6, 6, 6, 6].append
 [7, 7, 7, 7, 7, 7, 7, 7, 7, 7, 7, 7, 7, 7, 7, 7, 7, 7, 7, 7, 7, 7, 7, 7, 7, 7, 7, 7, 7, 7, 7, 7, 7, 7, 7, 7,
 7, 7, 7, 7, 7, 7, 7, 7, 7, 7, 7, 7, 7, 7, 7, 7, 7, 7, 7, 7, 7, 7, 7, 7, 7, 7, 7, 7]).append
 ([8, 8, 8, 8, 8, 8, 8, 8, 8, 8, 8, 8, 8, 8, 8, 8, 8, 8, 8, 8, 8, 8, 8, 8, 8, 8, 8, 8, 8, 8, 8, 8, 8, 8, 8, 8, 8,
 8, 8, 8, 8, 8, 8, 8, 8, 8, 8, 8, 8, 8, 8, 8, 8, 8, 8, 8, 8, 8, 8, 8, 8, 8, 8, 8].append
 [8, 8, 8, 8, 8, 8, 8, 8, 8, 8, 8, 8, 8, 8, 8, 8, 8, 8, 8, 8, 8, 8, 8, 8, 8, 8, 8, 8, 8, 8, 8, 8, 8, 8, 8, 8,
 8, 8, 8, 8, 8, 8, 8, 8, 8, 8, 8, 8, 8, 8, 8, 8, 8, 8, 8, 8, 8, 8, 8, 8, 8, 8, 8, 8])).toArray }))) (.tmp 21)) fun v19 H20 =>
 AsNat .u8 v19 fun n21 =>
 Must (ltN n21 256) (
 InR (Int.add (Int.add (Int.ofNat 0) (Int.ofNat 8)) (Int.ofNat n21)) (
 K (i64 (Int.add (Int.add (Int.ofNat 0) (Int.ofNat 8)) (Int.ofNat n21))) H20)))) (
 OpN Tryz.prog H (upd (upd (upd (upd (upd (upd (upd (upd (upd (upd (upd (fun _ => undV) 0 (u64 (n))) 2 (iN (0))) 3 (u64 (n))) 4 (.bool (leN 4294967296 n))) 7 (u64 (n))) 8 (.bool (leN 65536 n))) 13 (u64 (n))) 14 (.bool (leN 256 n))) 19 (iN (0))) 20 (u64 (n))) 21 (u8 ((Nat.mod n 256)))) (.index 9 (.const (.string ({
 data :=
 (([0, 1, 2, 2, 3, 3, 3, 3, 4, 4, 4, 4, 4, 4, 4, 4, 5, 5, 5, 5, 5, 5, 5, 5, 5, 5, 5, 5, 5, 5, 5, 5, 6, 6, 6, 6, 6, 6,
 6, 6, 6, 6, 6, 6, 6, 6, 6, 6, 6, 6, 6, 6, 6, 6, 6, 6, 6, 6, 6, 6, 6, 6, 6, 6].append
 [7, 7, 7, 7, 7, 7, 7, 7, 7, 7, 7, 7, 7, 7, 7, 7, 7, 7, 7, 7, 7, 7, 7, 7, 7, 7, 7, 7, 7, 7, 7, 7, 7, 7, 7, 7,
 7, 7, 7, 7, 7, 7, 7, 7, 7, 7, 7, 7, 7, 7, 7, 7, 7, 7, 7, 7, 7, 7, 7, 7, 7, 7, 7, 7]).append
 ([8, 8, 8, 8, 8, 8, 8, 8, 8, 8, 8, 8, 8, 8, 8, 8, 8, 8, 8, 8, 8, 8, 8, 8, 8, 8, 8, 8, 8, 8, 8, 8, 8, 8, 8, 8, 8,
 8, 8, 8, 8, 8, 8, 8, 8, 8, 8, 8, 8, 8, 8, 8, 8, 8, 8, 8, 8, 8, 8, 8, 8, 8, 8, 8].append
 [8, 8, 8, 8, 8, 8, 8, 8, 8, 8, 8, 8, 8, 8, 8, 8, 8, 8, 8, 8, 8, 8, 8, 8, 8, 8, 8, 8, 8, 8, 8, 8, 8, 8, 8, 8,
 8, 8, 8, 8, 8, 8, 8, 8, 8, 8, 8, 8, 8, 8, 8, 8, 8, 8, 8, 8, 8, 8, 8, 8, 8, 8, 8, 8])).toArray }))) (.tmp 21)) fun v22 H23 =>
 AsNat .u8 v22 fun n24 =>
 Must (ltN n24 256) (
 InR (Int.add (Int.ofNat 0) (Int.ofNat n24)) (
 K (i64 (Int.add (Int.ofNat 0) (Int.ofNat n24))) H23)))))) := by kernel_rfl
end Go.Proofs.YtipbbnoepphdkaaGreat

/- What some functions' texts ask for, step by step, each checked by the kernel. No conditions. -/
set_option linter.unusedVariables false
namespace Go.Proofs.YtipbbnoepphdkaaGreat
open Go Go.CM
theorem siftT_W (con : CallT) (a : TF) (H : CH) (K : KX) : codeW (takeC 5 (blkC (lpAt Tryz.prog 165 0))) Tryz.prog con a H K =
 (AsInt .i64 (a 8) fun z1 =>
 CInt .mul .i64 (Int.ofNat 2) z1 fun v2 =>
 AsInt .i64 v2 fun z3 =>
 InR (Int.add z3 (Int.ofNat 1)) (
 AsInt .i64 (a 2) fun z4 =>
 Cd (leZ z4 (Int.add z3 (Int.ofNat 1))) (
 K (.exit 0) (upd (upd (upd (upd (upd (upd (upd a 11 (a 8)) 12 v2) 13 (i64 (Int.add z3 (Int.ofNat 1)))) 9 (i64 (Int.add z3 (Int.ofNat 1)))) 14 (i64 (Int.add z3 (Int.ofNat 1)))) 15 (a 2)) 16 (.bool (leZ z4 (Int.add z3 (Int.ofNat 1))))) H) (
 InR (Int.add (Int.add z3 (Int.ofNat 1)) (Int.ofNat 1)) (
 AsInt .i64 (a 2) fun z5 =>
 Cd (ltZ (Int.add (Int.add z3 (Int.ofNat 1)) (Int.ofNat 1)) z5) (
 AsInt .i64 (a 3) fun z6 =>
 InR (Int.add z6 (Int.add z3 (Int.ofNat 1))) (
 AsSlc (a 0) fun p7 o8 l9 c10 =>
 AsCnt (i64 (Int.add z6 (Int.add z3 (Int.ofNat 1)))) fun n11 =>
 Must (ltN n11 l9) (
 Ld H p7 (Nat.add o8 (Nat.mul n11 1)) fun v12 =>
 AsInt .i64 (a 3) fun z13 =>
 InR (Int.add z13 (Int.add z3 (Int.ofNat 1))) (
 InR (Int.add (Int.add z13 (Int.add z3 (Int.ofNat 1))) (Int.ofNat 1)) (
 AsSlc (a 0) fun p14 o15 l16 c17 =>
 AsCnt (i64 (Int.add (Int.add z13 (Int.add z3 (Int.ofNat 1))) (Int.ofNat 1))) fun n18 =>
 Must (ltN n18 l16) (
 Ld H p14 (Nat.add o15 (Nat.mul n18 1)) fun v19 =>
 Call1 Tryz.prog con 160 [v12, v19] H fun v20 H21 =>
 AsBool v20 fun b22 =>
 Cd b22 (
 InR (Int.add (Int.add z3 (Int.ofNat 1)) (Int.ofNat 1)) (
 K .normal (upd (upd (upd (upd (upd (upd (upd (upd (upd (upd (upd (upd (upd (upd (upd (upd (upd (upd (upd (upd (upd (upd (upd (upd (upd (upd (upd (upd (upd (upd (upd (upd (upd (upd (upd (upd (upd (upd (upd (upd (upd (upd (upd (upd a 11 (a 8)) 12 v2) 13 (i64 (Int.add z3 (Int.ofNat 1)))) 9 (i64 (Int.add z3 (Int.ofNat 1)))) 14 (i64 (Int.add z3 (Int.ofNat 1)))) 15 (a 2)) 16 (.bool (leZ z4 (Int.add z3 (Int.ofNat 1))))) 17 (i64 (Int.add z3 (Int.ofNat 1)))) 18 (i64 (Int.add (Int.add z3 (Int.ofNat 1)) (Int.ofNat 1)))) 19 (a 2)) 20 (.bool (ltZ (Int.add (Int.add z3 (Int.ofNat 1)) (Int.ofNat 1)) z5))) 21 (.bool (ltZ (Int.add (Int.add z3 (Int.ofNat 1)) (Int.ofNat 1)) z5))) 21 (.bool true)) 22 (a 0)) 21 (.bool true)) 23 (a 3)) 21 (.bool true)) 24 (i64 (Int.add z3 (Int.ofNat 1)))) 21 (.bool true)) 25 (i64 (Int.add z6 (Int.add z3 (Int.ofNat 1))))) 21 (.bool true)) 26 (ptr p7 (Nat.add o8 (Nat.mul n11 1)))) 21 (.bool true)) 27 v12) 21 (.bool true)) 28 (a 0)) 21 (.bool true)) 29 (a 3)) 21 (.bool true)) 30 (i64 (Int.add z3 (Int.ofNat 1)))) 21 (.bool true)) 31 (i64 (Int.add z13 (Int.add z3 (Int.ofNat 1))))) 21 (.bool true)) 32 (i64 (Int.add (Int.add z13 (Int.add z3 (Int.ofNat 1))) (Int.ofNat 1)))) 21 (.bool true)) 33 (ptr p14 (Nat.add o15 (Nat.mul n18 1)))) 21 (.bool true)) 34 v19) 21 (.bool true)) 35 v20) 36 v20) 37 (i64 (Int.add z3 (Int.ofNat 1)))) 38 (i64 (Int.add (Int.add z3 (Int.ofNat 1)) (Int.ofNat 1)))) 9 (i64 (Int.add (Int.add z3 (Int.ofNat 1)) (Int.ofNat 1)))) H21)) (
 K .normal (upd (upd (upd (upd (upd (upd (upd (upd (upd (upd (upd (upd (upd (upd (upd (upd (upd (upd (upd (upd (upd (upd (upd (upd (upd (upd (upd (upd (upd (upd (upd (upd (upd (upd (upd (upd (upd (upd (upd (upd (upd a 11 (a 8)) 12 v2) 13 (i64 (Int.add z3 (Int.ofNat 1)))) 9 (i64 (Int.add z3 (Int.ofNat 1)))) 14 (i64 (Int.add z3 (Int.ofNat 1)))) 15 (a 2)) 16 (.bool (leZ z4 (Int.add z3 (Int.ofNat 1))))) 17 (i64 (Int.add z3 (Int.ofNat 1)))) 18 (i64 (Int.add (Int.add z3 (Int.ofNat 1)) (Int.ofNat 1)))) 19 (a 2)) 20 (.bool (ltZ (Int.add (Int.add z3 (Int.ofNat 1)) (Int.ofNat 1)) z5))) 21 (.bool (ltZ (Int.add (Int.add z3 (Int.ofNat 1)) (Int.ofNat 1)) z5))) 21 (.bool true)) 22 (a 0)) 21 (.bool true)) 23 (a 3)) 21 (.bool true)) 24 (i64 (Int.add z3 (Int.ofNat 1)))) 21 (.bool true)) 25 (i64 (Int.add z6 (Int.add z3 (Int.ofNat 1))))) 21 (.bool true)) 26 (ptr p7 (Nat.add o8 (Nat.mul n11 1)))) 21 (.bool true)) 27 v12) 21 (.bool true)) 28 (a 0)) 21 (.bool true)) 29 (a 3)) 21 (.bool true)) 30 (i64 (Int.add z3 (Int.ofNat 1)))) 21 (.bool true)) 31 (i64 (Int.add z13 (Int.add z3 (Int.ofNat 1))))) 21 (.bool true)) 32 (i64 (Int.add (Int.add z13 (Int.add z3 (Int.ofNat 1))) (Int.ofNat 1)))) 21 (.bool true)) 33 (ptr p14 (Nat.add o15 (Nat.mul n18 1)))) 21 (.bool true)) 34 v19) 21 (.bool true)) 35 v20) 36 v20) H21))))))) (
 K .normal (upd (upd (upd (upd (upd (upd (upd (upd (upd (upd (upd (upd (upd (upd (upd (upd (upd (upd (upd (upd (upd (upd (upd (upd (upd (upd (upd (upd (upd (upd (upd (upd (upd (upd (upd (upd (upd (upd (upd (upd (upd a 11 (a 8)) 12 v2) 13 (i64 (Int.add z3 (Int.ofNat 1)))) 9 (i64 (Int.add z3 (Int.ofNat 1)))) 14 (i64 (Int.add z3 (Int.ofNat 1)))) 15 (a 2)) 16 (.bool (leZ z4 (Int.add z3 (Int.ofNat 1))))) 17 (i64 (Int.add z3 (Int.ofNat 1)))) 18 (i64 (Int.add (Int.add z3 (Int.ofNat 1)) (Int.ofNat 1)))) 19 (a 2)) 20 (.bool (ltZ (Int.add (Int.add z3 (Int.ofNat 1)) (Int.ofNat 1)) z5))) 21 (.bool (ltZ (Int.add (Int.add z3 (Int.ofNat 1)) (Int.ofNat 1)) z5))) 21 (.bool false)) 22 (.tuple ⟨[]⟩)) 21 (.bool false)) 23 (.tuple ⟨[]⟩)) 21 (.bool false)) 24 (.tuple ⟨[]⟩)) 21 (.bool false)) 25 (.tuple ⟨[]⟩)) 21 (.bool false)) 26 (.tuple ⟨[]⟩)) 21 (.bool false)) 27 (.tuple ⟨[]⟩)) 21 (.bool false)) 28 (.tuple ⟨[]⟩)) 21 (.bool false)) 29 (.tuple ⟨[]⟩)) 21 (.bool false)) 30 (.tuple ⟨[]⟩)) 21 (.bool false)) 31 (.tuple ⟨[]⟩)) 21 (.bool false)) 32 (.tuple ⟨[]⟩)) 21 (.bool false)) 33 (.tuple ⟨[]⟩)) 21 (.bool false)) 34 (.tuple ⟨[]⟩)) 21 (.bool false)) 35 (.tuple ⟨[]⟩)) 36 (.bool false)) H))))) := by kernel_rfl
theorem siftD_W (con : CallT) (a : TF) (H : CH) (K : KX) : codeW (dropC 5 (blkC (lpAt Tryz.prog 165 0))) Tryz.prog con a H K =
 (AsInt .i64 (a 3) fun z1 =>
 AsInt .i64 (a 8) fun z2 =>
 InR (Int.add z1 z2) (
 AsSlc (a 0) fun p3 o4 l5 c6 =>
 AsCnt (i64 (Int.add z1 z2)) fun n7 =>
 Must (ltN n7 l5) (
 Ld H p3 (Nat.add o4 (Nat.mul n7 1)) fun v8 =>
 AsInt .i64 (a 3) fun z9 =>
 AsInt .i64 (a 9) fun z10 =>
 InR (Int.add z9 z10) (
 AsSlc (a 0) fun p11 o12 l13 c14 =>
 AsCnt (i64 (Int.add z9 z10)) fun n15 =>
 Must (ltN n15 l13) (
 Ld H p11 (Nat.add o12 (Nat.mul n15 1)) fun v16 =>
 Call1 Tryz.prog con 160 [v8, v16] H fun v17 H18 =>
 AsBool v17 fun b19 =>
 Cd (notB b19) (
 K .ret (upd (upd (upd (upd (upd (upd (upd (upd (upd (upd (upd (upd (upd (upd a 39 (a 0)) 40 (a 3)) 41 (a 8)) 42 (i64 (Int.add z1 z2))) 43 (ptr p3 (Nat.add o4 (Nat.mul n7 1)))) 44 v8) 45 (a 0)) 46 (a 3)) 47 (a 9)) 48 (i64 (Int.add z9 z10))) 49 (ptr p11 (Nat.add o12 (Nat.mul n15 1)))) 50 v16) 51 v17) 52 (.bool (notB b19))) H18) (
 AsInt .i64 (a 3) fun z20 =>
 AsInt .i64 (a 8) fun z21 =>
 InR (Int.add z20 z21) (
 AsInt .i64 (a 3) fun z22 =>
 AsInt .i64 (a 9) fun z23 =>
 InR (Int.add z22 z23) (
 AsInt .i64 (a 3) fun z24 =>
 AsInt .i64 (a 9) fun z25 =>
 InR (Int.add z24 z25) (
 AsSlc (a 0) fun p26 o27 l28 c29 =>
 AsCnt (i64 (Int.add z24 z25)) fun n30 =>
 Must (ltN n30 l28) (
 Ld H18 p26 (Nat.add o27 (Nat.mul n30 1)) fun v31 =>
 AsInt .i64 (a 3) fun z32 =>
 AsInt .i64 (a 8) fun z33 =>
 InR (Int.add z32 z33) (
 AsSlc (a 0) fun p34 o35 l36 c37 =>
 AsCnt (i64 (Int.add z32 z33)) fun n38 =>
 Must (ltN n38 l36) (
 Ld H18 p34 (Nat.add o35 (Nat.mul n38 1)) fun v39 =>
 AsSlc (a 0) fun p40 o41 l42 c43 =>
 AsCnt (i64 (Int.add z20 z21)) fun n44 =>
 Must (ltN n44 l42) (
 Sc v31 (St H18 p40 (Nat.add o41 (Nat.mul n44 1)) [v31] fun H45 =>
 AsSlc (a 0) fun p46 o47 l48 c49 =>
 AsCnt (i64 (Int.add z22 z23)) fun n50 =>
 Must (ltN n50 l48) (
 Sc v39 (St H45 p46 (Nat.add o47 (Nat.mul n50 1)) [v39] fun H51 =>
 K .normal (upd (upd (upd (upd (upd (upd (upd (upd (upd (upd (upd (upd (upd (upd (upd (upd (upd (upd (upd (upd (upd (upd (upd (upd (upd (upd (upd (upd (upd (upd (upd (upd (upd (upd (upd (upd (upd (upd a 39 (a 0)) 40 (a 3)) 41 (a 8)) 42 (i64 (Int.add z1 z2))) 43 (ptr p3 (Nat.add o4 (Nat.mul n7 1)))) 44 v8) 45 (a 0)) 46 (a 3)) 47 (a 9)) 48 (i64 (Int.add z9 z10))) 49 (ptr p11 (Nat.add o12 (Nat.mul n15 1)))) 50 v16) 51 v17) 52 (.bool (notB b19))) 53 (a 0)) 54 (a 3)) 55 (a 8)) 56 (i64 (Int.add z20 z21))) 57 (a 0)) 58 (a 3)) 59 (a 9)) 60 (i64 (Int.add z22 z23))) 61 (a 0)) 62 (a 3)) 63 (a 9)) 64 (i64 (Int.add z24 z25))) 65 (ptr p26 (Nat.add o27 (Nat.mul n30 1)))) 66 v31) 67 (a 0)) 68 (a 3)) 69 (a 8)) 70 (i64 (Int.add z32 z33))) 71 (ptr p34 (Nat.add o35 (Nat.mul n38 1)))) 72 v39) 73 (ptr p40 (Nat.add o41 (Nat.mul n44 1)))) 74 (ptr p46 (Nat.add o47 (Nat.mul n50 1)))) 75 (a 9)) 8 (a 9)) H51)))))))))))))))) := by kernel_rfl
end Go.Proofs.YtipbbnoepphdkaaGreat

/- What some functions' texts ask for, step by step, each checked by the kernel. No conditions. -/
set_option linter.unusedVariables false
set_option maxRecDepth 100000
namespace Go.Proofs.YtipbbnoepphdkaaGreat
open Go Go.CM
theorem l13begin_W (con : CallT) (xa xb : Nat) (z : Int) (xd : Nat) (k : Int) (h : Nat) (v : Value) (H : CH) (K : KP) : funW Tryz.prog con 22 [.agg ⟨[u64 xa, u64 xb, i64 z, u64 xd]⟩, .agg ⟨[i64 k, u64 h]⟩, v] H K =
 (Nw H (mkRow 61 0 [(u64 (xa)), (u64 (xb)), (i64 z), (u64 (xd))]) fun p1 H2 =>
 Nw H2 (mkRow 69 0 [(i64 k), (u64 (h))]) fun p3 H4 =>
 Ld H4 p3 1 fun v5 =>
 Ld H4 p3 0 fun v6 =>
 AsInt .i64 v6 fun z7 =>
 Cd (ltZ z7 (Int.ofNat 0)) (
 Ld H4 p3 1 fun v8 =>
 AsLen v fun l9 =>
 Must (cvOk .i64 (Int.ofNat l9)) (
 AsNat .u64 v8 fun n10 =>
 Cd (ltN n10 (wrapN .u64 (Int.ofNat l9))) (
 Ld H4 p3 1 fun v11 =>
 AsSlc v fun p12 o13 l14 c15 =>
 AsCnt v11 fun n16 =>
 Must (ltN n16 l14) (
 Ld H4 p12 (Nat.add (Nat.add o13 (Nat.mul n16 6)) 0) fun v17 =>
 Ld H4 p3 0 fun v18 =>
 Ld H4 p1 0 fun v19 =>
 Ld H4 p1 1 fun v20 =>
 Ld H4 p1 2 fun v21 =>
 Ld H4 p1 3 fun v22 =>
 Call1 Tryz.prog con 67 [(.agg ⟨[v19, v20, v21, v22]⟩)] H4 fun v23 H24 =>
 Ld H24 p1 0 fun v25 =>
 Ld H24 p1 1 fun v26 =>
 Ld H24 p1 2 fun v27 =>
 Ld H24 p1 3 fun v28 =>
 Call1 Tryz.prog con 68 [(.agg ⟨[v25, v26, v27, v28]⟩), v17] H24 fun v29 H30 =>
 Ld H30 p1 0 fun v31 =>
 Ld H30 p1 1 fun v32 =>
 Ld H30 p1 2 fun v33 =>
 Ld H30 p1 3 fun v34 =>
 Call1 Tryz.prog con 37 [(.agg ⟨[v31, v32, v33, v34]⟩)] H30 fun v35 H36 =>
 Sc v18 (Sc v23 (Sc v29 (Sc v35 (Nw H36 (mkRow 197 0 [v18, v23, v29, v35]) fun p37 H38 =>
 Ld H4 p1 0 fun v39 =>
 Ld H4 p1 1 fun v40 =>
 Ld H4 p1 2 fun v41 =>
 Ld H4 p1 3 fun v42 =>
 Same (.agg ⟨[v31, v32, v33, v34]⟩) (.agg ⟨[v39, v40, v41, v42]⟩) (
 Ld H24 p1 0 fun v43 =>
 Ld H24 p1 1 fun v44 =>
 Ld H24 p1 2 fun v45 =>
 Ld H24 p1 3 fun v46 =>
 Same (.agg ⟨[v31, v32, v33, v34]⟩) (.agg ⟨[v43, v44, v45, v46]⟩) (
 Ld H30 p1 0 fun v47 =>
 Ld H30 p1 1 fun v48 =>
 Ld H30 p1 2 fun v49 =>
 Ld H30 p1 3 fun v50 =>
 Same (.agg ⟨[v31, v32, v33, v34]⟩) (.agg ⟨[v47, v48, v49, v50]⟩) (
 Ld H4 p1 0 fun v51 =>
 Ld H4 p1 1 fun v52 =>
 Ld H4 p1 2 fun v53 =>
 Ld H4 p1 3 fun v54 =>
 Same (.agg ⟨[v25, v26, v27, v28]⟩) (.agg ⟨[v51, v52, v53, v54]⟩) (
 Ld H24 p1 0 fun v55 =>
 Ld H24 p1 1 fun v56 =>
 Ld H24 p1 2 fun v57 =>
 Ld H24 p1 3 fun v58 =>
 Same (.agg ⟨[v25, v26, v27, v28]⟩) (.agg ⟨[v55, v56, v57, v58]⟩) (
 Ld H4 p3 0 fun v59 =>
 Same v18 v59 (
 Ld H24 p3 0 fun v60 =>
 Same v18 v60 (
 Ld H30 p3 0 fun v61 =>
 Same v18 v61 (
 Ld H36 p3 0 fun v62 =>
 Same v18 v62 (
 K (ptr p37 0) H38))))))))))))))) (
 Ld H4 p3 0 fun v63 =>
 Ld H4 p1 0 fun v64 =>
 Ld H4 p1 1 fun v65 =>
 Ld H4 p1 2 fun v66 =>
 Ld H4 p1 3 fun v67 =>
 Call1 Tryz.prog con 67 [(.agg ⟨[v64, v65, v66, v67]⟩)] H4 fun v68 H69 =>
 Ld H69 p1 0 fun v70 =>
 Ld H69 p1 1 fun v71 =>
 Ld H69 p1 2 fun v72 =>
 Ld H69 p1 3 fun v73 =>
 Call1 Tryz.prog con 68 [(.agg ⟨[v70, v71, v72, v73]⟩), (u64 (0))] H69 fun v74 H75 =>
 Ld H75 p1 0 fun v76 =>
 Ld H75 p1 1 fun v77 =>
 Ld H75 p1 2 fun v78 =>
 Ld H75 p1 3 fun v79 =>
 Call1 Tryz.prog con 37 [(.agg ⟨[v76, v77, v78, v79]⟩)] H75 fun v80 H81 =>
 Sc v63 (Sc v68 (Sc v74 (Sc v80 (Nw H81 (mkRow 197 0 [v63, v68, v74, v80]) fun p82 H83 =>
 Ld H4 p1 0 fun v84 =>
 Ld H4 p1 1 fun v85 =>
 Ld H4 p1 2 fun v86 =>
 Ld H4 p1 3 fun v87 =>
 Same (.agg ⟨[v76, v77, v78, v79]⟩) (.agg ⟨[v84, v85, v86, v87]⟩) (
 Ld H69 p1 0 fun v88 =>
 Ld H69 p1 1 fun v89 =>
 Ld H69 p1 2 fun v90 =>
 Ld H69 p1 3 fun v91 =>
 Same (.agg ⟨[v76, v77, v78, v79]⟩) (.agg ⟨[v88, v89, v90, v91]⟩) (
 Ld H75 p1 0 fun v92 =>
 Ld H75 p1 1 fun v93 =>
 Ld H75 p1 2 fun v94 =>
 Ld H75 p1 3 fun v95 =>
 Same (.agg ⟨[v76, v77, v78, v79]⟩) (.agg ⟨[v92, v93, v94, v95]⟩) (
 Ld H4 p1 0 fun v96 =>
 Ld H4 p1 1 fun v97 =>
 Ld H4 p1 2 fun v98 =>
 Ld H4 p1 3 fun v99 =>
 Same (.agg ⟨[v70, v71, v72, v73]⟩) (.agg ⟨[v96, v97, v98, v99]⟩) (
 Ld H69 p1 0 fun v100 =>
 Ld H69 p1 1 fun v101 =>
 Ld H69 p1 2 fun v102 =>
 Ld H69 p1 3 fun v103 =>
 Same (.agg ⟨[v70, v71, v72, v73]⟩) (.agg ⟨[v100, v101, v102, v103]⟩) (
 Ld H4 p3 0 fun v104 =>
 Same v63 v104 (
 Ld H69 p3 0 fun v105 =>
 Same v63 v105 (
 Ld H75 p3 0 fun v106 =>
 Same v63 v106 (
 Ld H81 p3 0 fun v107 =>
 Same v63 v107 (
 K (ptr p82 0) H83)))))))))))))))) (
 Ld H4 p3 0 fun v108 =>
 AsInt .i64 v108 fun z109 =>
 Cd (ltZ (Int.ofNat 2) z109) (
 Ld H4 p3 1 fun v110 =>
 AsLen v fun l111 =>
 Must (cvOk .i64 (Int.ofNat l111)) (
 AsNat .u64 v110 fun n112 =>
 Cd (ltN n112 (wrapN .u64 (Int.ofNat l111))) (
 Ld H4 p3 1 fun v113 =>
 AsSlc v fun p114 o115 l116 c117 =>
 AsCnt v113 fun n118 =>
 Must (ltN n118 l116) (
 Ld H4 p114 (Nat.add (Nat.add o115 (Nat.mul n118 6)) 0) fun v119 =>
 Ld H4 p3 0 fun v120 =>
 Ld H4 p1 0 fun v121 =>
 Ld H4 p1 1 fun v122 =>
 Ld H4 p1 2 fun v123 =>
 Ld H4 p1 3 fun v124 =>
 Call1 Tryz.prog con 67 [(.agg ⟨[v121, v122, v123, v124]⟩)] H4 fun v125 H126 =>
 Ld H126 p1 0 fun v127 =>
 Ld H126 p1 1 fun v128 =>
 Ld H126 p1 2 fun v129 =>
 Ld H126 p1 3 fun v130 =>
 Call1 Tryz.prog con 68 [(.agg ⟨[v127, v128, v129, v130]⟩), v119] H126 fun v131 H132 =>
 Ld H132 p1 0 fun v133 =>
 Ld H132 p1 1 fun v134 =>
 Ld H132 p1 2 fun v135 =>
 Ld H132 p1 3 fun v136 =>
 Call1 Tryz.prog con 37 [(.agg ⟨[v133, v134, v135, v136]⟩)] H132 fun v137 H138 =>
 Sc v120 (Sc v125 (Sc v131 (Sc v137 (Nw H138 (mkRow 197 0 [v120, v125, v131, v137]) fun p139 H140 =>
 Ld H4 p1 0 fun v141 =>
 Ld H4 p1 1 fun v142 =>
 Ld H4 p1 2 fun v143 =>
 Ld H4 p1 3 fun v144 =>
 Same (.agg ⟨[v133, v134, v135, v136]⟩) (.agg ⟨[v141, v142, v143, v144]⟩) (
 Ld H126 p1 0 fun v145 =>
 Ld H126 p1 1 fun v146 =>
 Ld H126 p1 2 fun v147 =>
 Ld H126 p1 3 fun v148 =>
 Same (.agg ⟨[v133, v134, v135, v136]⟩) (.agg ⟨[v145, v146, v147, v148]⟩) (
 Ld H132 p1 0 fun v149 =>
 Ld H132 p1 1 fun v150 =>
 Ld H132 p1 2 fun v151 =>
 Ld H132 p1 3 fun v152 =>
 Same (.agg ⟨[v133, v134, v135, v136]⟩) (.agg ⟨[v149, v150, v151, v152]⟩) (
 Ld H4 p1 0 fun v153 =>
 Ld H4 p1 1 fun v154 =>
 Ld H4 p1 2 fun v155 =>
 Ld H4 p1 3 fun v156 =>
 Same (.agg ⟨[v127, v128, v129, v130]⟩) (.agg ⟨[v153, v154, v155, v156]⟩) (
 Ld H126 p1 0 fun v157 =>
 Ld H126 p1 1 fun v158 =>
 Ld H126 p1 2 fun v159 =>
 Ld H126 p1 3 fun v160 =>
 Same (.agg ⟨[v127, v128, v129, v130]⟩) (.agg ⟨[v157, v158, v159, v160]⟩) (
 Ld H4 p3 0 fun v161 =>
 Same v120 v161 (
 Ld H126 p3 0 fun v162 =>
 Same v120 v162 (
 Ld H132 p3 0 fun v163 =>
 Same v120 v163 (
 Ld H138 p3 0 fun v164 =>
 Same v120 v164 (
 K (ptr p139 0) H140))))))))))))))) (
 Ld H4 p3 0 fun v165 =>
 Ld H4 p1 0 fun v166 =>
 Ld H4 p1 1 fun v167 =>
 Ld H4 p1 2 fun v168 =>
 Ld H4 p1 3 fun v169 =>
 Call1 Tryz.prog con 67 [(.agg ⟨[v166, v167, v168, v169]⟩)] H4 fun v170 H171 =>
 Ld H171 p1 0 fun v172 =>
 Ld H171 p1 1 fun v173 =>
 Ld H171 p1 2 fun v174 =>
 Ld H171 p1 3 fun v175 =>
 Call1 Tryz.prog con 68 [(.agg ⟨[v172, v173, v174, v175]⟩), (u64 (0))] H171 fun v176 H177 =>
 Ld H177 p1 0 fun v178 =>
 Ld H177 p1 1 fun v179 =>
 Ld H177 p1 2 fun v180 =>
 Ld H177 p1 3 fun v181 =>
 Call1 Tryz.prog con 37 [(.agg ⟨[v178, v179, v180, v181]⟩)] H177 fun v182 H183 =>
 Sc v165 (Sc v170 (Sc v176 (Sc v182 (Nw H183 (mkRow 197 0 [v165, v170, v176, v182]) fun p184 H185 =>
 Ld H4 p1 0 fun v186 =>
 Ld H4 p1 1 fun v187 =>
 Ld H4 p1 2 fun v188 =>
 Ld H4 p1 3 fun v189 =>
 Same (.agg ⟨[v178, v179, v180, v181]⟩) (.agg ⟨[v186, v187, v188, v189]⟩) (
 Ld H171 p1 0 fun v190 =>
 Ld H171 p1 1 fun v191 =>
 Ld H171 p1 2 fun v192 =>
 Ld H171 p1 3 fun v193 =>
 Same (.agg ⟨[v178, v179, v180, v181]⟩) (.agg ⟨[v190, v191, v192, v193]⟩) (
 Ld H177 p1 0 fun v194 =>
 Ld H177 p1 1 fun v195 =>
 Ld H177 p1 2 fun v196 =>
 Ld H177 p1 3 fun v197 =>
 Same (.agg ⟨[v178, v179, v180, v181]⟩) (.agg ⟨[v194, v195, v196, v197]⟩) (
 Ld H4 p1 0 fun v198 =>
 Ld H4 p1 1 fun v199 =>
 Ld H4 p1 2 fun v200 =>
 Ld H4 p1 3 fun v201 =>
 Same (.agg ⟨[v172, v173, v174, v175]⟩) (.agg ⟨[v198, v199, v200, v201]⟩) (
 Ld H171 p1 0 fun v202 =>
 Ld H171 p1 1 fun v203 =>
 Ld H171 p1 2 fun v204 =>
 Ld H171 p1 3 fun v205 =>
 Same (.agg ⟨[v172, v173, v174, v175]⟩) (.agg ⟨[v202, v203, v204, v205]⟩) (
 Ld H4 p3 0 fun v206 =>
 Same v165 v206 (
 Ld H171 p3 0 fun v207 =>
 Same v165 v207 (
 Ld H177 p3 0 fun v208 =>
 Same v165 v208 (
 Ld H183 p3 0 fun v209 =>
 Same v165 v209 (
 K (ptr p184 0) H185)))))))))))))))) (
 Ld H4 p3 0 fun v210 =>
 Ld H4 p1 0 fun v211 =>
 Ld H4 p1 1 fun v212 =>
 Ld H4 p1 2 fun v213 =>
 Ld H4 p1 3 fun v214 =>
 Call1 Tryz.prog con 67 [(.agg ⟨[v211, v212, v213, v214]⟩)] H4 fun v215 H216 =>
 Ld H216 p1 0 fun v217 =>
 Ld H216 p1 1 fun v218 =>
 Ld H216 p1 2 fun v219 =>
 Ld H216 p1 3 fun v220 =>
 Call1 Tryz.prog con 68 [(.agg ⟨[v217, v218, v219, v220]⟩), v5] H216 fun v221 H222 =>
 Ld H222 p1 0 fun v223 =>
 Ld H222 p1 1 fun v224 =>
 Ld H222 p1 2 fun v225 =>
 Ld H222 p1 3 fun v226 =>
 Call1 Tryz.prog con 37 [(.agg ⟨[v223, v224, v225, v226]⟩)] H222 fun v227 H228 =>
 Sc v210 (Sc v215 (Sc v221 (Sc v227 (Nw H228 (mkRow 197 0 [v210, v215, v221, v227]) fun p229 H230 =>
 Ld H4 p1 0 fun v231 =>
 Ld H4 p1 1 fun v232 =>
 Ld H4 p1 2 fun v233 =>
 Ld H4 p1 3 fun v234 =>
 Same (.agg ⟨[v223, v224, v225, v226]⟩) (.agg ⟨[v231, v232, v233, v234]⟩) (
 Ld H216 p1 0 fun v235 =>
 Ld H216 p1 1 fun v236 =>
 Ld H216 p1 2 fun v237 =>
 Ld H216 p1 3 fun v238 =>
 Same (.agg ⟨[v223, v224, v225, v226]⟩) (.agg ⟨[v235, v236, v237, v238]⟩) (
 Ld H222 p1 0 fun v239 =>
 Ld H222 p1 1 fun v240 =>
 Ld H222 p1 2 fun v241 =>
 Ld H222 p1 3 fun v242 =>
 Same (.agg ⟨[v223, v224, v225, v226]⟩) (.agg ⟨[v239, v240, v241, v242]⟩) (
 Ld H4 p1 0 fun v243 =>
 Ld H4 p1 1 fun v244 =>
 Ld H4 p1 2 fun v245 =>
 Ld H4 p1 3 fun v246 =>
 Same (.agg ⟨[v217, v218, v219, v220]⟩) (.agg ⟨[v243, v244, v245, v246]⟩) (
 Ld H216 p1 0 fun v247 =>
 Ld H216 p1 1 fun v248 =>
 Ld H216 p1 2 fun v249 =>
 Ld H216 p1 3 fun v250 =>
 Same (.agg ⟨[v217, v218, v219, v220]⟩) (.agg ⟨[v247, v248, v249, v250]⟩) (
 Ld H4 p3 0 fun v251 =>
 Same v210 v251 (
 Ld H216 p3 0 fun v252 =>
 Same v210 v252 (
 Ld H222 p3 0 fun v253 =>
 Same v210 v253 (
 Ld H228 p3 0 fun v254 =>
 Same v210 v254 (
 K (ptr p229 0) H230)))))))))))))))) := by kernel_rfl
theorem l13step1_W (con : CallT) (p q : Nat) (H : CH) (K : KP) : funW Tryz.prog con 24 [ptr p 0, ptr q 0] H K =
 (Ld H p 0 fun v1 =>
 AsInt .i64 v1 fun z2 =>
 Cd (eqZ z2 (Int.ofNat 0)) (
 Ld H p 1 fun v3 =>
 Call1 Tryz.prog con 69 [v3, (ptr q 0)] H fun v4 H5 =>
 K v4 H5) (
 AsInt .i64 v1 fun z6 =>
 Cd (eqZ z6 (Int.ofNat 2)) (
 Ld H p 3 fun v7 =>
 Call1 Tryz.prog con 70 [v7, (ptr q 0)] H fun v8 H9 =>
 K v8 H9) (
 Ld H p 2 fun v10 =>
 Call1 Tryz.prog con 71 [v10, (ptr q 0)] H fun v11 H12 =>
 K v11 H12))) := by kernel_rfl
theorem l13told_W (con : CallT) (p : Nat) (b : Bool) (H : CH) (K : KP) : funW Tryz.prog con 27 [ptr p 0, .bool b] H K =
 (Nw H (mkRow 76 0 [(u64 (0)), (u64 (0)), (iN (0)), (u64 (0)), (snil), (.bool false)]) fun p1 H2 =>
 Nw H2 (mkRow 76 0 [(u64 (0)), (u64 (0)), (iN (0)), (u64 (0)), (snil), (.bool false)]) fun p3 H4 =>
 St H4 p3 0 [(u64 (0)), (u64 (0)), (iN (0)), (u64 (0)), (snil), (.bool b)] fun H5 =>
 Ld H5 p 0 fun v6 =>
 AsInt .i64 v6 fun z7 =>
 Cd (eqZ z7 (Int.ofNat 0)) (
 Ld H5 p 1 fun v8 =>
 Call1 Tryz.prog con 76 [v8] H5 fun v9 H10 =>
 Ld H10 p 1 fun v11 =>
 Call1 Tryz.prog con 77 [v11] H10 fun v12 H13 =>
 Ld H13 p 1 fun v14 =>
 Call1 Tryz.prog con 78 [v14] H13 fun v15 H16 =>
 Sc v9 (St H16 p3 0 [v9] fun H17 =>
 Sc v12 (St H17 p3 1 [v12] fun H18 =>
 Sc v15 (St H18 p3 2 [v15] fun H19 =>
 Ld H5 p 1 fun v20 =>
 Same v14 v20 (
 Ld H10 p 1 fun v21 =>
 Same v14 v21 (
 Ld H13 p 1 fun v22 =>
 Same v14 v22 (
 Ld H5 p 1 fun v23 =>
 Same v11 v23 (
 Ld H10 p 1 fun v24 =>
 Same v11 v24 (
 Ld H19 p3 0 fun v25 =>
 Ld H19 p3 1 fun v26 =>
 Ld H19 p3 2 fun v27 =>
 Ld H19 p3 3 fun v28 =>
 Ld H19 p3 4 fun v29 =>
 Ld H19 p3 5 fun v30 =>
 St H19 p1 0 [v25, v26, v27, v28, v29, v30] fun H31 =>
 Ld H31 p1 0 fun v32 =>
 Ld H31 p1 1 fun v33 =>
 Ld H31 p1 2 fun v34 =>
 Ld H31 p1 3 fun v35 =>
 Ld H31 p1 4 fun v36 =>
 Ld H31 p1 5 fun v37 =>
 K (.agg ⟨[v32, v33, v34, v35, v36, v37]⟩) H31))))))))) (
 AsInt .i64 v6 fun z38 =>
 Cd (eqZ z38 (Int.ofNat 2)) (
 Ld H5 p 3 fun v39 =>
 Call1 Tryz.prog con 39 [v39] H5 fun v40 H41 =>
 AsAgg v40 fun l42 =>
 Must (eqN (lenF l42) 2) (
 Nth l42 0 fun v43 =>
 Nth l42 1 fun v44 =>
 St H41 p3 3 [v43, v44] fun H45 =>
 Ld H45 p3 0 fun v46 =>
 Ld H45 p3 1 fun v47 =>
 Ld H45 p3 2 fun v48 =>
 Ld H45 p3 3 fun v49 =>
 Ld H45 p3 4 fun v50 =>
 Ld H45 p3 5 fun v51 =>
 St H45 p1 0 [v46, v47, v48, v49, v50, v51] fun H52 =>
 Ld H52 p1 0 fun v53 =>
 Ld H52 p1 1 fun v54 =>
 Ld H52 p1 2 fun v55 =>
 Ld H52 p1 3 fun v56 =>
 Ld H52 p1 4 fun v57 =>
 Ld H52 p1 5 fun v58 =>
 K (.agg ⟨[v53, v54, v55, v56, v57, v58]⟩) H52)) (
 Ld H5 p 2 fun v59 =>
 Call1 Tryz.prog con 79 [v59] H5 fun v60 H61 =>
 Sc v60 (St H61 p3 2 [v60] fun H62 =>
 Ld H62 p3 0 fun v63 =>
 Ld H62 p3 1 fun v64 =>
 Ld H62 p3 2 fun v65 =>
 Ld H62 p3 3 fun v66 =>
 Ld H62 p3 4 fun v67 =>
 Ld H62 p3 5 fun v68 =>
 St H62 p1 0 [v63, v64, v65, v66, v67, v68] fun H69 =>
 Ld H69 p1 0 fun v70 =>
 Ld H69 p1 1 fun v71 =>
 Ld H69 p1 2 fun v72 =>
 Ld H69 p1 3 fun v73 =>
 Ld H69 p1 4 fun v74 =>
 Ld H69 p1 5 fun v75 =>
 K (.agg ⟨[v70, v71, v72, v73, v74, v75]⟩) H69)))) := by kernel_rfl
theorem l13sameSlots_W (con : CallT) (v w : Value) (H : CH) (K : KP) : funW Tryz.prog con 29 [v, w] H K =
 (AsLen v fun l1 =>
 AsLen w fun l2 =>
 Cd (notB (eqZ (Int.ofNat l1) (Int.ofNat l2))) (
 K (.bool false) H) (
 LoopC Tryz.prog con (lpAt Tryz.prog 29 0) (upd (upd (upd (upd (upd (upd (upd (upd (upd (fun _ => undV) 1 w) 0 v) 4 (.bool false)) 6 v) 7 (iN (l1))) 8 w) 9 (iN (l2))) 10 (.bool (notB (eqZ (Int.ofNat l1) (Int.ofNat l2))))) 5 (iN (0))) H (fun e => ceP e
 (fun a3 H4 =>
 K (.bool true) H4)
 (fun i5 => fun a3 H4 =>
 Cd (eqN i5 0) (
 K (.bool true) H4) (
 False))
 (fun a3 H4 =>
 K (a3 4) H4)))) := by kernel_rfl
theorem l13sameSlotsL_W (con : CallT) (a : TF) (H : CH) (K : KX) : codeW (lpAt Tryz.prog 29 0) Tryz.prog con a H K =
 (AsLen (a 0) fun l1 =>
 AsInt .i64 (a 5) fun z2 =>
 Cd (ltZ z2 (Int.ofNat l1)) (
 AsSlc (a 0) fun p3 o4 l5 c6 =>
 AsCnt (a 5) fun n7 =>
 Must (ltN n7 l5) (
 Ld H p3 (Nat.add (Nat.add o4 (Nat.mul n7 3)) 0) fun v8 =>
 Ld H p3 (Nat.add (Nat.add o4 (Nat.mul n7 3)) 1) fun v9 =>
 Ld H p3 (Nat.add (Nat.add o4 (Nat.mul n7 3)) 2) fun v10 =>
 AsSlc (a 1) fun p11 o12 l13 c14 =>
 AsCnt (a 5) fun n15 =>
 Must (ltN n15 l13) (
 Ld H p11 (Nat.add (Nat.add o12 (Nat.mul n15 3)) 0) fun v16 =>
 Ld H p11 (Nat.add (Nat.add o12 (Nat.mul n15 3)) 1) fun v17 =>
 Ld H p11 (Nat.add (Nat.add o12 (Nat.mul n15 3)) 2) fun v18 =>
 OpN Tryz.prog H (upd (upd (upd (upd (upd (upd (upd (upd (upd (upd (upd (upd a 11 (a 5)) 12 (a 0)) 13 (iN (l1))) 14 (.bool (ltZ z2 (Int.ofNat l1)))) 17 (a 0)) 18 (a 5)) 19 (ptr p3 (Nat.add o4 (Nat.mul n7 3)))) 20 (.agg ⟨[v8, v9, v10]⟩)) 21 (a 1)) 22 (a 5)) 23 (ptr p11 (Nat.add o12 (Nat.mul n15 3)))) 24 (.agg ⟨[v16, v17, v18]⟩)) (.binOp .neq 202 (.tmp 20) (.tmp 24) 202) fun v19 H20 =>
 AsBool v19 fun b21 =>
 Cd b21 (
 K .ret (upd (upd (upd (upd (upd (upd (upd (upd (upd (upd (upd (upd (upd (upd a 11 (a 5)) 12 (a 0)) 13 (iN (l1))) 14 (.bool (ltZ z2 (Int.ofNat l1)))) 17 (a 0)) 18 (a 5)) 19 (ptr p3 (Nat.add o4 (Nat.mul n7 3)))) 20 (.agg ⟨[v8, v9, v10]⟩)) 21 (a 1)) 22 (a 5)) 23 (ptr p11 (Nat.add o12 (Nat.mul n15 3)))) 24 (.agg ⟨[v16, v17, v18]⟩)) 25 v19) 4 (.bool false)) H20) (
 AsInt .i64 (a 5) fun z22 =>
 InR (Int.add z22 (Int.ofNat 1)) (
 K .normal (upd (upd (upd (upd (upd (upd (upd (upd (upd (upd (upd (upd (upd (upd (upd (upd a 11 (a 5)) 12 (a 0)) 13 (iN (l1))) 14 (.bool (ltZ z2 (Int.ofNat l1)))) 17 (a 0)) 18 (a 5)) 19 (ptr p3 (Nat.add o4 (Nat.mul n7 3)))) 20 (.agg ⟨[v8, v9, v10]⟩)) 21 (a 1)) 22 (a 5)) 23 (ptr p11 (Nat.add o12 (Nat.mul n15 3)))) 24 (.agg ⟨[v16, v17, v18]⟩)) 25 v19) 15 (a 5)) 16 (i64 (Int.add z22 (Int.ofNat 1)))) 5 (i64 (Int.add z22 (Int.ofNat 1)))) H20))))) (
 K (.exit 0) (upd (upd (upd (upd a 11 (a 5)) 12 (a 0)) 13 (iN (l1))) 14 (.bool (ltZ z2 (Int.ofNat l1)))) H)) := by kernel_rfl
theorem l13same_W (con : CallT) (xa xb : Nat) (z : Int) (xc : Nat) (v : Value) (b : Bool) (ya yb : Nat) (zz : Int) (yc : Nat) (w : Value) (d : Bool) (H : CH) (K : KP) : funW Tryz.prog con 26 [.agg ⟨[u64 xa, u64 xb, i64 z, u64 xc, v, .bool b]⟩, .agg ⟨[u64 ya, u64 yb, i64 zz, u64 yc, w, .bool d]⟩] H K =
 (Nw H (mkRow 76 0 [(u64 (xa)), (u64 (xb)), (i64 z), (u64 (xc)), v, (.bool b)]) fun p1 H2 =>
 Nw H2 (mkRow 76 0 [(u64 (ya)), (u64 (yb)), (i64 zz), (u64 (yc)), w, (.bool d)]) fun p3 H4 =>
 Ld H4 p1 0 fun v5 =>
 Ld H4 p3 0 fun v6 =>
 AsNat .u64 v5 fun n7 =>
 AsNat .u64 v6 fun n8 =>
 Cd (eqN n7 n8) (
 Ld H4 p1 1 fun v9 =>
 Ld H4 p3 1 fun v10 =>
 AsNat .u64 v9 fun n11 =>
 AsNat .u64 v10 fun n12 =>
 Cd (eqN n11 n12) (
 Ld H4 p1 2 fun v13 =>
 Ld H4 p3 2 fun v14 =>
 AsInt .i64 v13 fun z15 =>
 AsInt .i64 v14 fun z16 =>
 Cd (eqZ z15 z16) (
 Ld H4 p1 5 fun v17 =>
 Ld H4 p3 5 fun v18 =>
 AsBool v17 fun b19 =>
 AsBool v18 fun b20 =>
 Cd (eqB b19 b20) (
 Ld H4 p1 3 fun v21 =>
 Ld H4 p1 4 fun v22 =>
 Ld H4 p3 3 fun v23 =>
 Ld H4 p3 4 fun v24 =>
 Call1 Tryz.prog con 75 [(.agg ⟨[v21, v22]⟩), (.agg ⟨[v23, v24]⟩)] H4 fun v25 H26 =>
 K v25 H26) (
 K (.bool false) H4)) (
 K (.bool false) H4)) (
 K (.bool false) H4)) (
 K (.bool false) H4)) := by kernel_rfl
theorem l13memory_W (con : CallT) (n : Int) (most : Nat) (v w : Value) (H : CH) (K : KP) : funW Tryz.prog con 32 [.agg ⟨[i64 n, u64 most, v, w]⟩] H K =
 (Nw H (mkRow 93 0 [(i64 n), (u64 (most)), v, w]) fun p1 H2 =>
 Nw H2 (mkRow 61 0 [(u64 (0)), (u64 (0)), (iN (0)), (u64 (0))]) fun p3 H4 =>
 Call1 Tryz.prog con 7 [(iN (4096)), (.bool false)] H4 fun v5 H6 =>
 AsTup v5 fun l7 =>
 Nth l7 0 fun v8 =>
 AsTup v5 fun l9 =>
 Nth l9 1 fun v10 =>
 AsInt .i64 v10 fun z11 =>
 Cd (notB (eqZ z11 (Int.ofNat 0))) (
 St H6 p3 0 [(u64 (0)), (u64 (0)), (iN (0)), (u64 (0))] fun H12 =>
 Ld H12 p3 0 fun v13 =>
 Ld H12 p3 1 fun v14 =>
 Ld H12 p3 2 fun v15 =>
 Ld H12 p3 3 fun v16 =>
 K (.tuple ⟨[(.pointer none), (.agg ⟨[v13, v14, v15, v16]⟩), (.bool false)]⟩) H12) (
 Call1 Tryz.prog con 10 [v8, (i64 (Int.negSucc 0))] H6 fun v17 H18 =>
 Nw H18 (mkRow 32 0 [(u64 (1))]) fun p19 H20 =>
 Call1 Tryz.prog con 11 [v17, (.slice (some ⟨p19, 0, none⟩) 1 1)] H20 fun v21 H22 =>
 Ld H22 p1 0 fun v23 =>
 Ld H22 p1 1 fun v24 =>
 Call1 Tryz.prog con 87 [v17, v21, v23, v24] H22 fun v25 H26 =>
 AsTup v25 fun l27 =>
 Nth l27 0 fun v28 =>
 AsTup v25 fun l29 =>
 Nth l29 1 fun v30 =>
 Nw H26 (mkRow 61 0 [(u64 (0)), (u64 (0)), (iN (0)), (u64 (0))]) fun p31 H32 =>
 AsAgg v28 fun l33 =>
 Must (eqN (lenF l33) 4) (
 Nth l33 0 fun v34 =>
 Nth l33 1 fun v35 =>
 Nth l33 2 fun v36 =>
 Nth l33 3 fun v37 =>
 St H32 p31 0 [v34, v35, v36, v37] fun H38 =>
 Ld H38 p31 0 fun v39 =>
 Ld H38 p31 1 fun v40 =>
 Ld H38 p31 2 fun v41 =>
 Ld H38 p31 3 fun v42 =>
 AsInt .i64 v30 fun z43 =>
 St H38 p3 0 [v39, v40, v41, v42] fun H44 =>
 AsInt .i64 v30 fun z45 =>
 Same (.bool (eqZ z43 (Int.ofNat 0))) (.bool (eqZ z45 (Int.ofNat 0))) (
 AsInt .i64 v30 fun z46 =>
 Same (.bool (eqZ z43 (Int.ofNat 0))) (.bool (eqZ z46 (Int.ofNat 0))) (
 Ld H44 p3 0 fun v47 =>
 Ld H44 p3 1 fun v48 =>
 Ld H44 p3 2 fun v49 =>
 Ld H44 p3 3 fun v50 =>
 K (.tuple ⟨[v8, (.agg ⟨[v47, v48, v49, v50]⟩), (.bool (eqZ z43 (Int.ofNat 0)))]⟩) H44))))) := by kernel_rfl
theorem l13run_W (con : CallT) (m xa xb : Nat) (z : Int) (xd : Nat) (n : Int) (most : Nat) (v w : Value) (H : CH) (K : KP) : funW Tryz.prog con 35 [ptr m 0, .agg ⟨[u64 xa, u64 xb, i64 z, u64 xd]⟩, .agg ⟨[i64 n, u64 most, v, w]⟩] H K =
 (Nw H (mkRow 61 0 [(u64 (xa)), (u64 (xb)), (i64 z), (u64 (xd))]) fun p1 H2 =>
 Nw H2 (mkRow 93 0 [(i64 n), (u64 (most)), v, w]) fun p3 H4 =>
 Ld H4 p3 2 fun v5 =>
 AsLen v5 fun l6 =>
 MkS Tryz.prog H4 99 (iN (l6)) (iN (l6)) fun v7 H8 =>
 Ld H8 p3 2 fun v9 =>
 AsLen v9 fun l10 =>
 MkS Tryz.prog H8 207 (iN (l10)) (iN (l10)) fun v11 H12 =>
 Ld H12 p3 2 fun v13 =>
 AsLen v13 fun l14 =>
 MkS Tryz.prog H12 23 (iN (l14)) (iN (l14)) fun v15 H16 =>
 LoopC Tryz.prog con (lpAt Tryz.prog 35 0) (upd (upd (upd (upd (upd (upd (upd (upd (upd (upd (upd (upd (upd (upd (upd (upd (upd (upd (upd (upd (upd (upd (upd (upd (fun _ => undV) 2 (.agg ⟨[(i64 n), (u64 (most)), v, w]⟩)) 1 (.agg ⟨[(u64 (xa)), (u64 (xb)), (i64 z), (u64 (xd))]⟩)) 0 (ptr m 0)) 4 (ptr p1 0)) 5 (ptr p3 0)) 6 (snil)) 7 (snil)) 18 (ptr p3 2)) 19 v5) 20 (iN (l6))) 21 v7) 8 v7) 22 (ptr p3 2)) 23 v9) 24 (iN (l10))) 25 v11) 9 v11) 26 (ptr p3 2)) 27 v13) 28 (iN (l14))) 29 v15) 10 v15) 11 (snil)) 12 (iN (0))) H16 (fun e => ceP e
 (fun a17 H18 =>
 LoopC Tryz.prog con (lpAt Tryz.prog 35 1) (upd (upd a17 13 (snil)) 14 (iN (0))) H18 (fun e => ceP e
 (fun a20 H21 =>
 K (.tuple ⟨[(a20 8), (a20 13)]⟩) H21)
 (fun i22 => fun a20 H21 =>
 Cd (eqN i22 2) (
 K (.tuple ⟨[(a20 8), (a20 13)]⟩) H21) (
 False))
 (fun a20 H21 =>
 K (.tuple ⟨[(a20 6), (a20 7)]⟩) H21)))
 (fun i19 => fun a17 H18 =>
 Cd (eqN i19 0) (
 LoopC Tryz.prog con (lpAt Tryz.prog 35 1) (upd (upd a17 13 (snil)) 14 (iN (0))) H18 (fun e => ceP e
 (fun a23 H24 =>
 K (.tuple ⟨[(a23 8), (a23 13)]⟩) H24)
 (fun i25 => fun a23 H24 =>
 Cd (eqN i25 2) (
 K (.tuple ⟨[(a23 8), (a23 13)]⟩) H24) (
 False))
 (fun a23 H24 =>
 K (.tuple ⟨[(a23 6), (a23 7)]⟩) H24))) (
 False))
 (fun a17 H18 =>
 K (.tuple ⟨[(a17 6), (a17 7)]⟩) H18))) := by kernel_rfl
theorem l13runA_W (con : CallT) (a : TF) (H : CH) (K : KX) : codeW (lpAt Tryz.prog 35 0) Tryz.prog con a H K =
 (AsPtr (a 5) fun p1 o2 =>
 Ld H p1 (Nat.add o2 2) fun v3 =>
 AsLen v3 fun l4 =>
 AsInt .i64 (a 12) fun z5 =>
 Cd (ltZ z5 (Int.ofNat l4)) (
 Call1 Tryz.prog con 10 [(a 0), (a 12)] H fun v6 H7 =>
 Sc v6 (Nw H7 (mkRow 33 0 [v6]) fun p8 H9 =>
 App Tryz.prog 208 208 H9 (a 11) (.slice (some ⟨p8, 0, none⟩) 1 1) fun v10 H11 =>
 AsInt .i64 (a 12) fun z12 =>
 InR (Int.add z12 (Int.ofNat 1)) (
 K .normal (upd (upd (upd (upd (upd (upd (upd (upd (upd (upd (upd (upd (upd (upd (upd a 30 (a 12)) 31 (ptr p1 (Nat.add o2 2))) 32 v3) 33 (iN (l4))) 34 (.bool (ltZ z5 (Int.ofNat l4)))) 37 (a 11)) 38 (a 0)) 39 (a 12)) 40 v6) 41 (.slice (some ⟨p8, 0, none⟩) 1 1)) 42 v10) 11 v10) 35 (a 12)) 36 (i64 (Int.add z12 (Int.ofNat 1)))) 12 (i64 (Int.add z12 (Int.ofNat 1)))) H11))) (
 K (.exit 0) (upd (upd (upd (upd (upd a 30 (a 12)) 31 (ptr p1 (Nat.add o2 2))) 32 v3) 33 (iN (l4))) 34 (.bool (ltZ z5 (Int.ofNat l4)))) H)) := by kernel_rfl
theorem l13runB_W (con : CallT) (a : TF) (H : CH) (K : KX) : codeW (lpAt Tryz.prog 35 1) Tryz.prog con a H K =
 (AsPtr (a 5) fun p1 o2 =>
 Ld H p1 (Nat.add o2 3) fun v3 =>
 AsLen v3 fun l4 =>
 AsInt .i64 (a 14) fun z5 =>
 Cd (ltZ z5 (Int.ofNat l4)) (
 AsPtr (a 5) fun p6 o7 =>
 Ld H p6 (Nat.add o7 3) fun v8 =>
 AsSlc v8 fun p9 o10 l11 c12 =>
 AsCnt (a 14) fun n13 =>
 Must (ltN n13 l11) (
 Ld H p9 (Nat.add o10 (Nat.mul n13 1)) fun v14 =>
 AsInt .i64 v14 fun z15 =>
 Cd (ltZ z15 (Int.ofNat 0)) (
 AsInt .i64 (a 14) fun z16 =>
 InR (Int.add z16 (Int.ofNat 1)) (
 K .normal (upd (upd (upd (upd (upd (upd (upd (upd (upd (upd (upd (upd (upd (upd (upd (upd (upd (upd (upd (upd (upd (upd (upd (upd (upd (upd (upd (upd a 43 (a 14)) 44 (ptr p1 (Nat.add o2 3))) 45 v3) 46 (iN (l4))) 47 (.bool (ltZ z5 (Int.ofNat l4)))) 50 (ptr p6 (Nat.add o7 3))) 51 v8) 52 (a 14)) 53 (ptr p9 (Nat.add o10 (Nat.mul n13 1)))) 54 v14) 15 v14) 55 v14) 56 (.bool (ltZ z15 (Int.ofNat 0)))) 57 (.bool (ltZ z15 (Int.ofNat 0)))) 57 (.bool true)) 58 (.tuple ⟨[]⟩)) 57 (.bool true)) 59 (.tuple ⟨[]⟩)) 57 (.bool true)) 60 (.tuple ⟨[]⟩)) 57 (.bool true)) 61 (.tuple ⟨[]⟩)) 57 (.bool true)) 62 (.tuple ⟨[]⟩)) 63 (.bool true)) 48 (a 14)) 49 (i64 (Int.add z16 (Int.ofNat 1)))) 14 (i64 (Int.add z16 (Int.ofNat 1)))) H)) (
 AsPtr (a 5) fun p17 o18 =>
 Ld H p17 (Nat.add o18 2) fun v19 =>
 AsLen v19 fun l20 =>
 AsInt .i64 v14 fun z21 =>
 Cd (leZ (Int.ofNat l20) z21) (
 AsInt .i64 (a 14) fun z22 =>
 InR (Int.add z22 (Int.ofNat 1)) (
 K .normal (upd (upd (upd (upd (upd (upd (upd (upd (upd (upd (upd (upd (upd (upd (upd (upd (upd (upd (upd (upd (upd (upd (upd (upd (upd (upd (upd (upd a 43 (a 14)) 44 (ptr p1 (Nat.add o2 3))) 45 v3) 46 (iN (l4))) 47 (.bool (ltZ z5 (Int.ofNat l4)))) 50 (ptr p6 (Nat.add o7 3))) 51 v8) 52 (a 14)) 53 (ptr p9 (Nat.add o10 (Nat.mul n13 1)))) 54 v14) 15 v14) 55 v14) 56 (.bool (ltZ z15 (Int.ofNat 0)))) 57 (.bool (ltZ z15 (Int.ofNat 0)))) 57 (.bool false)) 58 v14) 57 (.bool false)) 59 (ptr p17 (Nat.add o18 2))) 57 (.bool false)) 60 v19) 57 (.bool false)) 61 (iN (l20))) 57 (.bool false)) 62 (.bool (leZ (Int.ofNat l20) z21))) 63 (.bool (leZ (Int.ofNat l20) z21))) 48 (a 14)) 49 (i64 (Int.add z22 (Int.ofNat 1)))) 14 (i64 (Int.add z22 (Int.ofNat 1)))) H)) (
 AsSlc (a 8) fun p23 o24 l25 c26 =>
 AsCnt v14 fun n27 =>
 Must (ltN n27 l25) (
 Ld H p23 (Nat.add o24 (Nat.mul n27 1)) fun v28 =>
 AsLen v28 fun l29 =>
 AsSlc (a 9) fun p30 o31 l32 c33 =>
 AsCnt v14 fun n34 =>
 Must (ltN n34 l32) (
 Ld H p30 (Nat.add o31 (Nat.mul n34 1)) fun v35 =>
 IsNil .ptr v35 fun b36 =>
 Cd b36 (
 AsPtr (a 5) fun p37 o38 =>
 Ld H p37 (Nat.add o38 2) fun v39 =>
 AsSlc v39 fun p40 o41 l42 c43 =>
 AsCnt v14 fun n44 =>
 Must (ltN n44 l42) (
 Ld H p40 (Nat.add o41 (Nat.mul n44 1)) fun v45 =>
 AsLen v45 fun l46 =>
 Cd (leZ (Int.ofNat l46) (Int.ofNat l29)) (
 AsInt .i64 (a 14) fun z47 =>
 InR (Int.add z47 (Int.ofNat 1)) (
 K .normal (upd (upd (upd (upd (upd (upd (upd (upd (upd (upd (upd (upd (upd (upd (upd (upd (upd (upd (upd (upd (upd (upd (upd (upd (upd (upd (upd (upd (upd (upd (upd (upd (upd (upd (upd (upd (upd (upd (upd (upd (upd (upd (upd (upd (upd (upd (upd a 43 (a 14)) 44 (ptr p1 (Nat.add o2 3))) 45 v3) 46 (iN (l4))) 47 (.bool (ltZ z5 (Int.ofNat l4)))) 50 (ptr p6 (Nat.add o7 3))) 51 v8) 52 (a 14)) 53 (ptr p9 (Nat.add o10 (Nat.mul n13 1)))) 54 v14) 15 v14) 55 v14) 56 (.bool (ltZ z15 (Int.ofNat 0)))) 57 (.bool (ltZ z15 (Int.ofNat 0)))) 57 (.bool false)) 58 v14) 57 (.bool false)) 59 (ptr p17 (Nat.add o18 2))) 57 (.bool false)) 60 v19) 57 (.bool false)) 61 (iN (l20))) 57 (.bool false)) 62 (.bool (leZ (Int.ofNat l20) z21))) 63 (.bool (leZ (Int.ofNat l20) z21))) 64 (a 8)) 65 v14) 66 (ptr p23 (Nat.add o24 (Nat.mul n27 1)))) 67 v28) 68 (iN (l29))) 16 (iN (l29))) 69 (a 9)) 70 v14) 71 (ptr p30 (Nat.add o31 (Nat.mul n34 1)))) 72 v35) 73 (.bool b36)) 74 (iN (l29))) 75 (ptr p37 (Nat.add o38 2))) 76 v39) 77 v14) 78 (ptr p40 (Nat.add o41 (Nat.mul n44 1)))) 79 v45) 80 (iN (l46))) 81 (.bool (leZ (Int.ofNat l46) (Int.ofNat l29)))) 48 (a 14)) 49 (i64 (Int.add z47 (Int.ofNat 1)))) 14 (i64 (Int.add z47 (Int.ofNat 1)))) H)) (
 AsPtr (a 4) fun p48 o49 =>
 Ld H p48 (Nat.add o49 0) fun v50 =>
 Ld H p48 (Nat.add o49 1) fun v51 =>
 Ld H p48 (Nat.add o49 2) fun v52 =>
 Ld H p48 (Nat.add o49 3) fun v53 =>
 AsPtr (a 5) fun p54 o55 =>
 Ld H p54 (Nat.add o55 2) fun v56 =>
 AsSlc v56 fun p57 o58 l59 c60 =>
 AsCnt v14 fun n61 =>
 Must (ltN n61 l59) (
 Ld H p57 (Nat.add o58 (Nat.mul n61 1)) fun v62 =>
 AsSlc v62 fun p63 o64 l65 c66 =>
 Must (ltN l29 l65) (
 Ld H p63 (Nat.add (Nat.add o64 (Nat.mul l29 2)) 0) fun v67 =>
 Ld H p63 (Nat.add (Nat.add o64 (Nat.mul l29 2)) 1) fun v68 =>
 AsSlc (a 8) fun p69 o70 l71 c72 =>
 AsCnt v14 fun n73 =>
 Must (ltN n73 l71) (
 Ld H p69 (Nat.add o70 (Nat.mul n73 1)) fun v74 =>
 Call1 Tryz.prog con 22 [(.agg ⟨[v50, v51, v52, v53]⟩), (.agg ⟨[v67, v68]⟩), v74] H fun v75 H76 =>
 AsSlc (a 9) fun p77 o78 l79 c80 =>
 AsCnt v14 fun n81 =>
 Must (ltN n81 l79) (
 Sc v75 (St H76 p77 (Nat.add o78 (Nat.mul n81 1)) [v75] fun H82 =>
 AsSlc (a 8) fun p83 o84 l85 c86 =>
 AsCnt v14 fun n87 =>
 Must (ltN n87 l85) (
 Ld H82 p83 (Nat.add o84 (Nat.mul n87 1)) fun v88 =>
 Nw H82 (mkRow 76 0 [(u64 (0)), (u64 (0)), (iN (0)), (u64 (0)), (snil), (.bool false)]) fun p89 H90 =>
 App Tryz.prog 65 65 H90 v88 (.slice (some ⟨p89, 0, none⟩) 1 1) fun v91 H92 =>
 AsSlc (a 8) fun p93 o94 l95 c96 =>
 AsCnt v14 fun n97 =>
 Must (ltN n97 l95) (
 Sc v91 (St H92 p93 (Nat.add o94 (Nat.mul n97 1)) [v91] fun H98 =>
 AsLen (a 13) fun l99 =>
 AsSlc (a 10) fun p100 o101 l102 c103 =>
 AsCnt v14 fun n104 =>
 Must (ltN n104 l102) (
 St H98 p100 (Nat.add o101 (Nat.mul n104 1)) [(iN (l99))] fun H105 =>
 AsPtr (a 5) fun p106 o107 =>
 Ld H105 p106 (Nat.add o107 2) fun v108 =>
 AsSlc v108 fun p109 o110 l111 c112 =>
 AsCnt v14 fun n113 =>
 Must (ltN n113 l111) (
 Ld H105 p109 (Nat.add o110 (Nat.mul n113 1)) fun v114 =>
 AsSlc v114 fun p115 o116 l117 c118 =>
 Must (ltN l29 l117) (
 Ld H105 p115 (Nat.add (Nat.add o116 (Nat.mul l29 2)) 0) fun v119 =>
 Ld H105 p115 (Nat.add (Nat.add o116 (Nat.mul l29 2)) 1) fun v120 =>
 Sc (a 14) (Sc v14 (Nw H105 (mkRow 210 0 [(u64 (0)), (u64 (0)), (iN (0)), (u64 (0)), (snil), (.bool false), (a 14), (i64 (Int.negSucc 0)), v14, v119, v120]) fun p121 H122 =>
 App Tryz.prog 100 100 H122 (a 13) (.slice (some ⟨p121, 0, none⟩) 1 1) fun v123 H124 =>
 InR (Int.add (Int.ofNat l29) (Int.ofNat 1)) (
 AsSlc (a 9) fun p125 o126 l127 c128 =>
 AsCnt v14 fun n129 =>
 Must (ltN n129 l127) (
 Ld H124 p125 (Nat.add o126 (Nat.mul n129 1)) fun v130 =>
 AsSlc (a 11) fun p131 o132 l133 c134 =>
 AsCnt v14 fun n135 =>
 Must (ltN n135 l133) (
 Ld H124 p131 (Nat.add o132 (Nat.mul n135 1)) fun v136 =>
 Call1 Tryz.prog con 24 [v130, v136] H124 fun v137 H138 =>
 AsSlc (a 8) fun p139 o140 l141 c142 =>
 AsCnt v14 fun n143 =>
 Must (ltN n143 l141) (
 Ld H138 p139 (Nat.add o140 (Nat.mul n143 1)) fun v144 =>
 InR (Int.sub (Int.add (Int.ofNat l29) (Int.ofNat 1)) (Int.ofNat 1)) (
 AsSlc (a 9) fun p145 o146 l147 c148 =>
 AsCnt v14 fun n149 =>
 Must (ltN n149 l147) (
 Ld H138 p145 (Nat.add o146 (Nat.mul n149 1)) fun v150 =>
 Call1 Tryz.prog con 27 [v150, v137] H138 fun v151 H152 =>
 AsSlc v144 fun p153 o154 l155 c156 =>
 AsCnt (i64 (Int.sub (Int.add (Int.ofNat l29) (Int.ofNat 1)) (Int.ofNat 1))) fun n157 =>
 Must (ltN n157 l155) (
 AsAgg v151 fun l158 =>
 Must (eqN (lenF l158) 6) (
 Nth l158 0 fun v159 =>
 Nth l158 1 fun v160 =>
 Nth l158 2 fun v161 =>
 Nth l158 3 fun v162 =>
 Nth l158 4 fun v163 =>
 Nth l158 5 fun v164 =>
 St H152 p153 (Nat.add o154 (Nat.mul n157 6)) [v159, v160, v161, v162, v163, v164] fun H165 =>
 Ld H138 p139 (Nat.add o140 (Nat.mul n143 1)) fun v166 =>
 Same v144 v166 (
 Ld H152 p139 (Nat.add o140 (Nat.mul n143 1)) fun v167 =>
 Same v144 v167 (
 AsSlc (a 10) fun p168 o169 l170 c171 =>
 AsCnt v14 fun n172 =>
 Must (ltN n172 l170) (
 Ld H165 p168 (Nat.add o169 (Nat.mul n172 1)) fun v173 =>
 AsSlc (a 8) fun p174 o175 l176 c177 =>
 AsCnt v14 fun n178 =>
 Must (ltN n178 l176) (
 Ld H165 p174 (Nat.add o175 (Nat.mul n178 1)) fun v179 =>
 InR (Int.sub (Int.add (Int.ofNat l29) (Int.ofNat 1)) (Int.ofNat 1)) (
 AsSlc v179 fun p180 o181 l182 c183 =>
 AsCnt (i64 (Int.sub (Int.add (Int.ofNat l29) (Int.ofNat 1)) (Int.ofNat 1))) fun n184 =>
 Must (ltN n184 l182) (
 Ld H165 p180 (Nat.add (Nat.add o181 (Nat.mul n184 6)) 0) fun v185 =>
 Ld H165 p180 (Nat.add (Nat.add o181 (Nat.mul n184 6)) 1) fun v186 =>
 Ld H165 p180 (Nat.add (Nat.add o181 (Nat.mul n184 6)) 2) fun v187 =>
 Ld H165 p180 (Nat.add (Nat.add o181 (Nat.mul n184 6)) 3) fun v188 =>
 Ld H165 p180 (Nat.add (Nat.add o181 (Nat.mul n184 6)) 4) fun v189 =>
 Ld H165 p180 (Nat.add (Nat.add o181 (Nat.mul n184 6)) 5) fun v190 =>
 AsSlc v123 fun p191 o192 l193 c194 =>
 AsCnt v173 fun n195 =>
 Must (ltN n195 l193) (
 St H165 p191 (Nat.add (Nat.add o192 (Nat.mul n195 11)) 0) [v185, v186, v187, v188, v189, v190] fun H196 =>
 AsBool v137 fun b197 =>
 Cd b197 (
 AsSlc (a 10) fun p198 o199 l200 c201 =>
 AsCnt v14 fun n202 =>
 Must (ltN n202 l200) (
 Ld H196 p198 (Nat.add o199 (Nat.mul n202 1)) fun v203 =>
 AsSlc v123 fun p204 o205 l206 c207 =>
 AsCnt v203 fun n208 =>
 Must (ltN n208 l206) (
 Sc (a 14) (St H196 p204 (Nat.add (Nat.add o205 (Nat.mul n208 11)) 7) [(a 14)] fun H209 =>
 AsSlc (a 9) fun p210 o211 l212 c213 =>
 AsCnt v14 fun n214 =>
 Must (ltN n214 l212) (
 St H209 p210 (Nat.add o211 (Nat.mul n214 1)) [(.pointer none)] fun H215 =>
 AsInt .i64 (a 14) fun z216 =>
 InR (Int.add z216 (Int.ofNat 1)) (
 K .normal (upd (upd (upd (upd (upd (upd (upd (upd (upd (upd (upd (upd (upd (upd (upd (upd (upd (upd (upd (upd (upd (upd (upd (upd (upd (upd (upd (upd (upd (upd (upd (upd (upd (upd (upd (upd (upd (upd (upd (upd (upd (upd (upd (upd (upd (upd (upd (upd (upd (upd (upd (upd (upd (upd (upd (upd (upd (upd (upd (upd (upd (upd (upd (upd (upd (upd (upd (upd (upd (upd (upd (upd (upd (upd (upd (upd (upd (upd (upd (upd (upd (upd (upd (upd (upd (upd (upd (upd (upd (upd (upd (upd (upd (upd (upd (upd (upd (upd (upd (upd (upd (upd (upd (upd (upd (upd (upd (upd (upd (upd (upd (upd (upd (upd (upd (upd (upd (upd (upd (upd (upd (upd (upd (upd (upd (upd (upd (upd (upd (upd (upd (upd (upd (upd (upd (upd (upd (upd (upd (upd (upd (upd (upd (upd (upd (upd (upd a 43 (a 14)) 44 (ptr p1 (Nat.add o2 3))) 45 v3) 46 (iN (l4))) 47 (.bool (ltZ z5 (Int.ofNat l4)))) 50 (ptr p6 (Nat.add o7 3))) 51 v8) 52 (a 14)) 53 (ptr p9 (Nat.add o10 (Nat.mul n13 1)))) 54 v14) 15 v14) 55 v14) 56 (.bool (ltZ z15 (Int.ofNat 0)))) 57 (.bool (ltZ z15 (Int.ofNat 0)))) 57 (.bool false)) 58 v14) 57 (.bool false)) 59 (ptr p17 (Nat.add o18 2))) 57 (.bool false)) 60 v19) 57 (.bool false)) 61 (iN (l20))) 57 (.bool false)) 62 (.bool (leZ (Int.ofNat l20) z21))) 63 (.bool (leZ (Int.ofNat l20) z21))) 64 (a 8)) 65 v14) 66 (ptr p23 (Nat.add o24 (Nat.mul n27 1)))) 67 v28) 68 (iN (l29))) 16 (iN (l29))) 69 (a 9)) 70 v14) 71 (ptr p30 (Nat.add o31 (Nat.mul n34 1)))) 72 v35) 73 (.bool b36)) 74 (iN (l29))) 75 (ptr p37 (Nat.add o38 2))) 76 v39) 77 v14) 78 (ptr p40 (Nat.add o41 (Nat.mul n44 1)))) 79 v45) 80 (iN (l46))) 81 (.bool (leZ (Int.ofNat l46) (Int.ofNat l29)))) 82 (a 9)) 83 v14) 84 (.agg ⟨[v50, v51, v52, v53]⟩)) 85 (ptr p54 (Nat.add o55 2))) 86 v56) 87 v14) 88 (ptr p57 (Nat.add o58 (Nat.mul n61 1)))) 89 v62) 90 (iN (l29))) 91 (ptr p63 (Nat.add o64 (Nat.mul l29 2)))) 92 (.agg ⟨[v67, v68]⟩)) 93 (a 8)) 94 v14) 95 (ptr p69 (Nat.add o70 (Nat.mul n73 1)))) 96 v74) 97 v75) 98 (ptr p77 (Nat.add o78 (Nat.mul n81 1)))) 99 (a 8)) 100 v14) 101 (a 8)) 102 v14) 103 (ptr p83 (Nat.add o84 (Nat.mul n87 1)))) 104 v88) 105 (.agg ⟨[(u64 (0)), (u64 (0)), (iN (0)), (u64 (0)), (snil), (.bool false)]⟩)) 106 (.slice (some ⟨p89, 0, none⟩) 1 1)) 107 v91) 108 (ptr p93 (Nat.add o94 (Nat.mul n97 1)))) 109 (a 10)) 110 v14) 111 (a 13)) 112 (iN (l99))) 113 (ptr p100 (Nat.add o101 (Nat.mul n104 1)))) 114 (a 13)) 115 (a 14)) 116 v14) 117 (ptr p106 (Nat.add o107 2))) 118 v108) 119 v14) 120 (ptr p109 (Nat.add o110 (Nat.mul n113 1)))) 121 v114) 122 (iN (l29))) 123 (ptr p115 (Nat.add o116 (Nat.mul l29 2)))) 124 (.agg ⟨[v119, v120]⟩)) 125 (.agg ⟨[(u64 (0)), (u64 (0)), (iN (0)), (u64 (0)), (snil), (.bool false), (a 14), (i64 (Int.negSucc 0)), v14, v119, v120]⟩)) 126 (.slice (some ⟨p121, 0, none⟩) 1 1)) 127 v123) 13 v123) 128 (iN (l29))) 129 (i64 (Int.add (Int.ofNat l29) (Int.ofNat 1)))) 16 (i64 (Int.add (Int.ofNat l29) (Int.ofNat 1)))) 130 (a 9)) 131 v14) 132 (ptr p125 (Nat.add o126 (Nat.mul n129 1)))) 133 v130) 134 (a 11)) 135 v14) 136 (ptr p131 (Nat.add o132 (Nat.mul n135 1)))) 137 v136) 138 v137) 17 v137) 139 (a 8)) 140 v14) 141 (ptr p139 (Nat.add o140 (Nat.mul n143 1)))) 142 v144) 143 (i64 (Int.add (Int.ofNat l29) (Int.ofNat 1)))) 144 (i64 (Int.sub (Int.add (Int.ofNat l29) (Int.ofNat 1)) (Int.ofNat 1)))) 145 (a 9)) 146 v14) 147 (ptr p145 (Nat.add o146 (Nat.mul n149 1)))) 148 v150) 149 v137) 150 v151) 151 (ptr p153 (Nat.add o154 (Nat.mul n157 6)))) 152 v123) 153 (a 10)) 154 v14) 155 (ptr p168 (Nat.add o169 (Nat.mul n172 1)))) 156 v173) 157 (a 8)) 158 v14) 159 (ptr p174 (Nat.add o175 (Nat.mul n178 1)))) 160 v179) 161 (i64 (Int.add (Int.ofNat l29) (Int.ofNat 1)))) 162 (i64 (Int.sub (Int.add (Int.ofNat l29) (Int.ofNat 1)) (Int.ofNat 1)))) 163 (ptr p180 (Nat.add o181 (Nat.mul n184 6)))) 164 (.agg ⟨[v185, v186, v187, v188, v189, v190]⟩)) 165 (ptr p191 (Nat.add o192 (Nat.mul n195 11)))) 166 (ptr p191 (Nat.add (Nat.add o192 (Nat.mul n195 11)) 0))) 167 v137) 168 v123) 169 (a 10)) 170 v14) 171 (ptr p198 (Nat.add o199 (Nat.mul n202 1)))) 172 v203) 173 (a 14)) 174 (ptr p204 (Nat.add o205 (Nat.mul n208 11)))) 175 (ptr p204 (Nat.add (Nat.add o205 (Nat.mul n208 11)) 7))) 176 (a 9)) 177 v14) 178 (ptr p210 (Nat.add o211 (Nat.mul n214 1)))) 48 (a 14)) 49 (i64 (Int.add z216 (Int.ofNat 1)))) 14 (i64 (Int.add z216 (Int.ofNat 1)))) H215)))))) (
 AsInt .i64 (a 14) fun z217 =>
 InR (Int.add z217 (Int.ofNat 1)) (
 K .normal (upd (upd (upd (upd (upd (upd (upd (upd (upd (upd (upd (upd (upd (upd (upd (upd (upd (upd (upd (upd (upd (upd (upd (upd (upd (upd (upd (upd (upd (upd (upd (upd (upd (upd (upd (upd (upd (upd (upd (upd (upd (upd (upd (upd (upd (upd (upd (upd (upd (upd (upd (upd (upd (upd (upd (upd (upd (upd (upd (upd (upd (upd (upd (upd (upd (upd (upd (upd (upd (upd (upd (upd (upd (upd (upd (upd (upd (upd (upd (upd (upd (upd (upd (upd (upd (upd (upd (upd (upd (upd (upd (upd (upd (upd (upd (upd (upd (upd (upd (upd (upd (upd (upd (upd (upd (upd (upd (upd (upd (upd (upd (upd (upd (upd (upd (upd (upd (upd (upd (upd (upd (upd (upd (upd (upd (upd (upd (upd (upd (upd (upd (upd (upd (upd (upd (upd a 43 (a 14)) 44 (ptr p1 (Nat.add o2 3))) 45 v3) 46 (iN (l4))) 47 (.bool (ltZ z5 (Int.ofNat l4)))) 50 (ptr p6 (Nat.add o7 3))) 51 v8) 52 (a 14)) 53 (ptr p9 (Nat.add o10 (Nat.mul n13 1)))) 54 v14) 15 v14) 55 v14) 56 (.bool (ltZ z15 (Int.ofNat 0)))) 57 (.bool (ltZ z15 (Int.ofNat 0)))) 57 (.bool false)) 58 v14) 57 (.bool false)) 59 (ptr p17 (Nat.add o18 2))) 57 (.bool false)) 60 v19) 57 (.bool false)) 61 (iN (l20))) 57 (.bool false)) 62 (.bool (leZ (Int.ofNat l20) z21))) 63 (.bool (leZ (Int.ofNat l20) z21))) 64 (a 8)) 65 v14) 66 (ptr p23 (Nat.add o24 (Nat.mul n27 1)))) 67 v28) 68 (iN (l29))) 16 (iN (l29))) 69 (a 9)) 70 v14) 71 (ptr p30 (Nat.add o31 (Nat.mul n34 1)))) 72 v35) 73 (.bool b36)) 74 (iN (l29))) 75 (ptr p37 (Nat.add o38 2))) 76 v39) 77 v14) 78 (ptr p40 (Nat.add o41 (Nat.mul n44 1)))) 79 v45) 80 (iN (l46))) 81 (.bool (leZ (Int.ofNat l46) (Int.ofNat l29)))) 82 (a 9)) 83 v14) 84 (.agg ⟨[v50, v51, v52, v53]⟩)) 85 (ptr p54 (Nat.add o55 2))) 86 v56) 87 v14) 88 (ptr p57 (Nat.add o58 (Nat.mul n61 1)))) 89 v62) 90 (iN (l29))) 91 (ptr p63 (Nat.add o64 (Nat.mul l29 2)))) 92 (.agg ⟨[v67, v68]⟩)) 93 (a 8)) 94 v14) 95 (ptr p69 (Nat.add o70 (Nat.mul n73 1)))) 96 v74) 97 v75) 98 (ptr p77 (Nat.add o78 (Nat.mul n81 1)))) 99 (a 8)) 100 v14) 101 (a 8)) 102 v14) 103 (ptr p83 (Nat.add o84 (Nat.mul n87 1)))) 104 v88) 105 (.agg ⟨[(u64 (0)), (u64 (0)), (iN (0)), (u64 (0)), (snil), (.bool false)]⟩)) 106 (.slice (some ⟨p89, 0, none⟩) 1 1)) 107 v91) 108 (ptr p93 (Nat.add o94 (Nat.mul n97 1)))) 109 (a 10)) 110 v14) 111 (a 13)) 112 (iN (l99))) 113 (ptr p100 (Nat.add o101 (Nat.mul n104 1)))) 114 (a 13)) 115 (a 14)) 116 v14) 117 (ptr p106 (Nat.add o107 2))) 118 v108) 119 v14) 120 (ptr p109 (Nat.add o110 (Nat.mul n113 1)))) 121 v114) 122 (iN (l29))) 123 (ptr p115 (Nat.add o116 (Nat.mul l29 2)))) 124 (.agg ⟨[v119, v120]⟩)) 125 (.agg ⟨[(u64 (0)), (u64 (0)), (iN (0)), (u64 (0)), (snil), (.bool false), (a 14), (i64 (Int.negSucc 0)), v14, v119, v120]⟩)) 126 (.slice (some ⟨p121, 0, none⟩) 1 1)) 127 v123) 13 v123) 128 (iN (l29))) 129 (i64 (Int.add (Int.ofNat l29) (Int.ofNat 1)))) 16 (i64 (Int.add (Int.ofNat l29) (Int.ofNat 1)))) 130 (a 9)) 131 v14) 132 (ptr p125 (Nat.add o126 (Nat.mul n129 1)))) 133 v130) 134 (a 11)) 135 v14) 136 (ptr p131 (Nat.add o132 (Nat.mul n135 1)))) 137 v136) 138 v137) 17 v137) 139 (a 8)) 140 v14) 141 (ptr p139 (Nat.add o140 (Nat.mul n143 1)))) 142 v144) 143 (i64 (Int.add (Int.ofNat l29) (Int.ofNat 1)))) 144 (i64 (Int.sub (Int.add (Int.ofNat l29) (Int.ofNat 1)) (Int.ofNat 1)))) 145 (a 9)) 146 v14) 147 (ptr p145 (Nat.add o146 (Nat.mul n149 1)))) 148 v150) 149 v137) 150 v151) 151 (ptr p153 (Nat.add o154 (Nat.mul n157 6)))) 152 v123) 153 (a 10)) 154 v14) 155 (ptr p168 (Nat.add o169 (Nat.mul n172 1)))) 156 v173) 157 (a 8)) 158 v14) 159 (ptr p174 (Nat.add o175 (Nat.mul n178 1)))) 160 v179) 161 (i64 (Int.add (Int.ofNat l29) (Int.ofNat 1)))) 162 (i64 (Int.sub (Int.add (Int.ofNat l29) (Int.ofNat 1)) (Int.ofNat 1)))) 163 (ptr p180 (Nat.add o181 (Nat.mul n184 6)))) 164 (.agg ⟨[v185, v186, v187, v188, v189, v190]⟩)) 165 (ptr p191 (Nat.add o192 (Nat.mul n195 11)))) 166 (ptr p191 (Nat.add (Nat.add o192 (Nat.mul n195 11)) 0))) 167 v137) 48 (a 14)) 49 (i64 (Int.add z217 (Int.ofNat 1)))) 14 (i64 (Int.add z217 (Int.ofNat 1)))) H196))))))))))))))))))))))))))))))))) (
 AsSlc (a 9) fun p218 o219 l220 c221 =>
 AsCnt v14 fun n222 =>
 Must (ltN n222 l220) (
 Ld H p218 (Nat.add o219 (Nat.mul n222 1)) fun v223 =>
 AsSlc (a 11) fun p224 o225 l226 c227 =>
 AsCnt v14 fun n228 =>
 Must (ltN n228 l226) (
 Ld H p224 (Nat.add o225 (Nat.mul n228 1)) fun v229 =>
 Call1 Tryz.prog con 24 [v223, v229] H fun v230 H231 =>
 AsSlc (a 8) fun p232 o233 l234 c235 =>
 AsCnt v14 fun n236 =>
 Must (ltN n236 l234) (
 Ld H231 p232 (Nat.add o233 (Nat.mul n236 1)) fun v237 =>
 InR (Int.sub (Int.ofNat l29) (Int.ofNat 1)) (
 AsSlc (a 9) fun p238 o239 l240 c241 =>
 AsCnt v14 fun n242 =>
 Must (ltN n242 l240) (
 Ld H231 p238 (Nat.add o239 (Nat.mul n242 1)) fun v243 =>
 Call1 Tryz.prog con 27 [v243, v230] H231 fun v244 H245 =>
 AsSlc v237 fun p246 o247 l248 c249 =>
 AsCnt (i64 (Int.sub (Int.ofNat l29) (Int.ofNat 1))) fun n250 =>
 Must (ltN n250 l248) (
 AsAgg v244 fun l251 =>
 Must (eqN (lenF l251) 6) (
 Nth l251 0 fun v252 =>
 Nth l251 1 fun v253 =>
 Nth l251 2 fun v254 =>
 Nth l251 3 fun v255 =>
 Nth l251 4 fun v256 =>
 Nth l251 5 fun v257 =>
 St H245 p246 (Nat.add o247 (Nat.mul n250 6)) [v252, v253, v254, v255, v256, v257] fun H258 =>
 Ld H231 p232 (Nat.add o233 (Nat.mul n236 1)) fun v259 =>
 Same v237 v259 (
 Ld H245 p232 (Nat.add o233 (Nat.mul n236 1)) fun v260 =>
 Same v237 v260 (
 AsSlc (a 10) fun p261 o262 l263 c264 =>
 AsCnt v14 fun n265 =>
 Must (ltN n265 l263) (
 Ld H258 p261 (Nat.add o262 (Nat.mul n265 1)) fun v266 =>
 AsSlc (a 8) fun p267 o268 l269 c270 =>
 AsCnt v14 fun n271 =>
 Must (ltN n271 l269) (
 Ld H258 p267 (Nat.add o268 (Nat.mul n271 1)) fun v272 =>
 InR (Int.sub (Int.ofNat l29) (Int.ofNat 1)) (
 AsSlc v272 fun p273 o274 l275 c276 =>
 AsCnt (i64 (Int.sub (Int.ofNat l29) (Int.ofNat 1))) fun n277 =>
 Must (ltN n277 l275) (
 Ld H258 p273 (Nat.add (Nat.add o274 (Nat.mul n277 6)) 0) fun v278 =>
 Ld H258 p273 (Nat.add (Nat.add o274 (Nat.mul n277 6)) 1) fun v279 =>
 Ld H258 p273 (Nat.add (Nat.add o274 (Nat.mul n277 6)) 2) fun v280 =>
 Ld H258 p273 (Nat.add (Nat.add o274 (Nat.mul n277 6)) 3) fun v281 =>
 Ld H258 p273 (Nat.add (Nat.add o274 (Nat.mul n277 6)) 4) fun v282 =>
 Ld H258 p273 (Nat.add (Nat.add o274 (Nat.mul n277 6)) 5) fun v283 =>
 AsSlc (a 13) fun p284 o285 l286 c287 =>
 AsCnt v266 fun n288 =>
 Must (ltN n288 l286) (
 St H258 p284 (Nat.add (Nat.add o285 (Nat.mul n288 11)) 0) [v278, v279, v280, v281, v282, v283] fun H289 =>
 AsBool v230 fun b290 =>
 Cd b290 (
 AsSlc (a 10) fun p291 o292 l293 c294 =>
 AsCnt v14 fun n295 =>
 Must (ltN n295 l293) (
 Ld H289 p291 (Nat.add o292 (Nat.mul n295 1)) fun v296 =>
 AsSlc (a 13) fun p297 o298 l299 c300 =>
 AsCnt v296 fun n301 =>
 Must (ltN n301 l299) (
 Sc (a 14) (St H289 p297 (Nat.add (Nat.add o298 (Nat.mul n301 11)) 7) [(a 14)] fun H302 =>
 AsSlc (a 9) fun p303 o304 l305 c306 =>
 AsCnt v14 fun n307 =>
 Must (ltN n307 l305) (
 St H302 p303 (Nat.add o304 (Nat.mul n307 1)) [(.pointer none)] fun H308 =>
 AsInt .i64 (a 14) fun z309 =>
 InR (Int.add z309 (Int.ofNat 1)) (
 K .normal (upd (upd (upd (upd (upd (upd (upd (upd (upd (upd (upd (upd (upd (upd (upd (upd (upd (upd (upd (upd (upd (upd (upd (upd (upd (upd (upd (upd (upd (upd (upd (upd (upd (upd (upd (upd (upd (upd (upd (upd (upd (upd (upd (upd (upd (upd (upd (upd (upd (upd (upd (upd (upd (upd (upd (upd (upd (upd (upd (upd (upd (upd (upd (upd (upd (upd (upd (upd (upd (upd (upd (upd (upd (upd (upd (upd (upd (upd (upd (upd (upd (upd (upd (upd (upd (upd (upd (upd (upd a 43 (a 14)) 44 (ptr p1 (Nat.add o2 3))) 45 v3) 46 (iN (l4))) 47 (.bool (ltZ z5 (Int.ofNat l4)))) 50 (ptr p6 (Nat.add o7 3))) 51 v8) 52 (a 14)) 53 (ptr p9 (Nat.add o10 (Nat.mul n13 1)))) 54 v14) 15 v14) 55 v14) 56 (.bool (ltZ z15 (Int.ofNat 0)))) 57 (.bool (ltZ z15 (Int.ofNat 0)))) 57 (.bool false)) 58 v14) 57 (.bool false)) 59 (ptr p17 (Nat.add o18 2))) 57 (.bool false)) 60 v19) 57 (.bool false)) 61 (iN (l20))) 57 (.bool false)) 62 (.bool (leZ (Int.ofNat l20) z21))) 63 (.bool (leZ (Int.ofNat l20) z21))) 64 (a 8)) 65 v14) 66 (ptr p23 (Nat.add o24 (Nat.mul n27 1)))) 67 v28) 68 (iN (l29))) 16 (iN (l29))) 69 (a 9)) 70 v14) 71 (ptr p30 (Nat.add o31 (Nat.mul n34 1)))) 72 v35) 73 (.bool b36)) 130 (a 9)) 131 v14) 132 (ptr p218 (Nat.add o219 (Nat.mul n222 1)))) 133 v223) 134 (a 11)) 135 v14) 136 (ptr p224 (Nat.add o225 (Nat.mul n228 1)))) 137 v229) 138 v230) 17 v230) 139 (a 8)) 140 v14) 141 (ptr p232 (Nat.add o233 (Nat.mul n236 1)))) 142 v237) 143 (iN (l29))) 144 (i64 (Int.sub (Int.ofNat l29) (Int.ofNat 1)))) 145 (a 9)) 146 v14) 147 (ptr p238 (Nat.add o239 (Nat.mul n242 1)))) 148 v243) 149 v230) 150 v244) 151 (ptr p246 (Nat.add o247 (Nat.mul n250 6)))) 152 (a 13)) 153 (a 10)) 154 v14) 155 (ptr p261 (Nat.add o262 (Nat.mul n265 1)))) 156 v266) 157 (a 8)) 158 v14) 159 (ptr p267 (Nat.add o268 (Nat.mul n271 1)))) 160 v272) 161 (iN (l29))) 162 (i64 (Int.sub (Int.ofNat l29) (Int.ofNat 1)))) 163 (ptr p273 (Nat.add o274 (Nat.mul n277 6)))) 164 (.agg ⟨[v278, v279, v280, v281, v282, v283]⟩)) 165 (ptr p284 (Nat.add o285 (Nat.mul n288 11)))) 166 (ptr p284 (Nat.add (Nat.add o285 (Nat.mul n288 11)) 0))) 167 v230) 168 (a 13)) 169 (a 10)) 170 v14) 171 (ptr p291 (Nat.add o292 (Nat.mul n295 1)))) 172 v296) 173 (a 14)) 174 (ptr p297 (Nat.add o298 (Nat.mul n301 11)))) 175 (ptr p297 (Nat.add (Nat.add o298 (Nat.mul n301 11)) 7))) 176 (a 9)) 177 v14) 178 (ptr p303 (Nat.add o304 (Nat.mul n307 1)))) 48 (a 14)) 49 (i64 (Int.add z309 (Int.ofNat 1)))) 14 (i64 (Int.add z309 (Int.ofNat 1)))) H308)))))) (
 AsInt .i64 (a 14) fun z310 =>
 InR (Int.add z310 (Int.ofNat 1)) (
 K .normal (upd (upd (upd (upd (upd (upd (upd (upd (upd (upd (upd (upd (upd (upd (upd (upd (upd (upd (upd (upd (upd (upd (upd (upd (upd (upd (upd (upd (upd (upd (upd (upd (upd (upd (upd (upd (upd (upd (upd (upd (upd (upd (upd (upd (upd (upd (upd (upd (upd (upd (upd (upd (upd (upd (upd (upd (upd (upd (upd (upd (upd (upd (upd (upd (upd (upd (upd (upd (upd (upd (upd (upd (upd (upd (upd (upd (upd (upd a 43 (a 14)) 44 (ptr p1 (Nat.add o2 3))) 45 v3) 46 (iN (l4))) 47 (.bool (ltZ z5 (Int.ofNat l4)))) 50 (ptr p6 (Nat.add o7 3))) 51 v8) 52 (a 14)) 53 (ptr p9 (Nat.add o10 (Nat.mul n13 1)))) 54 v14) 15 v14) 55 v14) 56 (.bool (ltZ z15 (Int.ofNat 0)))) 57 (.bool (ltZ z15 (Int.ofNat 0)))) 57 (.bool false)) 58 v14) 57 (.bool false)) 59 (ptr p17 (Nat.add o18 2))) 57 (.bool false)) 60 v19) 57 (.bool false)) 61 (iN (l20))) 57 (.bool false)) 62 (.bool (leZ (Int.ofNat l20) z21))) 63 (.bool (leZ (Int.ofNat l20) z21))) 64 (a 8)) 65 v14) 66 (ptr p23 (Nat.add o24 (Nat.mul n27 1)))) 67 v28) 68 (iN (l29))) 16 (iN (l29))) 69 (a 9)) 70 v14) 71 (ptr p30 (Nat.add o31 (Nat.mul n34 1)))) 72 v35) 73 (.bool b36)) 130 (a 9)) 131 v14) 132 (ptr p218 (Nat.add o219 (Nat.mul n222 1)))) 133 v223) 134 (a 11)) 135 v14) 136 (ptr p224 (Nat.add o225 (Nat.mul n228 1)))) 137 v229) 138 v230) 17 v230) 139 (a 8)) 140 v14) 141 (ptr p232 (Nat.add o233 (Nat.mul n236 1)))) 142 v237) 143 (iN (l29))) 144 (i64 (Int.sub (Int.ofNat l29) (Int.ofNat 1)))) 145 (a 9)) 146 v14) 147 (ptr p238 (Nat.add o239 (Nat.mul n242 1)))) 148 v243) 149 v230) 150 v244) 151 (ptr p246 (Nat.add o247 (Nat.mul n250 6)))) 152 (a 13)) 153 (a 10)) 154 v14) 155 (ptr p261 (Nat.add o262 (Nat.mul n265 1)))) 156 v266) 157 (a 8)) 158 v14) 159 (ptr p267 (Nat.add o268 (Nat.mul n271 1)))) 160 v272) 161 (iN (l29))) 162 (i64 (Int.sub (Int.ofNat l29) (Int.ofNat 1)))) 163 (ptr p273 (Nat.add o274 (Nat.mul n277 6)))) 164 (.agg ⟨[v278, v279, v280, v281, v282, v283]⟩)) 165 (ptr p284 (Nat.add o285 (Nat.mul n288 11)))) 166 (ptr p284 (Nat.add (Nat.add o285 (Nat.mul n288 11)) 0))) 167 v230) 48 (a 14)) 49 (i64 (Int.add z310 (Int.ofNat 1)))) 14 (i64 (Int.add z310 (Int.ofNat 1)))) H289))))))))))))))))))))))) (
 K (.exit 2) (upd (upd (upd (upd (upd a 43 (a 14)) 44 (ptr p1 (Nat.add o2 3))) 45 v3) 46 (iN (l4))) 47 (.bool (ltZ z5 (Int.ofNat l4)))) H)) := by kernel_rfl
theorem l13right_W (con : CallT) (n : Int) (most : Nat) (v w : Value) (H : CH) (K : KP) : funW Tryz.prog con 33 [.agg ⟨[i64 n, u64 most, v, w]⟩] H K =
 (Nw H (mkRow 93 0 [(i64 n), (u64 (most)), v, w]) fun p1 H2 =>
 Ld H2 p1 0 fun v3 =>
 AsInt .i64 v3 fun z4 =>
 Cd (leZ (Int.ofNat 1) z4) (
 Ld H2 p1 0 fun v5 =>
 AsInt .i64 v5 fun z6 =>
 Cd (leZ z6 (Int.ofNat 256)) (
 Ld H2 p1 1 fun v7 =>
 AsNat .u64 v7 fun n8 =>
 Cd (leN 1 n8) (
 Ld H2 p1 1 fun v9 =>
 AsNat .u64 v9 fun n10 =>
 K (.bool (leN n10 1099511627776)) H2) (
 K (.bool false) H2)) (
 K (.bool false) H2)) (
 K (.bool false) H2)) := by kernel_rfl
theorem rRun13_W (con : CallT) (m xa xb : Nat) (z : Int) (xd : Nat) (v w : Value) (H : CH) (K : KP) : funW Tryz.prog con 36 [ptr m 0, .agg ⟨[u64 xa, u64 xb, i64 z, u64 xd]⟩, v, w] H K =
 (Nw H (mkRow 61 0 [(u64 (xa)), (u64 (xb)), (i64 z), (u64 (xd))]) fun p1 H2 =>
 AsLen v fun l3 =>
 MkS Tryz.prog H2 99 (iN (l3)) (iN (l3)) fun v4 H5 =>
 AsLen v fun l6 =>
 MkS Tryz.prog H5 211 (iN (l6)) (iN (l6)) fun v7 H8 =>
 LoopC Tryz.prog con (lpAt Tryz.prog 36 0) (upd (upd (upd (upd (upd (upd (upd (upd (upd (upd (upd (upd (upd (upd (upd (fun _ => undV) 3 w) 2 v) 1 (.agg ⟨[(u64 (xa)), (u64 (xb)), (i64 z), (u64 (xd))]⟩)) 0 (ptr m 0)) 5 (ptr p1 0)) 8 (snil)) 14 v) 15 (iN (l3))) 16 v4) 9 v4) 17 v) 18 (iN (l6))) 19 v7) 10 v7) 11 (iN (0))) H8 (fun e => ceP e
 (fun a9 H10 =>
 K (a9 9) H10)
 (fun i11 => fun a9 H10 =>
 Cd (eqN i11 0) (
 K (a9 9) H10) (
 False))
 (fun a9 H10 =>
 K (a9 8) H10))) := by kernel_rfl
theorem rRun13L_W (con : CallT) (a : TF) (H : CH) (K : KX) : codeW (lpAt Tryz.prog 36 0) Tryz.prog con a H K =
 (AsLen (a 3) fun l1 =>
 AsInt .i64 (a 11) fun z2 =>
 Cd (ltZ z2 (Int.ofNat l1)) (
 AsSlc (a 3) fun p3 o4 l5 c6 =>
 AsCnt (a 11) fun n7 =>
 Must (ltN n7 l5) (
 Ld H p3 (Nat.add o4 (Nat.mul n7 1)) fun v8 =>
 AsInt .i64 v8 fun z9 =>
 Cd (ltZ z9 (Int.ofNat 0)) (
 AsInt .i64 (a 11) fun z10 =>
 InR (Int.add z10 (Int.ofNat 1)) (
 K .normal (upd (upd (upd (upd (upd (upd (upd (upd (upd (upd (upd (upd (upd (upd (upd (upd (upd (upd (upd (upd (upd (upd (upd (upd a 20 (a 11)) 21 (a 3)) 22 (iN (l1))) 23 (.bool (ltZ z2 (Int.ofNat l1)))) 26 (a 3)) 27 (a 11)) 28 (ptr p3 (Nat.add o4 (Nat.mul n7 1)))) 29 v8) 12 v8) 30 v8) 31 (.bool (ltZ z9 (Int.ofNat 0)))) 32 (.bool (ltZ z9 (Int.ofNat 0)))) 32 (.bool true)) 33 (.tuple ⟨[]⟩)) 32 (.bool true)) 34 (.tuple ⟨[]⟩)) 32 (.bool true)) 35 (.tuple ⟨[]⟩)) 32 (.bool true)) 36 (.tuple ⟨[]⟩)) 37 (.bool true)) 24 (a 11)) 25 (i64 (Int.add z10 (Int.ofNat 1)))) 11 (i64 (Int.add z10 (Int.ofNat 1)))) H)) (
 AsLen (a 2) fun l11 =>
 AsInt .i64 v8 fun z12 =>
 Cd (leZ (Int.ofNat l11) z12) (
 AsInt .i64 (a 11) fun z13 =>
 InR (Int.add z13 (Int.ofNat 1)) (
 K .normal (upd (upd (upd (upd (upd (upd (upd (upd (upd (upd (upd (upd (upd (upd (upd (upd (upd (upd (upd (upd (upd (upd (upd (upd a 20 (a 11)) 21 (a 3)) 22 (iN (l1))) 23 (.bool (ltZ z2 (Int.ofNat l1)))) 26 (a 3)) 27 (a 11)) 28 (ptr p3 (Nat.add o4 (Nat.mul n7 1)))) 29 v8) 12 v8) 30 v8) 31 (.bool (ltZ z9 (Int.ofNat 0)))) 32 (.bool (ltZ z9 (Int.ofNat 0)))) 32 (.bool false)) 33 v8) 32 (.bool false)) 34 (a 2)) 32 (.bool false)) 35 (iN (l11))) 32 (.bool false)) 36 (.bool (leZ (Int.ofNat l11) z12))) 37 (.bool (leZ (Int.ofNat l11) z12))) 24 (a 11)) 25 (i64 (Int.add z13 (Int.ofNat 1)))) 11 (i64 (Int.add z13 (Int.ofNat 1)))) H)) (
 AsSlc (a 10) fun p14 o15 l16 c17 =>
 AsCnt v8 fun n18 =>
 Must (ltN n18 l16) (
 Ld H p14 (Nat.add o15 (Nat.mul n18 1)) fun v19 =>
 IsNil .ptr v19 fun b20 =>
 Cd b20 (
 AsSlc (a 9) fun p21 o22 l23 c24 =>
 AsCnt v8 fun n25 =>
 Must (ltN n25 l23) (
 Ld H p21 (Nat.add o22 (Nat.mul n25 1)) fun v26 =>
 AsLen v26 fun l27 =>
 AsSlc (a 2) fun p28 o29 l30 c31 =>
 AsCnt v8 fun n32 =>
 Must (ltN n32 l30) (
 Ld H p28 (Nat.add o29 (Nat.mul n32 1)) fun v33 =>
 AsLen v33 fun l34 =>
 Cd (leZ (Int.ofNat l34) (Int.ofNat l27)) (
 AsInt .i64 (a 11) fun z35 =>
 InR (Int.add z35 (Int.ofNat 1)) (
 K .normal (upd (upd (upd (upd (upd (upd (upd (upd (upd (upd (upd (upd (upd (upd (upd (upd (upd (upd (upd (upd (upd (upd (upd (upd (upd (upd (upd (upd (upd (upd (upd (upd (upd (upd (upd (upd (upd (upd (upd (upd a 20 (a 11)) 21 (a 3)) 22 (iN (l1))) 23 (.bool (ltZ z2 (Int.ofNat l1)))) 26 (a 3)) 27 (a 11)) 28 (ptr p3 (Nat.add o4 (Nat.mul n7 1)))) 29 v8) 12 v8) 30 v8) 31 (.bool (ltZ z9 (Int.ofNat 0)))) 32 (.bool (ltZ z9 (Int.ofNat 0)))) 32 (.bool false)) 33 v8) 32 (.bool false)) 34 (a 2)) 32 (.bool false)) 35 (iN (l11))) 32 (.bool false)) 36 (.bool (leZ (Int.ofNat l11) z12))) 37 (.bool (leZ (Int.ofNat l11) z12))) 38 (a 10)) 39 v8) 40 (ptr p14 (Nat.add o15 (Nat.mul n18 1)))) 41 v19) 42 (.bool b20)) 43 (a 9)) 44 v8) 45 (ptr p21 (Nat.add o22 (Nat.mul n25 1)))) 46 v26) 47 (iN (l27))) 48 (a 2)) 49 v8) 50 (ptr p28 (Nat.add o29 (Nat.mul n32 1)))) 51 v33) 52 (iN (l34))) 53 (.bool (leZ (Int.ofNat l34) (Int.ofNat l27)))) 24 (a 11)) 25 (i64 (Int.add z35 (Int.ofNat 1)))) 11 (i64 (Int.add z35 (Int.ofNat 1)))) H)) (
 AsPtr (a 5) fun p36 o37 =>
 Ld H p36 (Nat.add o37 0) fun v38 =>
 Ld H p36 (Nat.add o37 1) fun v39 =>
 Ld H p36 (Nat.add o37 2) fun v40 =>
 Ld H p36 (Nat.add o37 3) fun v41 =>
 AsSlc (a 2) fun p42 o43 l44 c45 =>
 AsCnt v8 fun n46 =>
 Must (ltN n46 l44) (
 Ld H p42 (Nat.add o43 (Nat.mul n46 1)) fun v47 =>
 AsSlc (a 9) fun p48 o49 l50 c51 =>
 AsCnt v8 fun n52 =>
 Must (ltN n52 l50) (
 Ld H p48 (Nat.add o49 (Nat.mul n52 1)) fun v53 =>
 AsLen v53 fun l54 =>
 AsSlc v47 fun p55 o56 l57 c58 =>
 Must (ltN l54 l57) (
 Ld H p55 (Nat.add (Nat.add o56 (Nat.mul l54 2)) 0) fun v59 =>
 Ld H p55 (Nat.add (Nat.add o56 (Nat.mul l54 2)) 1) fun v60 =>
 AsSlc (a 9) fun p61 o62 l63 c64 =>
 AsCnt v8 fun n65 =>
 Must (ltN n65 l63) (
 Ld H p61 (Nat.add o62 (Nat.mul n65 1)) fun v66 =>
 Call1 Tryz.prog con 23 [(.agg ⟨[v38, v39, v40, v41]⟩), (.agg ⟨[v59, v60]⟩), v66] H fun v67 H68 =>
 AsSlc (a 10) fun p69 o70 l71 c72 =>
 AsCnt v8 fun n73 =>
 Must (ltN n73 l71) (
 Sc v67 (St H68 p69 (Nat.add o70 (Nat.mul n73 1)) [v67] fun H74 =>
 AsSlc (a 9) fun p75 o76 l77 c78 =>
 AsCnt v8 fun n79 =>
 Must (ltN n79 l77) (
 Ld H74 p75 (Nat.add o76 (Nat.mul n79 1)) fun v80 =>
 Nw H74 (mkRow 76 0 [(u64 (0)), (u64 (0)), (iN (0)), (u64 (0)), (snil), (.bool false)]) fun p81 H82 =>
 App Tryz.prog 65 65 H82 v80 (.slice (some ⟨p81, 0, none⟩) 1 1) fun v83 H84 =>
 AsSlc (a 9) fun p85 o86 l87 c88 =>
 AsCnt v8 fun n89 =>
 Must (ltN n89 l87) (
 Sc v83 (St H84 p85 (Nat.add o86 (Nat.mul n89 1)) [v83] fun H90 =>
 AsSlc (a 10) fun p91 o92 l93 c94 =>
 AsCnt v8 fun n95 =>
 Must (ltN n95 l93) (
 Ld H90 p91 (Nat.add o92 (Nat.mul n95 1)) fun v96 =>
 Call1 Tryz.prog con 25 [v96, (a 0), v8] H90 fun v97 H98 =>
 AsSlc (a 9) fun p99 o100 l101 c102 =>
 AsCnt v8 fun n103 =>
 Must (ltN n103 l101) (
 Ld H98 p99 (Nat.add o100 (Nat.mul n103 1)) fun v104 =>
 AsSlc (a 9) fun p105 o106 l107 c108 =>
 AsCnt v8 fun n109 =>
 Must (ltN n109 l107) (
 Ld H98 p105 (Nat.add o106 (Nat.mul n109 1)) fun v110 =>
 AsLen v110 fun l111 =>
 InR (Int.sub (Int.ofNat l111) (Int.ofNat 1)) (
 AsSlc (a 10) fun p112 o113 l114 c115 =>
 AsCnt v8 fun n116 =>
 Must (ltN n116 l114) (
 Ld H98 p112 (Nat.add o113 (Nat.mul n116 1)) fun v117 =>
 NotNil Tryz.prog v117 (
 AsPtr v117 fun p118 o119 =>
 Ld H98 p118 (Nat.add (Nat.add o119 33) 0) fun v120 =>
 Ld H98 p118 (Nat.add (Nat.add o119 33) 1) fun v121 =>
 Ld H98 p118 (Nat.add (Nat.add o119 33) 2) fun v122 =>
 Ld H98 p118 (Nat.add (Nat.add o119 33) 3) fun v123 =>
 Ld H98 p118 (Nat.add (Nat.add o119 33) 4) fun v124 =>
 Ld H98 p118 (Nat.add (Nat.add o119 33) 5) fun v125 =>
 AsSlc v104 fun p126 o127 l128 c129 =>
 AsCnt (i64 (Int.sub (Int.ofNat l111) (Int.ofNat 1))) fun n130 =>
 Must (ltN n130 l128) (
 St H98 p126 (Nat.add o127 (Nat.mul n130 6)) [v120, v121, v122, v123, v124, v125] fun H131 =>
 AsBool v97 fun b132 =>
 Cd b132 (
 AsSlc (a 10) fun p133 o134 l135 c136 =>
 AsCnt v8 fun n137 =>
 Must (ltN n137 l135) (
 St H131 p133 (Nat.add o134 (Nat.mul n137 1)) [(.pointer none)] fun H138 =>
 AsInt .i64 (a 11) fun z139 =>
 InR (Int.add z139 (Int.ofNat 1)) (
 K .normal (upd (upd (upd (upd (upd (upd (upd (upd (upd (upd (upd (upd (upd (upd (upd (upd (upd (upd (upd (upd (upd (upd (upd (upd (upd (upd (upd (upd (upd (upd (upd (upd (upd (upd (upd (upd (upd (upd (upd (upd (upd (upd (upd (upd (upd (upd (upd (upd (upd (upd (upd (upd (upd (upd (upd (upd (upd (upd (upd (upd (upd (upd (upd (upd (upd (upd (upd (upd (upd (upd (upd (upd (upd (upd (upd (upd (upd (upd (upd (upd (upd (upd (upd (upd (upd (upd (upd (upd (upd (upd (upd (upd (upd (upd (upd (upd (upd (upd (upd (upd a 20 (a 11)) 21 (a 3)) 22 (iN (l1))) 23 (.bool (ltZ z2 (Int.ofNat l1)))) 26 (a 3)) 27 (a 11)) 28 (ptr p3 (Nat.add o4 (Nat.mul n7 1)))) 29 v8) 12 v8) 30 v8) 31 (.bool (ltZ z9 (Int.ofNat 0)))) 32 (.bool (ltZ z9 (Int.ofNat 0)))) 32 (.bool false)) 33 v8) 32 (.bool false)) 34 (a 2)) 32 (.bool false)) 35 (iN (l11))) 32 (.bool false)) 36 (.bool (leZ (Int.ofNat l11) z12))) 37 (.bool (leZ (Int.ofNat l11) z12))) 38 (a 10)) 39 v8) 40 (ptr p14 (Nat.add o15 (Nat.mul n18 1)))) 41 v19) 42 (.bool b20)) 43 (a 9)) 44 v8) 45 (ptr p21 (Nat.add o22 (Nat.mul n25 1)))) 46 v26) 47 (iN (l27))) 48 (a 2)) 49 v8) 50 (ptr p28 (Nat.add o29 (Nat.mul n32 1)))) 51 v33) 52 (iN (l34))) 53 (.bool (leZ (Int.ofNat l34) (Int.ofNat l27)))) 54 (a 10)) 55 v8) 56 (.agg ⟨[v38, v39, v40, v41]⟩)) 57 (a 2)) 58 v8) 59 (ptr p42 (Nat.add o43 (Nat.mul n46 1)))) 60 v47) 61 (a 9)) 62 v8) 63 (ptr p48 (Nat.add o49 (Nat.mul n52 1)))) 64 v53) 65 (iN (l54))) 66 (ptr p55 (Nat.add o56 (Nat.mul l54 2)))) 67 (.agg ⟨[v59, v60]⟩)) 68 (a 9)) 69 v8) 70 (ptr p61 (Nat.add o62 (Nat.mul n65 1)))) 71 v66) 72 v67) 73 (ptr p69 (Nat.add o70 (Nat.mul n73 1)))) 74 (a 9)) 75 v8) 76 (a 9)) 77 v8) 78 (ptr p75 (Nat.add o76 (Nat.mul n79 1)))) 79 v80) 80 (.agg ⟨[(u64 (0)), (u64 (0)), (iN (0)), (u64 (0)), (snil), (.bool false)]⟩)) 81 (.slice (some ⟨p81, 0, none⟩) 1 1)) 82 v83) 83 (ptr p85 (Nat.add o86 (Nat.mul n89 1)))) 84 (a 10)) 85 v8) 86 (ptr p91 (Nat.add o92 (Nat.mul n95 1)))) 87 v96) 88 (a 0)) 89 v8) 90 v97) 13 v97) 91 (a 9)) 92 v8) 93 (ptr p99 (Nat.add o100 (Nat.mul n103 1)))) 94 v104) 95 (a 9)) 96 v8) 97 (ptr p105 (Nat.add o106 (Nat.mul n109 1)))) 98 v110) 99 (iN (l111))) 100 (i64 (Int.sub (Int.ofNat l111) (Int.ofNat 1)))) 101 (a 10)) 102 v8) 103 (ptr p112 (Nat.add o113 (Nat.mul n116 1)))) 104 v117) 105 v117) 106 (ptr p118 (Nat.add o119 33))) 107 (.agg ⟨[v120, v121, v122, v123, v124, v125]⟩)) 108 (ptr p126 (Nat.add o127 (Nat.mul n130 6)))) 109 v97) 110 (a 10)) 111 v8) 112 (ptr p133 (Nat.add o134 (Nat.mul n137 1)))) 24 (a 11)) 25 (i64 (Int.add z139 (Int.ofNat 1)))) 11 (i64 (Int.add z139 (Int.ofNat 1)))) H138))) (
 AsInt .i64 (a 11) fun z140 =>
 InR (Int.add z140 (Int.ofNat 1)) (
 K .normal (upd (upd (upd (upd (upd (upd (upd (upd (upd (upd (upd (upd (upd (upd (upd (upd (upd (upd (upd (upd (upd (upd (upd (upd (upd (upd (upd (upd (upd (upd (upd (upd (upd (upd (upd (upd (upd (upd (upd (upd (upd (upd (upd (upd (upd (upd (upd (upd (upd (upd (upd (upd (upd (upd (upd (upd (upd (upd (upd (upd (upd (upd (upd (upd (upd (upd (upd (upd (upd (upd (upd (upd (upd (upd (upd (upd (upd (upd (upd (upd (upd (upd (upd (upd (upd (upd (upd (upd (upd (upd (upd (upd (upd (upd (upd (upd (upd a 20 (a 11)) 21 (a 3)) 22 (iN (l1))) 23 (.bool (ltZ z2 (Int.ofNat l1)))) 26 (a 3)) 27 (a 11)) 28 (ptr p3 (Nat.add o4 (Nat.mul n7 1)))) 29 v8) 12 v8) 30 v8) 31 (.bool (ltZ z9 (Int.ofNat 0)))) 32 (.bool (ltZ z9 (Int.ofNat 0)))) 32 (.bool false)) 33 v8) 32 (.bool false)) 34 (a 2)) 32 (.bool false)) 35 (iN (l11))) 32 (.bool false)) 36 (.bool (leZ (Int.ofNat l11) z12))) 37 (.bool (leZ (Int.ofNat l11) z12))) 38 (a 10)) 39 v8) 40 (ptr p14 (Nat.add o15 (Nat.mul n18 1)))) 41 v19) 42 (.bool b20)) 43 (a 9)) 44 v8) 45 (ptr p21 (Nat.add o22 (Nat.mul n25 1)))) 46 v26) 47 (iN (l27))) 48 (a 2)) 49 v8) 50 (ptr p28 (Nat.add o29 (Nat.mul n32 1)))) 51 v33) 52 (iN (l34))) 53 (.bool (leZ (Int.ofNat l34) (Int.ofNat l27)))) 54 (a 10)) 55 v8) 56 (.agg ⟨[v38, v39, v40, v41]⟩)) 57 (a 2)) 58 v8) 59 (ptr p42 (Nat.add o43 (Nat.mul n46 1)))) 60 v47) 61 (a 9)) 62 v8) 63 (ptr p48 (Nat.add o49 (Nat.mul n52 1)))) 64 v53) 65 (iN (l54))) 66 (ptr p55 (Nat.add o56 (Nat.mul l54 2)))) 67 (.agg ⟨[v59, v60]⟩)) 68 (a 9)) 69 v8) 70 (ptr p61 (Nat.add o62 (Nat.mul n65 1)))) 71 v66) 72 v67) 73 (ptr p69 (Nat.add o70 (Nat.mul n73 1)))) 74 (a 9)) 75 v8) 76 (a 9)) 77 v8) 78 (ptr p75 (Nat.add o76 (Nat.mul n79 1)))) 79 v80) 80 (.agg ⟨[(u64 (0)), (u64 (0)), (iN (0)), (u64 (0)), (snil), (.bool false)]⟩)) 81 (.slice (some ⟨p81, 0, none⟩) 1 1)) 82 v83) 83 (ptr p85 (Nat.add o86 (Nat.mul n89 1)))) 84 (a 10)) 85 v8) 86 (ptr p91 (Nat.add o92 (Nat.mul n95 1)))) 87 v96) 88 (a 0)) 89 v8) 90 v97) 13 v97) 91 (a 9)) 92 v8) 93 (ptr p99 (Nat.add o100 (Nat.mul n103 1)))) 94 v104) 95 (a 9)) 96 v8) 97 (ptr p105 (Nat.add o106 (Nat.mul n109 1)))) 98 v110) 99 (iN (l111))) 100 (i64 (Int.sub (Int.ofNat l111) (Int.ofNat 1)))) 101 (a 10)) 102 v8) 103 (ptr p112 (Nat.add o113 (Nat.mul n116 1)))) 104 v117) 105 v117) 106 (ptr p118 (Nat.add o119 33))) 107 (.agg ⟨[v120, v121, v122, v123, v124, v125]⟩)) 108 (ptr p126 (Nat.add o127 (Nat.mul n130 6)))) 109 v97) 24 (a 11)) 25 (i64 (Int.add z140 (Int.ofNat 1)))) 11 (i64 (Int.add z140 (Int.ofNat 1)))) H131)))))))))))))))))))))) (
 AsSlc (a 10) fun p141 o142 l143 c144 =>
 AsCnt v8 fun n145 =>
 Must (ltN n145 l143) (
 Ld H p141 (Nat.add o142 (Nat.mul n145 1)) fun v146 =>
 Call1 Tryz.prog con 25 [v146, (a 0), v8] H fun v147 H148 =>
 AsSlc (a 9) fun p149 o150 l151 c152 =>
 AsCnt v8 fun n153 =>
 Must (ltN n153 l151) (
 Ld H148 p149 (Nat.add o150 (Nat.mul n153 1)) fun v154 =>
 AsSlc (a 9) fun p155 o156 l157 c158 =>
 AsCnt v8 fun n159 =>
 Must (ltN n159 l157) (
 Ld H148 p155 (Nat.add o156 (Nat.mul n159 1)) fun v160 =>
 AsLen v160 fun l161 =>
 InR (Int.sub (Int.ofNat l161) (Int.ofNat 1)) (
 AsSlc (a 10) fun p162 o163 l164 c165 =>
 AsCnt v8 fun n166 =>
 Must (ltN n166 l164) (
 Ld H148 p162 (Nat.add o163 (Nat.mul n166 1)) fun v167 =>
 NotNil Tryz.prog v167 (
 AsPtr v167 fun p168 o169 =>
 Ld H148 p168 (Nat.add (Nat.add o169 33) 0) fun v170 =>
 Ld H148 p168 (Nat.add (Nat.add o169 33) 1) fun v171 =>
 Ld H148 p168 (Nat.add (Nat.add o169 33) 2) fun v172 =>
 Ld H148 p168 (Nat.add (Nat.add o169 33) 3) fun v173 =>
 Ld H148 p168 (Nat.add (Nat.add o169 33) 4) fun v174 =>
 Ld H148 p168 (Nat.add (Nat.add o169 33) 5) fun v175 =>
 AsSlc v154 fun p176 o177 l178 c179 =>
 AsCnt (i64 (Int.sub (Int.ofNat l161) (Int.ofNat 1))) fun n180 =>
 Must (ltN n180 l178) (
 St H148 p176 (Nat.add o177 (Nat.mul n180 6)) [v170, v171, v172, v173, v174, v175] fun H181 =>
 AsBool v147 fun b182 =>
 Cd b182 (
 AsSlc (a 10) fun p183 o184 l185 c186 =>
 AsCnt v8 fun n187 =>
 Must (ltN n187 l185) (
 St H181 p183 (Nat.add o184 (Nat.mul n187 1)) [(.pointer none)] fun H188 =>
 AsInt .i64 (a 11) fun z189 =>
 InR (Int.add z189 (Int.ofNat 1)) (
 K .normal (upd (upd (upd (upd (upd (upd (upd (upd (upd (upd (upd (upd (upd (upd (upd (upd (upd (upd (upd (upd (upd (upd (upd (upd (upd (upd (upd (upd (upd (upd (upd (upd (upd (upd (upd (upd (upd (upd (upd (upd (upd (upd (upd (upd (upd (upd (upd (upd (upd (upd (upd (upd (upd (upd (upd (upd (upd (upd (upd a 20 (a 11)) 21 (a 3)) 22 (iN (l1))) 23 (.bool (ltZ z2 (Int.ofNat l1)))) 26 (a 3)) 27 (a 11)) 28 (ptr p3 (Nat.add o4 (Nat.mul n7 1)))) 29 v8) 12 v8) 30 v8) 31 (.bool (ltZ z9 (Int.ofNat 0)))) 32 (.bool (ltZ z9 (Int.ofNat 0)))) 32 (.bool false)) 33 v8) 32 (.bool false)) 34 (a 2)) 32 (.bool false)) 35 (iN (l11))) 32 (.bool false)) 36 (.bool (leZ (Int.ofNat l11) z12))) 37 (.bool (leZ (Int.ofNat l11) z12))) 38 (a 10)) 39 v8) 40 (ptr p14 (Nat.add o15 (Nat.mul n18 1)))) 41 v19) 42 (.bool b20)) 84 (a 10)) 85 v8) 86 (ptr p141 (Nat.add o142 (Nat.mul n145 1)))) 87 v146) 88 (a 0)) 89 v8) 90 v147) 13 v147) 91 (a 9)) 92 v8) 93 (ptr p149 (Nat.add o150 (Nat.mul n153 1)))) 94 v154) 95 (a 9)) 96 v8) 97 (ptr p155 (Nat.add o156 (Nat.mul n159 1)))) 98 v160) 99 (iN (l161))) 100 (i64 (Int.sub (Int.ofNat l161) (Int.ofNat 1)))) 101 (a 10)) 102 v8) 103 (ptr p162 (Nat.add o163 (Nat.mul n166 1)))) 104 v167) 105 v167) 106 (ptr p168 (Nat.add o169 33))) 107 (.agg ⟨[v170, v171, v172, v173, v174, v175]⟩)) 108 (ptr p176 (Nat.add o177 (Nat.mul n180 6)))) 109 v147) 110 (a 10)) 111 v8) 112 (ptr p183 (Nat.add o184 (Nat.mul n187 1)))) 24 (a 11)) 25 (i64 (Int.add z189 (Int.ofNat 1)))) 11 (i64 (Int.add z189 (Int.ofNat 1)))) H188))) (
 AsInt .i64 (a 11) fun z190 =>
 InR (Int.add z190 (Int.ofNat 1)) (
 K .normal (upd (upd (upd (upd (upd (upd (upd (upd (upd (upd (upd (upd (upd (upd (upd (upd (upd (upd (upd (upd (upd (upd (upd (upd (upd (upd (upd (upd (upd (upd (upd (upd (upd (upd (upd (upd (upd (upd (upd (upd (upd (upd (upd (upd (upd (upd (upd (upd (upd (upd (upd (upd (upd (upd (upd (upd a 20 (a 11)) 21 (a 3)) 22 (iN (l1))) 23 (.bool (ltZ z2 (Int.ofNat l1)))) 26 (a 3)) 27 (a 11)) 28 (ptr p3 (Nat.add o4 (Nat.mul n7 1)))) 29 v8) 12 v8) 30 v8) 31 (.bool (ltZ z9 (Int.ofNat 0)))) 32 (.bool (ltZ z9 (Int.ofNat 0)))) 32 (.bool false)) 33 v8) 32 (.bool false)) 34 (a 2)) 32 (.bool false)) 35 (iN (l11))) 32 (.bool false)) 36 (.bool (leZ (Int.ofNat l11) z12))) 37 (.bool (leZ (Int.ofNat l11) z12))) 38 (a 10)) 39 v8) 40 (ptr p14 (Nat.add o15 (Nat.mul n18 1)))) 41 v19) 42 (.bool b20)) 84 (a 10)) 85 v8) 86 (ptr p141 (Nat.add o142 (Nat.mul n145 1)))) 87 v146) 88 (a 0)) 89 v8) 90 v147) 13 v147) 91 (a 9)) 92 v8) 93 (ptr p149 (Nat.add o150 (Nat.mul n153 1)))) 94 v154) 95 (a 9)) 96 v8) 97 (ptr p155 (Nat.add o156 (Nat.mul n159 1)))) 98 v160) 99 (iN (l161))) 100 (i64 (Int.sub (Int.ofNat l161) (Int.ofNat 1)))) 101 (a 10)) 102 v8) 103 (ptr p162 (Nat.add o163 (Nat.mul n166 1)))) 104 v167) 105 v167) 106 (ptr p168 (Nat.add o169 33))) 107 (.agg ⟨[v170, v171, v172, v173, v174, v175]⟩)) 108 (ptr p176 (Nat.add o177 (Nat.mul n180 6)))) 109 v147) 24 (a 11)) 25 (i64 (Int.add z190 (Int.ofNat 1)))) 11 (i64 (Int.add z190 (Int.ofNat 1)))) H181))))))))))))))) (
 K (.exit 0) (upd (upd (upd (upd a 20 (a 11)) 21 (a 3)) 22 (iN (l1))) 23 (.bool (ltZ z2 (Int.ofNat l1)))) H)) := by kernel_rfl
theorem annPlays_W (con : CallT) (n : Int) (most : Nat) (v w : Value) (H : CH) (K : KP) : funW Tryz.prog con 5 [.agg ⟨[i64 n, u64 most, v, w]⟩] H K =
 (Nw H (mkRow 93 0 [(i64 n), (u64 (most)), v, w]) fun p1 H2 =>
 Ld H2 p1 0 fun v3 =>
 Ld H2 p1 1 fun v4 =>
 Ld H2 p1 2 fun v5 =>
 Ld H2 p1 3 fun v6 =>
 Call1 Tryz.prog con 32 [(.agg ⟨[v3, v4, v5, v6]⟩)] H2 fun v7 H8 =>
 AsTup v7 fun l9 =>
 Nth l9 0 fun v10 =>
 AsTup v7 fun l11 =>
 Nth l11 1 fun v12 =>
 AsTup v7 fun l13 =>
 Nth l13 2 fun v14 =>
 Nw H8 (mkRow 61 0 [(u64 (0)), (u64 (0)), (iN (0)), (u64 (0))]) fun p15 H16 =>
 AsAgg v12 fun l17 =>
 Must (eqN (lenF l17) 4) (
 Nth l17 0 fun v18 =>
 Nth l17 1 fun v19 =>
 Nth l17 2 fun v20 =>
 Nth l17 3 fun v21 =>
 St H16 p15 0 [v18, v19, v20, v21] fun H22 =>
 Call1 Tryz.prog con 28 [] H22 fun v23 H24 =>
 AsBool v23 fun b25 =>
 Cd (notB b25) (
 K (.bool false) H24) (
 Ld H24 p1 0 fun v26 =>
 Ld H24 p1 1 fun v27 =>
 Ld H24 p1 2 fun v28 =>
 Ld H24 p1 3 fun v29 =>
 Call1 Tryz.prog con 33 [(.agg ⟨[v26, v27, v28, v29]⟩)] H24 fun v30 H31 =>
 AsBool v14 fun b32 =>
 AsBool v30 fun b33 =>
 Cd (notB (eqB b32 b33)) (
 K (.bool false) H31) (
 AsBool v14 fun b34 =>
 Cd (notB b34) (
 Ld H31 p15 0 fun v35 =>
 Ld H31 p15 1 fun v36 =>
 Ld H31 p15 2 fun v37 =>
 Ld H31 p15 3 fun v38 =>
 OpN Tryz.prog H31 (upd (upd (upd (upd (upd (upd (upd (upd (upd (upd (upd (upd (upd (upd (upd (upd (upd (upd (upd (upd (upd (upd (upd (upd (upd (upd (upd (upd (fun _ => undV) 0 (.agg ⟨[(i64 n), (u64 (most)), v, w]⟩)) 1 (ptr p1 0)) 2 (.bool false)) 16 (.agg ⟨[v3, v4, v5, v6]⟩)) 17 v7) 15 v7) 18 v10) 19 v12) 20 v14) 4 (ptr p15 0)) 3 v10) 5 v14) 21 v23) 22 (.bool (notB b25))) 23 (.bool (notB b25))) 23 (.bool false)) 24 v14) 23 (.bool false)) 25 (.agg ⟨[v26, v27, v28, v29]⟩)) 23 (.bool false)) 26 v30) 23 (.bool false)) 27 (.bool (notB (eqB b32 b33)))) 28 (.bool (notB (eqB b32 b33)))) 29 v14) 30 (.bool (notB b34))) 31 (.agg ⟨[v35, v36, v37, v38]⟩)) 32 (.agg ⟨[(u64 (0)), (u64 (0)), (iN (0)), (u64 (0))]⟩)) (.binOp .eql 61 (.tmp 31) (.tmp 32) 61) fun v39 H40 =>
 K v39 H40) (
 Call1 Tryz.prog con 9 [(iN (4096)), (.bool false)] H31 fun v41 H42 =>
 AsTup v41 fun l43 =>
 Nth l43 0 fun v44 =>
 AsTup v41 fun l45 =>
 Nth l45 1 fun v46 =>
 Nw H42 (mkRow 32 0 [(u64 (1))]) fun p47 H48 =>
 Call1 Tryz.prog con 12 [v44, (i64 (Int.negSucc 0)), (.slice (some ⟨p47, 0, none⟩) 1 1)] H48 fun v49 H50 =>
 Ld H50 p1 0 fun v51 =>
 Ld H50 p1 1 fun v52 =>
 Call1 Tryz.prog con 34 [v44, (i64 (Int.negSucc 0)), (u64 (1)), v51, v52] H50 fun v53 H54 =>
 AsTup v53 fun l55 =>
 Nth l55 0 fun v56 =>
 AsTup v53 fun l57 =>
 Nth l57 1 fun v58 =>
 Nw H54 (mkRow 61 0 [(u64 (0)), (u64 (0)), (iN (0)), (u64 (0))]) fun p59 H60 =>
 AsAgg v56 fun l61 =>
 Must (eqN (lenF l61) 4) (
 Nth l61 0 fun v62 =>
 Nth l61 1 fun v63 =>
 Nth l61 2 fun v64 =>
 Nth l61 3 fun v65 =>
 St H60 p59 0 [v62, v63, v64, v65] fun H66 =>
 Ld H66 p15 0 fun v67 =>
 Ld H66 p15 1 fun v68 =>
 Ld H66 p15 2 fun v69 =>
 Ld H66 p15 3 fun v70 =>
 Ld H66 p1 0 fun v71 =>
 Ld H66 p1 1 fun v72 =>
 Ld H66 p1 2 fun v73 =>
 Ld H66 p1 3 fun v74 =>
 Call1 Tryz.prog con 35 [v10, (.agg ⟨[v67, v68, v69, v70]⟩), (.agg ⟨[v71, v72, v73, v74]⟩)] H66 fun v75 H76 =>
 AsTup v75 fun l77 =>
 Nth l77 0 fun v78 =>
 AsTup v75 fun l79 =>
 Nth l79 1 fun v80 =>
 Ld H76 p59 0 fun v81 =>
 Ld H76 p59 1 fun v82 =>
 Ld H76 p59 2 fun v83 =>
 Ld H76 p59 3 fun v84 =>
 Ld H76 p1 2 fun v85 =>
 Ld H76 p1 3 fun v86 =>
 Call1 Tryz.prog con 36 [v44, (.agg ⟨[v81, v82, v83, v84]⟩), v85, v86] H76 fun v87 H88 =>
 Ld H88 p15 0 fun v89 =>
 Ld H88 p15 1 fun v90 =>
 Ld H88 p15 2 fun v91 =>
 Ld H88 p15 3 fun v92 =>
 Ld H88 p59 0 fun v93 =>
 Ld H88 p59 1 fun v94 =>
 Ld H88 p59 2 fun v95 =>
 Ld H88 p59 3 fun v96 =>
 OpN Tryz.prog H88 (upd (upd (upd (upd (upd (upd (upd (upd (upd (upd (upd (upd (upd (upd (upd (upd (upd (upd (upd (upd (upd (upd (upd (upd (upd (upd (upd (upd (upd (upd (upd (upd (upd (upd (upd (upd (upd (upd (upd (upd (upd (upd (upd (upd (upd (upd (upd (upd (upd (upd (upd (upd (upd (upd (upd (upd (upd (upd (upd (upd (upd (upd (upd (upd (upd (fun _ => undV) 0 (.agg ⟨[(i64 n), (u64 (most)), v, w]⟩)) 1 (ptr p1 0)) 2 (.bool false)) 16 (.agg ⟨[v3, v4, v5, v6]⟩)) 17 v7) 15 v7) 18 v10) 19 v12) 20 v14) 4 (ptr p15 0)) 3 v10) 5 v14) 21 v23) 22 (.bool (notB b25))) 23 (.bool (notB b25))) 23 (.bool false)) 24 v14) 23 (.bool false)) 25 (.agg ⟨[v26, v27, v28, v29]⟩)) 23 (.bool false)) 26 v30) 23 (.bool false)) 27 (.bool (notB (eqB b32 b33)))) 28 (.bool (notB (eqB b32 b33)))) 29 v14) 30 (.bool (notB b34))) 35 v41) 34 v41) 36 v44) 37 v46) 6 v44) 7 v46) 38 v44) 39 (.slice (some ⟨p47, 0, none⟩) 1 1)) 40 v49) 42 v44) 43 (ptr p1 0)) 44 v51) 45 (ptr p1 1)) 46 v52) 47 v53) 41 v53) 48 v56) 49 v58) 8 (ptr p59 0)) 9 v58) 51 v10) 52 (.agg ⟨[v67, v68, v69, v70]⟩)) 53 (.agg ⟨[v71, v72, v73, v74]⟩)) 54 v75) 50 v75) 55 v78) 56 v80) 10 v78) 11 v80) 57 v44) 58 (.agg ⟨[v81, v82, v83, v84]⟩)) 59 (ptr p1 2)) 60 v85) 61 (ptr p1 3)) 62 v86) 63 v87) 12 v87) 64 (.agg ⟨[v89, v90, v91, v92]⟩)) 65 (.agg ⟨[v93, v94, v95, v96]⟩)) (.binOp .neq 61 (.tmp 64) (.tmp 65) 61) fun v97 H98 =>
 AsWant v97 (False) fun b99 =>
 Cd b99 (
 K (.bool false) H98) (
 AsLen v78 fun l100 =>
 AsLen v87 fun l101 =>
 Cd (notB (eqZ (Int.ofNat l100) (Int.ofNat l101))) (
 K (.bool false) H98) (
 LoopC Tryz.prog con (lpAt Tryz.prog 5 0) (upd (upd (upd (upd (upd (upd (upd (upd (upd (upd (upd (upd (upd (upd (upd (upd (upd (upd (upd (upd (upd (upd (upd (upd (upd (upd (upd (upd (upd (upd (upd (upd (upd (upd (upd (upd (upd (upd (upd (upd (upd (upd (upd (upd (upd (upd (upd (upd (upd (upd (upd (upd (upd (upd (upd (upd (upd (upd (upd (upd (upd (upd (upd (upd (upd (upd (upd (upd (upd (upd (upd (upd (upd (upd (upd (upd (upd (upd (upd (fun _ => undV) 0 (.agg ⟨[(i64 n), (u64 (most)), v, w]⟩)) 1 (ptr p1 0)) 2 (.bool false)) 16 (.agg ⟨[v3, v4, v5, v6]⟩)) 17 v7) 15 v7) 18 v10) 19 v12) 20 v14) 4 (ptr p15 0)) 3 v10) 5 v14) 21 v23) 22 (.bool (notB b25))) 23 (.bool (notB b25))) 23 (.bool false)) 24 v14) 23 (.bool false)) 25 (.agg ⟨[v26, v27, v28, v29]⟩)) 23 (.bool false)) 26 v30) 23 (.bool false)) 27 (.bool (notB (eqB b32 b33)))) 28 (.bool (notB (eqB b32 b33)))) 29 v14) 30 (.bool (notB b34))) 35 v41) 34 v41) 36 v44) 37 v46) 6 v44) 7 v46) 38 v44) 39 (.slice (some ⟨p47, 0, none⟩) 1 1)) 40 v49) 42 v44) 43 (ptr p1 0)) 44 v51) 45 (ptr p1 1)) 46 v52) 47 v53) 41 v53) 48 v56) 49 v58) 8 (ptr p59 0)) 9 v58) 51 v10) 52 (.agg ⟨[v67, v68, v69, v70]⟩)) 53 (.agg ⟨[v71, v72, v73, v74]⟩)) 54 v75) 50 v75) 55 v78) 56 v80) 10 v78) 11 v80) 57 v44) 58 (.agg ⟨[v81, v82, v83, v84]⟩)) 59 (ptr p1 2)) 60 v85) 61 (ptr p1 3)) 62 v86) 63 v87) 12 v87) 64 (.agg ⟨[v89, v90, v91, v92]⟩)) 65 (.agg ⟨[v93, v94, v95, v96]⟩)) 66 v97) 67 v97) 67 (.bool false)) 68 v78) 67 (.bool false)) 69 (iN (l100))) 67 (.bool false)) 70 v87) 67 (.bool false)) 71 (iN (l101))) 67 (.bool false)) 72 (.bool (notB (eqZ (Int.ofNat l100) (Int.ofNat l101))))) 73 (.bool (notB (eqZ (Int.ofNat l100) (Int.ofNat l101))))) 13 (iN (0))) H98 (fun e => ceP e
 (fun a102 H103 =>
 Call1 Tryz.prog con 19 [(a102 3)] H103 fun v105 H106 =>
 NotNil Tryz.prog (a102 6) (
 AsPtr (a102 6) fun p107 o108 =>
 Ld H106 p107 (Nat.add o108 2) fun v109 =>
 Call1 Tryz.prog con 18 [v105, v109] H106 fun v110 H111 =>
 AsWant v110 (False) fun b112 =>
 Cd b112 (
 AsPtr (a102 4) fun p113 o114 =>
 Ld H111 p113 (Nat.add o114 0) fun v115 =>
 Ld H111 p113 (Nat.add o114 1) fun v116 =>
 Ld H111 p113 (Nat.add o114 2) fun v117 =>
 Ld H111 p113 (Nat.add o114 3) fun v118 =>
 Call1 Tryz.prog con 30 [(a102 3), (.agg ⟨[v115, v116, v117, v118]⟩)] H111 fun v119 H120 =>
 AsPtr (a102 8) fun p121 o122 =>
 Ld H120 p121 (Nat.add o122 0) fun v123 =>
 Ld H120 p121 (Nat.add o122 1) fun v124 =>
 Ld H120 p121 (Nat.add o122 2) fun v125 =>
 Ld H120 p121 (Nat.add o122 3) fun v126 =>
 Call1 Tryz.prog con 31 [(a102 6), (.agg ⟨[v123, v124, v125, v126]⟩)] H120 fun v127 H128 =>
 Call1 Tryz.prog con 29 [v119, v127] H128 fun v129 H130 =>
 AsPtr (a102 8) fun p131 o132 =>
 Ld H111 p131 (Nat.add o132 0) fun v133 =>
 Ld H111 p131 (Nat.add o132 1) fun v134 =>
 Ld H111 p131 (Nat.add o132 2) fun v135 =>
 Ld H111 p131 (Nat.add o132 3) fun v136 =>
 Same (.agg ⟨[v123, v124, v125, v126]⟩) (.agg ⟨[v133, v134, v135, v136]⟩) (
 AsPtr (a102 8) fun p137 o138 =>
 Ld H120 p137 (Nat.add o138 0) fun v139 =>
 Ld H120 p137 (Nat.add o138 1) fun v140 =>
 Ld H120 p137 (Nat.add o138 2) fun v141 =>
 Ld H120 p137 (Nat.add o138 3) fun v142 =>
 Same (.agg ⟨[v123, v124, v125, v126]⟩) (.agg ⟨[v139, v140, v141, v142]⟩) (
 Ld H103 p107 (Nat.add o108 2) fun v143 =>
 Same v109 v143 (
 Ld H106 p107 (Nat.add o108 2) fun v144 =>
 Same v109 v144 (
 K v129 H130))))) (
 Ld H103 p107 (Nat.add o108 2) fun v145 =>
 Same v109 v145 (
 Ld H106 p107 (Nat.add o108 2) fun v146 =>
 Same v109 v146 (
 K (.bool false) H111)))))
 (fun i104 => fun a102 H103 =>
 Cd (eqN i104 0) (
 Call1 Tryz.prog con 19 [(a102 3)] H103 fun v147 H148 =>
 NotNil Tryz.prog (a102 6) (
 AsPtr (a102 6) fun p149 o150 =>
 Ld H148 p149 (Nat.add o150 2) fun v151 =>
 Call1 Tryz.prog con 18 [v147, v151] H148 fun v152 H153 =>
 AsWant v152 (False) fun b154 =>
 Cd b154 (
 AsPtr (a102 4) fun p155 o156 =>
 Ld H153 p155 (Nat.add o156 0) fun v157 =>
 Ld H153 p155 (Nat.add o156 1) fun v158 =>
 Ld H153 p155 (Nat.add o156 2) fun v159 =>
 Ld H153 p155 (Nat.add o156 3) fun v160 =>
 Call1 Tryz.prog con 30 [(a102 3), (.agg ⟨[v157, v158, v159, v160]⟩)] H153 fun v161 H162 =>
 AsPtr (a102 8) fun p163 o164 =>
 Ld H162 p163 (Nat.add o164 0) fun v165 =>
 Ld H162 p163 (Nat.add o164 1) fun v166 =>
 Ld H162 p163 (Nat.add o164 2) fun v167 =>
 Ld H162 p163 (Nat.add o164 3) fun v168 =>
 Call1 Tryz.prog con 31 [(a102 6), (.agg ⟨[v165, v166, v167, v168]⟩)] H162 fun v169 H170 =>
 Call1 Tryz.prog con 29 [v161, v169] H170 fun v171 H172 =>
 AsPtr (a102 8) fun p173 o174 =>
 Ld H153 p173 (Nat.add o174 0) fun v175 =>
 Ld H153 p173 (Nat.add o174 1) fun v176 =>
 Ld H153 p173 (Nat.add o174 2) fun v177 =>
 Ld H153 p173 (Nat.add o174 3) fun v178 =>
 Same (.agg ⟨[v165, v166, v167, v168]⟩) (.agg ⟨[v175, v176, v177, v178]⟩) (
 AsPtr (a102 8) fun p179 o180 =>
 Ld H162 p179 (Nat.add o180 0) fun v181 =>
 Ld H162 p179 (Nat.add o180 1) fun v182 =>
 Ld H162 p179 (Nat.add o180 2) fun v183 =>
 Ld H162 p179 (Nat.add o180 3) fun v184 =>
 Same (.agg ⟨[v165, v166, v167, v168]⟩) (.agg ⟨[v181, v182, v183, v184]⟩) (
 Ld H103 p149 (Nat.add o150 2) fun v185 =>
 Same v151 v185 (
 Ld H148 p149 (Nat.add o150 2) fun v186 =>
 Same v151 v186 (
 K v171 H172))))) (
 Ld H103 p149 (Nat.add o150 2) fun v187 =>
 Same v151 v187 (
 Ld H148 p149 (Nat.add o150 2) fun v188 =>
 Same v151 v188 (
 K (.bool false) H153))))) (
 False))
 (fun a102 H103 =>
 K (a102 2) H103)))))))))) := by kernel_rfl
theorem annPlaysA_W (con : CallT) (a : TF) (H : CH) (K : KX) : codeW (lpAt Tryz.prog 5 0) Tryz.prog con a H K =
 (AsLen (a 10) fun l1 =>
 AsInt .i64 (a 13) fun z2 =>
 Cd (ltZ z2 (Int.ofNat l1)) (
 AsSlc (a 10) fun p3 o4 l5 c6 =>
 AsCnt (a 13) fun n7 =>
 Must (ltN n7 l5) (
 Ld H p3 (Nat.add o4 (Nat.mul n7 1)) fun v8 =>
 AsLen v8 fun l9 =>
 AsSlc (a 12) fun p10 o11 l12 c13 =>
 AsCnt (a 13) fun n14 =>
 Must (ltN n14 l12) (
 Ld H p10 (Nat.add o11 (Nat.mul n14 1)) fun v15 =>
 AsLen v15 fun l16 =>
 Cd (notB (eqZ (Int.ofNat l9) (Int.ofNat l16))) (
 K .ret (upd (upd (upd (upd (upd (upd (upd (upd (upd (upd (upd (upd (upd (upd (upd (upd a 74 (a 13)) 75 (a 10)) 76 (iN (l1))) 77 (.bool (ltZ z2 (Int.ofNat l1)))) 80 (a 10)) 81 (a 13)) 82 (ptr p3 (Nat.add o4 (Nat.mul n7 1)))) 83 v8) 84 (iN (l9))) 85 (a 12)) 86 (a 13)) 87 (ptr p10 (Nat.add o11 (Nat.mul n14 1)))) 88 v15) 89 (iN (l16))) 90 (.bool (notB (eqZ (Int.ofNat l9) (Int.ofNat l16))))) 2 (.bool false)) H) (
 LoopC Tryz.prog con (lpAt Tryz.prog 5 1) (upd (upd (upd (upd (upd (upd (upd (upd (upd (upd (upd (upd (upd (upd (upd (upd a 74 (a 13)) 75 (a 10)) 76 (iN (l1))) 77 (.bool (ltZ z2 (Int.ofNat l1)))) 80 (a 10)) 81 (a 13)) 82 (ptr p3 (Nat.add o4 (Nat.mul n7 1)))) 83 v8) 84 (iN (l9))) 85 (a 12)) 86 (a 13)) 87 (ptr p10 (Nat.add o11 (Nat.mul n14 1)))) 88 v15) 89 (iN (l16))) 90 (.bool (notB (eqZ (Int.ofNat l9) (Int.ofNat l16))))) 14 (iN (0))) H (fun e => ceP e
 (fun a17 H18 =>
 AsInt .i64 (a17 13) fun z20 =>
 InR (Int.add z20 (Int.ofNat 1)) (
 K .normal (upd (upd (upd a17 78 (a17 13)) 79 (i64 (Int.add z20 (Int.ofNat 1)))) 13 (i64 (Int.add z20 (Int.ofNat 1)))) H18))
 (fun i19 => fun a17 H18 =>
 Cd (eqN i19 2) (
 AsInt .i64 (a17 13) fun z21 =>
 InR (Int.add z21 (Int.ofNat 1)) (
 K .normal (upd (upd (upd a17 78 (a17 13)) 79 (i64 (Int.add z21 (Int.ofNat 1)))) 13 (i64 (Int.add z21 (Int.ofNat 1)))) H18)) (
 Cd (eqN i19 1) (
 AsInt .i64 (a17 13) fun z22 =>
 InR (Int.add z22 (Int.ofNat 1)) (
 K .normal (upd (upd (upd a17 78 (a17 13)) 79 (i64 (Int.add z22 (Int.ofNat 1)))) 13 (i64 (Int.add z22 (Int.ofNat 1)))) H18)) (
 K (.exit i19) a17 H18)))
 (fun a17 H18 =>
 K .ret a17 H18)))))) (
 K (.exit 0) (upd (upd (upd (upd a 74 (a 13)) 75 (a 10)) 76 (iN (l1))) 77 (.bool (ltZ z2 (Int.ofNat l1)))) H)) := by kernel_rfl
theorem annPlaysB_W (con : CallT) (a : TF) (H : CH) (K : KX) : codeW (lpAt Tryz.prog 5 1) Tryz.prog con a H K =
 (AsSlc (a 10) fun p1 o2 l3 c4 =>
 AsCnt (a 13) fun n5 =>
 Must (ltN n5 l3) (
 Ld H p1 (Nat.add o2 (Nat.mul n5 1)) fun v6 =>
 AsLen v6 fun l7 =>
 AsInt .i64 (a 14) fun z8 =>
 Cd (ltZ z8 (Int.ofNat l7)) (
 AsSlc (a 10) fun p9 o10 l11 c12 =>
 AsCnt (a 13) fun n13 =>
 Must (ltN n13 l11) (
 Ld H p9 (Nat.add o10 (Nat.mul n13 1)) fun v14 =>
 AsSlc v14 fun p15 o16 l17 c18 =>
 AsCnt (a 14) fun n19 =>
 Must (ltN n19 l17) (
 Ld H p15 (Nat.add (Nat.add o16 (Nat.mul n19 6)) 0) fun v20 =>
 Ld H p15 (Nat.add (Nat.add o16 (Nat.mul n19 6)) 1) fun v21 =>
 Ld H p15 (Nat.add (Nat.add o16 (Nat.mul n19 6)) 2) fun v22 =>
 Ld H p15 (Nat.add (Nat.add o16 (Nat.mul n19 6)) 3) fun v23 =>
 Ld H p15 (Nat.add (Nat.add o16 (Nat.mul n19 6)) 4) fun v24 =>
 Ld H p15 (Nat.add (Nat.add o16 (Nat.mul n19 6)) 5) fun v25 =>
 AsSlc (a 12) fun p26 o27 l28 c29 =>
 AsCnt (a 13) fun n30 =>
 Must (ltN n30 l28) (
 Ld H p26 (Nat.add o27 (Nat.mul n30 1)) fun v31 =>
 AsSlc v31 fun p32 o33 l34 c35 =>
 AsCnt (a 14) fun n36 =>
 Must (ltN n36 l34) (
 Ld H p32 (Nat.add (Nat.add o33 (Nat.mul n36 6)) 0) fun v37 =>
 Ld H p32 (Nat.add (Nat.add o33 (Nat.mul n36 6)) 1) fun v38 =>
 Ld H p32 (Nat.add (Nat.add o33 (Nat.mul n36 6)) 2) fun v39 =>
 Ld H p32 (Nat.add (Nat.add o33 (Nat.mul n36 6)) 3) fun v40 =>
 Ld H p32 (Nat.add (Nat.add o33 (Nat.mul n36 6)) 4) fun v41 =>
 Ld H p32 (Nat.add (Nat.add o33 (Nat.mul n36 6)) 5) fun v42 =>
 Call1 Tryz.prog con 26 [(.agg ⟨[v20, v21, v22, v23, v24, v25]⟩), (.agg ⟨[v37, v38, v39, v40, v41, v42]⟩)] H fun v43 H44 =>
 AsBool v43 fun b45 =>
 Cd (notB b45) (
 K .ret (upd (upd (upd (upd (upd (upd (upd (upd (upd (upd (upd (upd (upd (upd (upd (upd (upd (upd (upd (upd (upd (upd (upd (upd a 91 (a 14)) 92 (a 10)) 93 (a 13)) 94 (ptr p1 (Nat.add o2 (Nat.mul n5 1)))) 95 v6) 96 (iN (l7))) 97 (.bool (ltZ z8 (Int.ofNat l7)))) 100 (a 10)) 101 (a 13)) 102 (ptr p9 (Nat.add o10 (Nat.mul n13 1)))) 103 v14) 104 (a 14)) 105 (ptr p15 (Nat.add o16 (Nat.mul n19 6)))) 106 (.agg ⟨[v20, v21, v22, v23, v24, v25]⟩)) 107 (a 12)) 108 (a 13)) 109 (ptr p26 (Nat.add o27 (Nat.mul n30 1)))) 110 v31) 111 (a 14)) 112 (ptr p32 (Nat.add o33 (Nat.mul n36 6)))) 113 (.agg ⟨[v37, v38, v39, v40, v41, v42]⟩)) 114 v43) 115 (.bool (notB b45))) 2 (.bool false)) H44) (
 AsInt .i64 (a 14) fun z46 =>
 InR (Int.add z46 (Int.ofNat 1)) (
 K .normal (upd (upd (upd (upd (upd (upd (upd (upd (upd (upd (upd (upd (upd (upd (upd (upd (upd (upd (upd (upd (upd (upd (upd (upd (upd (upd a 91 (a 14)) 92 (a 10)) 93 (a 13)) 94 (ptr p1 (Nat.add o2 (Nat.mul n5 1)))) 95 v6) 96 (iN (l7))) 97 (.bool (ltZ z8 (Int.ofNat l7)))) 100 (a 10)) 101 (a 13)) 102 (ptr p9 (Nat.add o10 (Nat.mul n13 1)))) 103 v14) 104 (a 14)) 105 (ptr p15 (Nat.add o16 (Nat.mul n19 6)))) 106 (.agg ⟨[v20, v21, v22, v23, v24, v25]⟩)) 107 (a 12)) 108 (a 13)) 109 (ptr p26 (Nat.add o27 (Nat.mul n30 1)))) 110 v31) 111 (a 14)) 112 (ptr p32 (Nat.add o33 (Nat.mul n36 6)))) 113 (.agg ⟨[v37, v38, v39, v40, v41, v42]⟩)) 114 v43) 115 (.bool (notB b45))) 98 (a 14)) 99 (i64 (Int.add z46 (Int.ofNat 1)))) 14 (i64 (Int.add z46 (Int.ofNat 1)))) H44))))))) (
 K (.exit 2) (upd (upd (upd (upd (upd (upd (upd a 91 (a 14)) 92 (a 10)) 93 (a 13)) 94 (ptr p1 (Nat.add o2 (Nat.mul n5 1)))) 95 v6) 96 (iN (l7))) 97 (.bool (ltZ z8 (Int.ofNat l7)))) H))) := by kernel_rfl
end Go.Proofs.YtipbbnoepphdkaaGreat

