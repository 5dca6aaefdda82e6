/- What some functions' texts ask for, step by step, each checked by the kernel. No conditions. -/
import Derived.Test.YtnkbmaccgifeoaaGreatProg
import Derived.Test.YtnkbmaccgifeoaaGreatCmE
set_option linter.unusedVariables false
set_option linter.unusedSimpArgs false

/- What some functions' texts ask for,step by step,each checked by the kernel. No conditions. -/
set_option linter.unusedVariables false
set_option maxRecDepth 100000
namespace Go.Proofs.YtnkbmaccgifeoaaGreat
open Go Go.CM
theorem byAddr_W (con : CallT) (a1 a2 a3 b1 b2 b3 : Nat) (H : CH) (K : KP) : funW Tryz.prog con 98 [.agg ⟨[u64 a1,u64 a2,u64 a3]⟩,.agg ⟨[u64 b1,u64 b2,u64 b3]⟩] H K =
 (Nw H (mkRow 142 0 [(u64 (a1)),(u64 (a2)),(u64 (a3))]) fun p1 H2 =>
 Nw H2 (mkRow 142 0 [(u64 (b1)),(u64 (b2)),(u64 (b3))]) fun p3 H4 =>
 Ld H4 p1 0 fun v5 =>
 Ld H4 p3 0 fun v6 =>
 Call1 Tryz.prog con 99 [v5,v6] H4 fun v7 H8 =>
 K v7 H8) := by kernel_rfl
theorem cmpCompare_W (con : CallT) (x y : Nat) (H : CH) (K : KP) : funW Tryz.prog con 99 [u64 x,u64 y] H K =
 (Call1 Tryz.prog con 102 [(u64 (x))] H fun v1 H2 =>
 Call1 Tryz.prog con 102 [(u64 (y))] H2 fun v3 H4 =>
 AsBool v1 fun b5 =>
 Cd b5 (
 AsBool v3 fun b6 =>
 Cd b6 (
 K (iN (0)) H4) (
 K (i64 (Int.negSucc 0)) H4)) (
 AsBool v3 fun b7 =>
 Cd b7 (
 K (iN (1)) H4) (
 Cd (ltN x y) (
 K (i64 (Int.negSucc 0)) H4) (
 Cd (ltN y x) (
 K (iN (1)) H4) (
 K (iN (0)) H4))))) := by kernel_rfl
theorem cmpNaN_W (con : CallT) (x : Nat) (H : CH) (K : KP) : funW Tryz.prog con 102 [u64 x] H K =
 (K (.bool (notB (eqN x x))) H) := by kernel_rfl
theorem sortE_W (con : CallT) (v : Value) (H : CH) (K : KP) : funW Tryz.prog con 100 [v,.func (.func 98) ⟨[]⟩ ⟨[]⟩] H K =
 (AsLen v fun l1 =>
 Must (cvOk .i64 (Int.ofNat l1)) (
 Call1 Tryz.prog con 104 [(u64 ((wrapN .u64 (Int.ofNat l1))))] H fun v2 H3 =>
 Call1 Tryz.prog con 103 [v,(iN (0)),(iN (l1)),v2,(.func (.func 98) ⟨[]⟩ ⟨[]⟩)] H3 fun v4 H5 =>
 K unit H5)) := by kernel_rfl
theorem pdqSort_W (con : CallT) (v : Value) (a b l : Int) (H : CH) (K : KP) : funW Tryz.prog con 103 [v,i64 a,i64 b,i64 l,.func (.func 98) ⟨[]⟩ ⟨[]⟩] H K =
 (LoopC Tryz.prog con (lpAt Tryz.prog 103 0) (upd (upd (upd (upd (upd (upd (upd (fun _ => undV) 4 (.func (.func 98) ⟨[]⟩ ⟨[]⟩)) 3 (i64 l)) 2 (i64 b)) 1 (i64 a)) 0 v) 10 (.bool true)) 11 (.bool true)) H (fun e => ceP e
 (fun a1 H2 =>
 K unit H2)
 (fun i3 => fun a1 H2 =>
 Cd (eqN i3 0) (
 K unit H2) (
 False))
 (fun a1 H2 =>
 K unit H2))) := by kernel_rfl
theorem pdqA_W (con : CallT) (a : TF) (H : CH) (K : KX) : codeW (takeC 7 (blkC (lpAt Tryz.prog 103 0))) Tryz.prog con a H K =
 (AsInt .i64 (a 2) fun z1 =>
 AsInt .i64 (a 1) fun z2 =>
 InR (Int.sub z1 z2) (
 Cd (leZ (Int.sub z1 z2) (Int.ofNat 12)) (
 Call1 Tryz.prog con 113 [(a 0),(a 1),(a 2),(a 4)] H fun v3 H4 =>
 K .ret (upd (upd (upd (upd (upd (upd (upd (upd (upd (upd (upd a 21 (a 2)) 22 (a 1)) 23 (i64 (Int.sub z1 z2))) 12 (i64 (Int.sub z1 z2))) 24 (i64 (Int.sub z1 z2))) 25 (.bool (leZ (Int.sub z1 z2) (Int.ofNat 12)))) 26 (a 0)) 27 (a 1)) 28 (a 2)) 29 (a 4)) 30 v3) H4) (
 AsInt .i64 (a 3) fun z5 =>
 Cd (eqZ z5 (Int.ofNat 0)) (
 Call1 Tryz.prog con 114 [(a 0),(a 1),(a 2),(a 4)] H fun v6 H7 =>
 K .ret (upd (upd (upd (upd (upd (upd (upd (upd (upd (upd (upd (upd (upd a 21 (a 2)) 22 (a 1)) 23 (i64 (Int.sub z1 z2))) 12 (i64 (Int.sub z1 z2))) 24 (i64 (Int.sub z1 z2))) 25 (.bool (leZ (Int.sub z1 z2) (Int.ofNat 12)))) 31 (a 3)) 32 (.bool (eqZ z5 (Int.ofNat 0)))) 33 (a 0)) 34 (a 1)) 35 (a 2)) 36 (a 4)) 37 v6) H7) (
 AsBool (a 10) fun b8 =>
 Cd (notB b8) (
 Call1 Tryz.prog con 115 [(a 0),(a 1),(a 2),(a 4)] H fun v9 H10 =>
 AsInt .i64 (a 3) fun z11 =>
 InR (Int.sub z11 (Int.ofNat 1)) (
 K .normal (upd (upd (upd (upd (upd (upd (upd (upd (upd (upd (upd (upd (upd (upd (upd (upd (upd (upd a 21 (a 2)) 22 (a 1)) 23 (i64 (Int.sub z1 z2))) 12 (i64 (Int.sub z1 z2))) 24 (i64 (Int.sub z1 z2))) 25 (.bool (leZ (Int.sub z1 z2) (Int.ofNat 12)))) 31 (a 3)) 32 (.bool (eqZ z5 (Int.ofNat 0)))) 38 (a 10)) 39 (.bool (notB b8))) 40 (a 0)) 41 (a 1)) 42 (a 2)) 43 (a 4)) 44 v9) 45 (a 3)) 46 (i64 (Int.sub z11 (Int.ofNat 1)))) 3 (i64 (Int.sub z11 (Int.ofNat 1)))) H10)) (
 K .normal (upd (upd (upd (upd (upd (upd (upd (upd (upd (upd a 21 (a 2)) 22 (a 1)) 23 (i64 (Int.sub z1 z2))) 12 (i64 (Int.sub z1 z2))) 24 (i64 (Int.sub z1 z2))) 25 (.bool (leZ (Int.sub z1 z2) (Int.ofNat 12)))) 31 (a 3)) 32 (.bool (eqZ z5 (Int.ofNat 0)))) 38 (a 10)) 39 (.bool (notB b8))) H))))) := by kernel_rfl
theorem pdqB_W (con : CallT) (a : TF) (H : CH) (K : KX) : codeW (sliceC 7 5 (blkC (lpAt Tryz.prog 103 0))) Tryz.prog con a H K =
 (Call1 Tryz.prog con 116 [(a 0),(a 1),(a 2),(a 4)] H fun v1 H2 =>
 AsTup v1 fun l3 =>
 Nth l3 0 fun v4 =>
 AsTup v1 fun l5 =>
 Nth l5 1 fun v6 =>
 AsInt .i64 v6 fun z7 =>
 Bnd (upd (upd (upd (upd (upd (upd (upd (upd (upd (upd (upd (upd a 48 (a 0)) 49 (a 1)) 50 (a 2)) 51 (a 4)) 52 v1) 47 v1) 53 v4) 54 v6) 13 v4) 14 v6) 55 v6) 56 (.bool (eqZ z7 (Int.ofNat 2)))) fun s1 =>
Cd (eqZ z7 (Int.ofNat 2)) (
 Call1 Tryz.prog con 117 [(a 0),(a 1),(a 2),(a 4)] H2 fun v8 H9 =>
 AsInt .i64 (a 2) fun z10 =>
 InR (Int.sub z10 (Int.ofNat 1)) (
 AsInt .i64 v4 fun z11 =>
 AsInt .i64 (a 1) fun z12 =>
 InR (Int.sub z11 z12) (
 InR (Int.sub (Int.sub z10 (Int.ofNat 1)) (Int.sub z11 z12)) (
 AsWant (a 10) (False) fun b13 =>
 Bnd (upd (upd (upd (upd (upd (upd (upd (upd (upd (upd (upd (upd (upd (upd (upd s1 57 (a 0)) 58 (a 1)) 59 (a 2)) 60 (a 4)) 61 v8) 62 (a 2)) 63 (i64 (Int.sub z10 (Int.ofNat 1)))) 64 v4) 65 (a 1)) 66 (i64 (Int.sub z11 z12))) 67 (i64 (Int.sub (Int.sub z10 (Int.ofNat 1)) (Int.sub z11 z12)))) 13 (i64 (Int.sub (Int.sub z10 (Int.ofNat 1)) (Int.sub z11 z12)))) 14 (iN (1))) 68 (a 10)) 69 (a 10)) fun s2 =>
Cd b13 (
 AsWant (a 11) (False) fun b14 =>
 Cd b14 (
 Call1 Tryz.prog con 118 [(a 0),(a 1),(a 2),(a 4)] H9 fun v15 H16 =>
 AsBool v15 fun b17 =>
 Cd b17 (
 K .ret (upd (upd (upd (upd (upd (upd (upd (upd (upd (upd (upd (upd (upd (upd s2 69 (.bool true)) 70 (a 11)) 71 (a 11)) 72 (a 11)) 72 (.bool true)) 73 (iN (1))) 72 (.bool true)) 74 (.bool true)) 75 (.bool true)) 76 (a 0)) 77 (a 1)) 78 (a 2)) 79 (a 4)) 80 v15) H16) (
 K .normal (upd (upd (upd (upd (upd (upd (upd (upd (upd (upd (upd (upd (upd (upd s2 69 (.bool true)) 70 (a 11)) 71 (a 11)) 72 (a 11)) 72 (.bool true)) 73 (iN (1))) 72 (.bool true)) 74 (.bool true)) 75 (.bool true)) 76 (a 0)) 77 (a 1)) 78 (a 2)) 79 (a 4)) 80 v15) H16)) (
 K .normal (upd (Rz false 72 (upd (upd (upd (upd s2 69 (.bool true)) 70 (a 11)) 71 (a 11)) 72 (a 11)) 73 2) 75 (.bool false)) H9)) (
 K .normal (upd (Rz false 72 (upd (upd (upd (upd s2 69 (.bool false)) 70 unit) 71 (.bool false)) 72 (.bool false)) 73 2) 75 (.bool false)) H9))))) (
 AsWant (a 10) (False) fun b18 =>
 Cd b18 (
 AsWant (a 11) (False) fun b19 =>
 Bnd (upd (upd (upd (upd (upd (upd s1 68 (a 10)) 69 (a 10)) 69 (.bool true)) 70 (a 11)) 71 (a 11)) 72 (a 11)) fun s3 =>
Cd b19 (
 AsInt .i64 v6 fun z20 =>
 Cd (eqZ z20 (Int.ofNat 1)) (
 Call1 Tryz.prog con 118 [(a 0),(a 1),(a 2),(a 4)] H2 fun v21 H22 =>
 AsBool v21 fun b23 =>
 Cd b23 (
 K .ret (upd (upd (upd (upd (upd (upd (upd (upd (upd (upd s3 72 (.bool true)) 73 v6) 72 (.bool true)) 74 (.bool (eqZ z20 (Int.ofNat 1)))) 75 (.bool (eqZ z20 (Int.ofNat 1)))) 76 (a 0)) 77 (a 1)) 78 (a 2)) 79 (a 4)) 80 v21) H22) (
 K .normal (upd (upd (upd (upd (upd (upd (upd (upd (upd (upd s3 72 (.bool true)) 73 v6) 72 (.bool true)) 74 (.bool (eqZ z20 (Int.ofNat 1)))) 75 (.bool (eqZ z20 (Int.ofNat 1)))) 76 (a 0)) 77 (a 1)) 78 (a 2)) 79 (a 4)) 80 v21) H22)) (
 K .normal (upd (upd (upd (upd (upd s3 72 (.bool true)) 73 v6) 72 (.bool true)) 74 (.bool (eqZ z20 (Int.ofNat 1)))) 75 (.bool (eqZ z20 (Int.ofNat 1)))) H2)) (
 K .normal (upd (Rz false 72 s3 73 2) 75 (.bool false)) H2)) (
 K .normal (upd (Rz false 72 (upd (upd (upd (upd (upd (upd s1 68 (a 10)) 69 (a 10)) 69 (.bool false)) 70 unit) 71 (.bool false)) 72 (.bool false)) 73 2) 75 (.bool false)) H2))) := by kernel_rfl
theorem pdqC_W (con : CallT) (a : TF) (H : CH) (K : KX) : codeW (sliceC 12 2 (blkC (lpAt Tryz.prog 103 0))) Tryz.prog con a H K =
 (AsInt .i64 (a 1) fun z1 =>
 Bnd (upd (upd (upd a 81 (a 1)) 82 (.bool (ltZ (Int.ofNat 0) z1))) 83 (.bool (ltZ (Int.ofNat 0) z1))) fun s1 =>
Cd (ltZ (Int.ofNat 0) z1) (
 AsInt .i64 (a 1) fun z2 =>
 InR (Int.sub z2 (Int.ofNat 1)) (
 AsSlc (a 0) fun p3 o4 l5 c6 =>
 AsCnt (i64 (Int.sub z2 (Int.ofNat 1))) fun n7 =>
 Must (ltN n7 l5) (
 Ld H p3 (Nat.add (Nat.add o4 (Nat.mul n7 3)) 0) fun v8 =>
 Ld H p3 (Nat.add (Nat.add o4 (Nat.mul n7 3)) 1) fun v9 =>
 Ld H p3 (Nat.add (Nat.add o4 (Nat.mul n7 3)) 2) fun v10 =>
 AsSlc (a 0) fun p11 o12 l13 c14 =>
 AsCnt (a 13) fun n15 =>
 Must (ltN n15 l13) (
 Ld H p11 (Nat.add (Nat.add o12 (Nat.mul n15 3)) 0) fun v16 =>
 Ld H p11 (Nat.add (Nat.add o12 (Nat.mul n15 3)) 1) fun v17 =>
 Ld H p11 (Nat.add (Nat.add o12 (Nat.mul n15 3)) 2) fun v18 =>
 AsFn (a 4) fun g19 l20 l21 =>
 Must (isFunT Tryz.prog g19) (
 Call1 Tryz.prog con g19 (appF l20 ((.agg ⟨[v8,v9,v10]⟩)::(.agg ⟨[v16,v17,v18]⟩)::l21)) H fun v22 H23 =>
 AsInt .i64 v22 fun z24 =>
 Bnd (upd (upd (upd (upd (upd (upd (upd (upd (upd (upd (upd (upd (upd (upd (upd (upd (upd (upd (upd (upd (upd (upd (upd (upd (upd (upd (upd s1 83 (.bool true)) 84 (a 4)) 83 (.bool true)) 85 (a 0)) 83 (.bool true)) 86 (a 1)) 83 (.bool true)) 87 (i64 (Int.sub z2 (Int.ofNat 1)))) 83 (.bool true)) 88 (ptr p3 (Nat.add o4 (Nat.mul n7 3)))) 83 (.bool true)) 89 (.agg ⟨[v8,v9,v10]⟩)) 83 (.bool true)) 90 (a 0)) 83 (.bool true)) 91 (a 13)) 83 (.bool true)) 92 (ptr p11 (Nat.add o12 (Nat.mul n15 3)))) 83 (.bool true)) 93 (.agg ⟨[v16,v17,v18]⟩)) 83 (.bool true)) 94 v22) 83 (.bool true)) 95 (.bool (ltZ z24 (Int.ofNat 0)))) 83 (.bool true)) 96 (.bool (notB (ltZ z24 (Int.ofNat 0))))) 97 (.bool (notB (ltZ z24 (Int.ofNat 0))))) fun s2 =>
Cd (notB (ltZ z24 (Int.ofNat 0))) (
 Call1 Tryz.prog con 119 [(a 0),(a 1),(a 2),(a 13),(a 4)] H23 fun v25 H26 =>
 K (.exit 1) (upd (upd (upd (upd (upd (upd (upd (upd (upd s2 98 (a 0)) 99 (a 1)) 100 (a 2)) 101 (a 13)) 102 (a 4)) 103 v25) 15 v25) 104 v25) 1 v25) H26) (
 K .normal s2 H23)))))) (
 K .normal (upd (Rz false 83 s1 84 13) 97 (.bool false)) H)) := by kernel_rfl
theorem pdqD_W (con : CallT) (a : TF) (H : CH) (K : KX) : codeW (dropC 14 (blkC (lpAt Tryz.prog 103 0))) Tryz.prog con a H K =
 (Call1 Tryz.prog con 120 [(a 0),(a 1),(a 2),(a 13),(a 4)] H fun v1 H2 =>
 AsTup v1 fun l3 =>
 Nth l3 0 fun v4 =>
 AsTup v1 fun l5 =>
 Nth l5 1 fun v6 =>
 AsInt .i64 v4 fun z7 =>
 AsInt .i64 (a 1) fun z8 =>
 InR (Int.sub z7 z8) (
 AsInt .i64 (a 2) fun z9 =>
 AsInt .i64 v4 fun z10 =>
 InR (Int.sub z9 z10) (
 AsInt .i64 (a 12) fun z11 =>
 CInt .quo .i64 z11 (Int.ofNat 8) fun v12 =>
 Cd (ltZ (Int.sub z7 z8) (Int.sub z9 z10)) (
 AsInt .i64 v12 fun z13 =>
 Call1 Tryz.prog con 103 [(a 0),(a 1),v4,(a 3),(a 4)] H2 fun v14 H15 =>
 AsInt .i64 v4 fun z16 =>
 InR (Int.add z16 (Int.ofNat 1)) (
 K .normal (upd (upd (upd (upd (upd (upd (upd (upd (upd (upd (upd (upd (upd (upd (upd (upd (upd (upd (upd (upd (upd (upd (upd (upd (upd (upd (upd (upd (upd (upd (upd (upd (upd (upd (upd (upd (upd (upd (upd (upd a 106 (a 0)) 107 (a 1)) 108 (a 2)) 109 (a 13)) 110 (a 4)) 111 v1) 105 v1) 112 v4) 113 v6) 16 v4) 17 v6) 114 v6) 11 v6) 115 v4) 116 (a 1)) 117 (i64 (Int.sub z7 z8))) 118 (a 2)) 119 v4) 120 (i64 (Int.sub z9 z10))) 18 (i64 (Int.sub z7 z8))) 19 (i64 (Int.sub z9 z10))) 121 (a 12)) 122 v12) 20 v12) 123 (i64 (Int.sub z7 z8))) 124 (i64 (Int.sub z9 z10))) 125 (.bool (ltZ (Int.sub z7 z8) (Int.sub z9 z10)))) 126 (i64 (Int.sub z7 z8))) 127 v12) 128 (.bool (leZ z13 (Int.sub z7 z8)))) 10 (.bool (leZ z13 (Int.sub z7 z8)))) 129 (a 0)) 130 (a 1)) 131 v4) 132 (a 3)) 133 (a 4)) 134 v14) 135 v4) 136 (i64 (Int.add z16 (Int.ofNat 1)))) 1 (i64 (Int.add z16 (Int.ofNat 1)))) H15)) (
 AsInt .i64 v12 fun z17 =>
 AsInt .i64 v4 fun z18 =>
 InR (Int.add z18 (Int.ofNat 1)) (
 Call1 Tryz.prog con 103 [(a 0),(i64 (Int.add z18 (Int.ofNat 1))),(a 2),(a 3),(a 4)] H2 fun v19 H20 =>
 K .normal (upd (upd (upd (upd (upd (upd (upd (upd (upd (upd (upd (upd (upd (upd (upd (upd (upd (upd (upd (upd (upd (upd (upd (upd (upd (upd (upd (upd (upd (upd (upd (upd (upd (upd (upd (upd (upd (upd (upd (upd a 106 (a 0)) 107 (a 1)) 108 (a 2)) 109 (a 13)) 110 (a 4)) 111 v1) 105 v1) 112 v4) 113 v6) 16 v4) 17 v6) 114 v6) 11 v6) 115 v4) 116 (a 1)) 117 (i64 (Int.sub z7 z8))) 118 (a 2)) 119 v4) 120 (i64 (Int.sub z9 z10))) 18 (i64 (Int.sub z7 z8))) 19 (i64 (Int.sub z9 z10))) 121 (a 12)) 122 v12) 20 v12) 123 (i64 (Int.sub z7 z8))) 124 (i64 (Int.sub z9 z10))) 125 (.bool (ltZ (Int.sub z7 z8) (Int.sub z9 z10)))) 137 (i64 (Int.sub z9 z10))) 138 v12) 139 (.bool (leZ z17 (Int.sub z9 z10)))) 10 (.bool (leZ z17 (Int.sub z9 z10)))) 140 (a 0)) 141 v4) 142 (i64 (Int.add z18 (Int.ofNat 1)))) 143 (a 2)) 144 (a 3)) 145 (a 4)) 146 v19) 147 v4) 2 v4) H20))))) := by kernel_rfl
theorem bitsLen_W (con : CallT) (n : Nat) (H : CH) (K : KP) : funW Tryz.prog con 104 [u64 n] H K =
 (Call1 Tryz.prog con 122 [(u64 (n))] H fun v1 H2 =>
 K v1 H2) := by kernel_rfl
theorem insSort_W (con : CallT) (v : Value) (a b : Int) (H : CH) (K : KP) : funW Tryz.prog con 113 [v,i64 a,i64 b,.func (.func 98) ⟨[]⟩ ⟨[]⟩] H K =
 (InR (Int.add a (Int.ofNat 1)) (
 LoopC Tryz.prog con (lpAt Tryz.prog 113 0) (upd (upd (upd (upd (upd (upd (upd (fun _ => undV) 3 (.func (.func 98) ⟨[]⟩ ⟨[]⟩)) 2 (i64 b)) 1 (i64 a)) 0 v) 10 (i64 a)) 11 (i64 (Int.add a (Int.ofNat 1)))) 8 (i64 (Int.add a (Int.ofNat 1)))) H (fun e => ceP e
 (fun a1 H2 =>
 K unit H2)
 (fun i3 => fun a1 H2 =>
 Cd (eqN i3 0) (
 K unit H2) (
 False))
 (fun a1 H2 =>
 K unit H2)))) := by kernel_rfl
theorem insSortA_W (con : CallT) (a : TF) (H : CH) (K : KX) : codeW (lpAt Tryz.prog 113 0) Tryz.prog con a H K =
 (AsInt .i64 (a 8) fun z1 =>
 AsInt .i64 (a 2) fun z2 =>
 Cd (ltZ z1 z2) (
 LoopC Tryz.prog con (lpAt Tryz.prog 113 1) (upd (upd (upd (upd (upd a 12 (a 8)) 13 (a 2)) 14 (.bool (ltZ z1 z2))) 17 (a 8)) 9 (a 8)) H (fun e => ceP e
 (fun a3 H4 =>
 AsInt .i64 (a3 8) fun z6 =>
 InR (Int.add z6 (Int.ofNat 1)) (
 K .normal (upd (upd (upd a3 15 (a3 8)) 16 (i64 (Int.add z6 (Int.ofNat 1)))) 8 (i64 (Int.add z6 (Int.ofNat 1)))) H4))
 (fun i5 => fun a3 H4 =>
 Cd (eqN i5 2) (
 AsInt .i64 (a3 8) fun z7 =>
 InR (Int.add z7 (Int.ofNat 1)) (
 K .normal (upd (upd (upd a3 15 (a3 8)) 16 (i64 (Int.add z7 (Int.ofNat 1)))) 8 (i64 (Int.add z7 (Int.ofNat 1)))) H4)) (
 Cd (eqN i5 1) (
 AsInt .i64 (a3 8) fun z8 =>
 InR (Int.add z8 (Int.ofNat 1)) (
 K .normal (upd (upd (upd a3 15 (a3 8)) 16 (i64 (Int.add z8 (Int.ofNat 1)))) 8 (i64 (Int.add z8 (Int.ofNat 1)))) H4)) (
 K (.exit i5) a3 H4)))
 (fun a3 H4 =>
 K .ret a3 H4))) (
 K (.exit 0) (upd (upd (upd a 12 (a 8)) 13 (a 2)) 14 (.bool (ltZ z1 z2))) H)) := by kernel_rfl
theorem insSortB_W (con : CallT) (a : TF) (H : CH) (K : KX) : codeW (lpAt Tryz.prog 113 1) Tryz.prog con a H K =
 (AsInt .i64 (a 9) fun z1 =>
 AsInt .i64 (a 1) fun z2 =>
 Bnd (upd (upd (upd (upd a 18 (a 9)) 19 (a 1)) 20 (.bool (ltZ z2 z1))) 21 (.bool (ltZ z2 z1))) fun s1 =>
Cd (ltZ z2 z1) (
 AsSlc (a 0) fun p3 o4 l5 c6 =>
 AsCnt (a 9) fun n7 =>
 Must (ltN n7 l5) (
 Ld H p3 (Nat.add (Nat.add o4 (Nat.mul n7 3)) 0) fun v8 =>
 Ld H p3 (Nat.add (Nat.add o4 (Nat.mul n7 3)) 1) fun v9 =>
 Ld H p3 (Nat.add (Nat.add o4 (Nat.mul n7 3)) 2) fun v10 =>
 AsInt .i64 (a 9) fun z11 =>
 InR (Int.sub z11 (Int.ofNat 1)) (
 AsSlc (a 0) fun p12 o13 l14 c15 =>
 AsCnt (i64 (Int.sub z11 (Int.ofNat 1))) fun n16 =>
 Must (ltN n16 l14) (
 Ld H p12 (Nat.add (Nat.add o13 (Nat.mul n16 3)) 0) fun v17 =>
 Ld H p12 (Nat.add (Nat.add o13 (Nat.mul n16 3)) 1) fun v18 =>
 Ld H p12 (Nat.add (Nat.add o13 (Nat.mul n16 3)) 2) fun v19 =>
 AsFn (a 3) fun g20 l21 l22 =>
 Must (isFunT Tryz.prog g20) (
 Call1 Tryz.prog con g20 (appF l21 ((.agg ⟨[v8,v9,v10]⟩)::(.agg ⟨[v17,v18,v19]⟩)::l22)) H fun v23 H24 =>
 AsInt .i64 v23 fun z25 =>
 Bnd (upd (upd (upd (upd (upd (upd (upd (upd (upd (upd (upd (upd (upd (upd (upd (upd (upd (upd (upd (upd (upd (upd (upd (upd (upd s1 21 (.bool true)) 22 (a 3)) 21 (.bool true)) 23 (a 0)) 21 (.bool true)) 24 (a 9)) 21 (.bool true)) 25 (ptr p3 (Nat.add o4 (Nat.mul n7 3)))) 21 (.bool true)) 26 (.agg ⟨[v8,v9,v10]⟩)) 21 (.bool true)) 27 (a 0)) 21 (.bool true)) 28 (a 9)) 21 (.bool true)) 29 (i64 (Int.sub z11 (Int.ofNat 1)))) 21 (.bool true)) 30 (ptr p12 (Nat.add o13 (Nat.mul n16 3)))) 21 (.bool true)) 31 (.agg ⟨[v17,v18,v19]⟩)) 21 (.bool true)) 32 v23) 21 (.bool true)) 33 (.bool (ltZ z25 (Int.ofNat 0)))) 34 (.bool (ltZ z25 (Int.ofNat 0)))) fun s2 =>
Cd (ltZ z25 (Int.ofNat 0)) (
 AsInt .i64 (a 9) fun z26 =>
 InR (Int.sub z26 (Int.ofNat 1)) (
 AsInt .i64 (a 9) fun z27 =>
 InR (Int.sub z27 (Int.ofNat 1)) (
 AsSlc (a 0) fun p28 o29 l30 c31 =>
 AsCnt (i64 (Int.sub z27 (Int.ofNat 1))) fun n32 =>
 Must (ltN n32 l30) (
 Ld H24 p28 (Nat.add (Nat.add o29 (Nat.mul n32 3)) 0) fun v33 =>
 Ld H24 p28 (Nat.add (Nat.add o29 (Nat.mul n32 3)) 1) fun v34 =>
 Ld H24 p28 (Nat.add (Nat.add o29 (Nat.mul n32 3)) 2) fun v35 =>
 AsSlc (a 0) fun p36 o37 l38 c39 =>
 AsCnt (a 9) fun n40 =>
 Must (ltN n40 l38) (
 Ld H24 p36 (Nat.add (Nat.add o37 (Nat.mul n40 3)) 0) fun v41 =>
 Ld H24 p36 (Nat.add (Nat.add o37 (Nat.mul n40 3)) 1) fun v42 =>
 Ld H24 p36 (Nat.add (Nat.add o37 (Nat.mul n40 3)) 2) fun v43 =>
 AsSlc (a 0) fun p44 o45 l46 c47 =>
 AsCnt (a 9) fun n48 =>
 Must (ltN n48 l46) (
 St H24 p44 (Nat.add o45 (Nat.mul n48 3)) [v33,v34,v35] fun H49 =>
 AsSlc (a 0) fun p50 o51 l52 c53 =>
 AsCnt (i64 (Int.sub z26 (Int.ofNat 1))) fun n54 =>
 Must (ltN n54 l52) (
 St H49 p50 (Nat.add o51 (Nat.mul n54 3)) [v41,v42,v43] fun H55 =>
 AsInt .i64 (a 9) fun z56 =>
 InR (Int.sub z56 (Int.ofNat 1)) (
 K .normal (upd (upd (upd (upd (upd (upd (upd (upd (upd (upd (upd (upd (upd (upd (upd (upd (upd (upd (upd s2 37 (a 0)) 38 (a 9)) 39 (a 0)) 40 (a 9)) 41 (i64 (Int.sub z26 (Int.ofNat 1)))) 42 (a 0)) 43 (a 9)) 44 (i64 (Int.sub z27 (Int.ofNat 1)))) 45 (ptr p28 (Nat.add o29 (Nat.mul n32 3)))) 46 (.agg ⟨[v33,v34,v35]⟩)) 47 (a 0)) 48 (a 9)) 49 (ptr p36 (Nat.add o37 (Nat.mul n40 3)))) 50 (.agg ⟨[v41,v42,v43]⟩)) 51 (ptr p44 (Nat.add o45 (Nat.mul n48 3)))) 52 (ptr p50 (Nat.add o51 (Nat.mul n54 3)))) 35 (a 9)) 36 (i64 (Int.sub z56 (Int.ofNat 1)))) 9 (i64 (Int.sub z56 (Int.ofNat 1)))) H55)))))))) (
 K (.exit 2) s2 H24)))))) (
 K (.exit 2) (upd (Rz false 21 s1 22 12) 34 (.bool false)) H)) := by kernel_rfl
theorem breakPat_W (con : CallT) (v : Value) (a b : Int) (H : CH) (K : KP) : funW Tryz.prog con 115 [v,i64 a,i64 b,.func (.func 98) ⟨[]⟩ ⟨[]⟩] H K =
 (InR (Int.sub b a) (
 Cd (leZ (Int.ofNat 8) (Int.sub b a)) (
 Must (cvOk .i64 (Int.sub b a)) (
 Nw H (mkRow 231 0 [(u64 (0))]) fun p1 H2 =>
 St H2 p1 0 [(u64 ((wrapN .u64 (Int.sub b a))))] fun H3 =>
 Call1 Tryz.prog con 124 [(i64 (Int.sub b a))] H3 fun v4 H5 =>
 CInt .quo .i64 (Int.sub b a) (Int.ofNat 4) fun v6 =>
 AsInt .i64 v6 fun z7 =>
 CInt .mul .i64 z7 (Int.ofNat 2) fun v8 =>
 AsInt .i64 v8 fun z9 =>
 InR (Int.add a z9) (
 InR (Int.sub (Int.add a z9) (Int.ofNat 1)) (
 LoopC Tryz.prog con (lpAt Tryz.prog 115 0) (upd (upd (upd (upd (upd (upd (upd (upd (upd (upd (upd (upd (upd (upd (upd (upd (upd (upd (upd (upd (upd (upd (upd (fun _ => undV) 3 (.func (.func 98) ⟨[]⟩ ⟨[]⟩)) 2 (i64 b)) 1 (i64 a)) 0 v) 13 (i64 b)) 14 (i64 a)) 15 (i64 (Int.sub b a))) 8 (i64 (Int.sub b a))) 16 (i64 (Int.sub b a))) 17 (.bool (leZ (Int.ofNat 8) (Int.sub b a)))) 18 (i64 (Int.sub b a))) 19 (u64 ((wrapN .u64 (Int.sub b a))))) 9 (ptr p1 0)) 20 (i64 (Int.sub b a))) 21 v4) 10 v4) 22 (i64 a)) 23 (i64 (Int.sub b a))) 24 v6) 25 v8) 26 (i64 (Int.add a z9))) 27 (i64 (Int.sub (Int.add a z9) (Int.ofNat 1)))) 11 (i64 (Int.sub (Int.add a z9) (Int.ofNat 1)))) H5 (fun e => ceP e
 (fun a10 H11 =>
 K unit H11)
 (fun i12 => fun a10 H11 =>
 Cd (eqN i12 0) (
 K unit H11) (
 False))
 (fun a10 H11 =>
 K unit H11)))))) (
 K unit H))) := by kernel_rfl
theorem breakPatL_W (con : CallT) (a : TF) (H : CH) (K : KX) : codeW (lpAt Tryz.prog 115 0) Tryz.prog con a H K =
 (AsInt .i64 (a 8) fun z1 =>
 CInt .quo .i64 z1 (Int.ofNat 4) fun v2 =>
 AsInt .i64 v2 fun z3 =>
 CInt .mul .i64 z3 (Int.ofNat 2) fun v4 =>
 AsInt .i64 (a 1) fun z5 =>
 AsInt .i64 v4 fun z6 =>
 InR (Int.add z5 z6) (
 InR (Int.add (Int.add z5 z6) (Int.ofNat 1)) (
 AsInt .i64 (a 11) fun z7 =>
 Bnd (upd (upd (upd (upd (upd (upd (upd (upd a 28 (a 11)) 29 (a 1)) 30 (a 8)) 31 v2) 32 v4) 33 (i64 (Int.add z5 z6))) 34 (i64 (Int.add (Int.add z5 z6) (Int.ofNat 1)))) 35 (.bool (leZ z7 (Int.add (Int.add z5 z6) (Int.ofNat 1))))) fun s1 =>
Cd (leZ z7 (Int.add (Int.add z5 z6) (Int.ofNat 1))) (
 Call1 Tryz.prog con 125 [(a 9)] H fun v8 H9 =>
 AsNat .u64 (a 10) fun n10 =>
 AsNat .u64 v8 fun n11 =>
 CInt .and .u64 (Int.ofNat n11) (Int.ofNat (Go.CM.subM 18446744073709551616 n10 1)) fun v12 =>
 AsNat .u64 v12 fun n13 =>
 AsInt .i64 (a 8) fun z14 =>
 Bnd (upd (upd (upd (upd (upd (upd (upd (upd (upd s1 38 v8) 39 (a 10)) 40 (u64 ((Go.CM.subM 18446744073709551616 n10 1)))) 41 v12) 42 (i64 (IntKind.wrap .i64 (Int.ofNat n13)))) 12 (i64 (IntKind.wrap .i64 (Int.ofNat n13)))) 43 (i64 (IntKind.wrap .i64 (Int.ofNat n13)))) 44 (a 8)) 45 (.bool (leZ z14 (IntKind.wrap .i64 (Int.ofNat n13))))) fun s2 =>
Cd (leZ z14 (IntKind.wrap .i64 (Int.ofNat n13))) (
 AsInt .i64 (a 8) fun z15 =>
 InR (Int.sub (IntKind.wrap .i64 (Int.ofNat n13)) z15) (
 AsInt .i64 (a 1) fun z16 =>
 InR (Int.add z16 (Int.sub (IntKind.wrap .i64 (Int.ofNat n13)) z15)) (
 AsInt .i64 (a 1) fun z17 =>
 InR (Int.add z17 (Int.sub (IntKind.wrap .i64 (Int.ofNat n13)) z15)) (
 AsSlc (a 0) fun p18 o19 l20 c21 =>
 AsCnt (i64 (Int.add z17 (Int.sub (IntKind.wrap .i64 (Int.ofNat n13)) z15))) fun n22 =>
 Must (ltN n22 l20) (
 Ld H9 p18 (Nat.add (Nat.add o19 (Nat.mul n22 3)) 0) fun v23 =>
 Ld H9 p18 (Nat.add (Nat.add o19 (Nat.mul n22 3)) 1) fun v24 =>
 Ld H9 p18 (Nat.add (Nat.add o19 (Nat.mul n22 3)) 2) fun v25 =>
 AsSlc (a 0) fun p26 o27 l28 c29 =>
 AsCnt (a 11) fun n30 =>
 Must (ltN n30 l28) (
 Ld H9 p26 (Nat.add (Nat.add o27 (Nat.mul n30 3)) 0) fun v31 =>
 Ld H9 p26 (Nat.add (Nat.add o27 (Nat.mul n30 3)) 1) fun v32 =>
 Ld H9 p26 (Nat.add (Nat.add o27 (Nat.mul n30 3)) 2) fun v33 =>
 AsSlc (a 0) fun p34 o35 l36 c37 =>
 AsCnt (a 11) fun n38 =>
 Must (ltN n38 l36) (
 St H9 p34 (Nat.add o35 (Nat.mul n38 3)) [v23,v24,v25] fun H39 =>
 AsSlc (a 0) fun p40 o41 l42 c43 =>
 AsCnt (i64 (Int.add z16 (Int.sub (IntKind.wrap .i64 (Int.ofNat n13)) z15))) fun n44 =>
 Must (ltN n44 l42) (
 St H39 p40 (Nat.add o41 (Nat.mul n44 3)) [v31,v32,v33] fun H45 =>
 AsInt .i64 (a 11) fun z46 =>
 InR (Int.add z46 (Int.ofNat 1)) (
 K .normal (upd (upd (upd (upd (upd (upd (upd (upd (upd (upd (upd (upd (upd (upd (upd (upd (upd (upd (upd (upd (upd (upd (upd (upd (upd s2 46 (i64 (IntKind.wrap .i64 (Int.ofNat n13)))) 47 (a 8)) 48 (i64 (Int.sub (IntKind.wrap .i64 (Int.ofNat n13)) z15))) 12 (i64 (Int.sub (IntKind.wrap .i64 (Int.ofNat n13)) z15))) 49 (a 0)) 50 (a 11)) 51 (a 0)) 52 (a 1)) 53 (i64 (Int.sub (IntKind.wrap .i64 (Int.ofNat n13)) z15))) 54 (i64 (Int.add z16 (Int.sub (IntKind.wrap .i64 (Int.ofNat n13)) z15)))) 55 (a 0)) 56 (a 1)) 57 (i64 (Int.sub (IntKind.wrap .i64 (Int.ofNat n13)) z15))) 58 (i64 (Int.add z17 (Int.sub (IntKind.wrap .i64 (Int.ofNat n13)) z15)))) 59 (ptr p18 (Nat.add o19 (Nat.mul n22 3)))) 60 (.agg ⟨[v23,v24,v25]⟩)) 61 (a 0)) 62 (a 11)) 63 (ptr p26 (Nat.add o27 (Nat.mul n30 3)))) 64 (.agg ⟨[v31,v32,v33]⟩)) 65 (ptr p34 (Nat.add o35 (Nat.mul n38 3)))) 66 (ptr p40 (Nat.add o41 (Nat.mul n44 3)))) 36 (a 11)) 37 (i64 (Int.add z46 (Int.ofNat 1)))) 11 (i64 (Int.add z46 (Int.ofNat 1)))) H45))))))))) (
 AsInt .i64 (a 1) fun z47 =>
 InR (Int.add z47 (IntKind.wrap .i64 (Int.ofNat n13))) (
 AsInt .i64 (a 1) fun z48 =>
 InR (Int.add z48 (IntKind.wrap .i64 (Int.ofNat n13))) (
 AsSlc (a 0) fun p49 o50 l51 c52 =>
 AsCnt (i64 (Int.add z48 (IntKind.wrap .i64 (Int.ofNat n13)))) fun n53 =>
 Must (ltN n53 l51) (
 Ld H9 p49 (Nat.add (Nat.add o50 (Nat.mul n53 3)) 0) fun v54 =>
 Ld H9 p49 (Nat.add (Nat.add o50 (Nat.mul n53 3)) 1) fun v55 =>
 Ld H9 p49 (Nat.add (Nat.add o50 (Nat.mul n53 3)) 2) fun v56 =>
 AsSlc (a 0) fun p57 o58 l59 c60 =>
 AsCnt (a 11) fun n61 =>
 Must (ltN n61 l59) (
 Ld H9 p57 (Nat.add (Nat.add o58 (Nat.mul n61 3)) 0) fun v62 =>
 Ld H9 p57 (Nat.add (Nat.add o58 (Nat.mul n61 3)) 1) fun v63 =>
 Ld H9 p57 (Nat.add (Nat.add o58 (Nat.mul n61 3)) 2) fun v64 =>
 AsSlc (a 0) fun p65 o66 l67 c68 =>
 AsCnt (a 11) fun n69 =>
 Must (ltN n69 l67) (
 St H9 p65 (Nat.add o66 (Nat.mul n69 3)) [v54,v55,v56] fun H70 =>
 AsSlc (a 0) fun p71 o72 l73 c74 =>
 AsCnt (i64 (Int.add z47 (IntKind.wrap .i64 (Int.ofNat n13)))) fun n75 =>
 Must (ltN n75 l73) (
 St H70 p71 (Nat.add o72 (Nat.mul n75 3)) [v62,v63,v64] fun H76 =>
 AsInt .i64 (a 11) fun z77 =>
 InR (Int.add z77 (Int.ofNat 1)) (
 K .normal (upd (upd (upd (upd (upd (upd (upd (upd (upd (upd (upd (upd (upd (upd (upd (upd (upd (upd (upd (upd (upd s2 49 (a 0)) 50 (a 11)) 51 (a 0)) 52 (a 1)) 53 (i64 (IntKind.wrap .i64 (Int.ofNat n13)))) 54 (i64 (Int.add z47 (IntKind.wrap .i64 (Int.ofNat n13))))) 55 (a 0)) 56 (a 1)) 57 (i64 (IntKind.wrap .i64 (Int.ofNat n13)))) 58 (i64 (Int.add z48 (IntKind.wrap .i64 (Int.ofNat n13))))) 59 (ptr p49 (Nat.add o50 (Nat.mul n53 3)))) 60 (.agg ⟨[v54,v55,v56]⟩)) 61 (a 0)) 62 (a 11)) 63 (ptr p57 (Nat.add o58 (Nat.mul n61 3)))) 64 (.agg ⟨[v62,v63,v64]⟩)) 65 (ptr p65 (Nat.add o66 (Nat.mul n69 3)))) 66 (ptr p71 (Nat.add o72 (Nat.mul n75 3)))) 36 (a 11)) 37 (i64 (Int.add z77 (Int.ofNat 1)))) 11 (i64 (Int.add z77 (Int.ofNat 1)))) H76))))))))) (
 K (.exit 0) s1 H)))) := by kernel_rfl
theorem choosePiv_W (con : CallT) (v : Value) (a b : Int) (H : CH) (K : KP) : funW Tryz.prog con 116 [v,i64 a,i64 b,.func (.func 98) ⟨[]⟩ ⟨[]⟩] H K =
 (InR (Int.sub b a) (
 Nw H (mkRow 3 0 [(iN (0))]) fun p1 H2 =>
 CInt .quo .i64 (Int.sub b a) (Int.ofNat 4) fun v3 =>
 AsInt .i64 v3 fun z4 =>
 CInt .mul .i64 z4 (Int.ofNat 1) fun v5 =>
 AsInt .i64 v5 fun z6 =>
 InR (Int.add a z6) (
 CInt .quo .i64 (Int.sub b a) (Int.ofNat 4) fun v7 =>
 AsInt .i64 v7 fun z8 =>
 CInt .mul .i64 z8 (Int.ofNat 2) fun v9 =>
 AsInt .i64 v9 fun z10 =>
 InR (Int.add a z10) (
 CInt .quo .i64 (Int.sub b a) (Int.ofNat 4) fun v11 =>
 AsInt .i64 v11 fun z12 =>
 CInt .mul .i64 z12 (Int.ofNat 3) fun v13 =>
 AsInt .i64 v13 fun z14 =>
 InR (Int.add a z14) (
 Cd (leZ (Int.ofNat 8) (Int.sub b a)) (
 Cd (leZ (Int.ofNat 50) (Int.sub b a)) (
 Call1 Tryz.prog con 126 [v,(i64 (Int.add a z6)),(ptr p1 0),(.func (.func 98) ⟨[]⟩ ⟨[]⟩)] H2 fun v15 H16 =>
 Call1 Tryz.prog con 126 [v,(i64 (Int.add a z10)),(ptr p1 0),(.func (.func 98) ⟨[]⟩ ⟨[]⟩)] H16 fun v17 H18 =>
 Call1 Tryz.prog con 126 [v,(i64 (Int.add a z14)),(ptr p1 0),(.func (.func 98) ⟨[]⟩ ⟨[]⟩)] H18 fun v19 H20 =>
 Call1 Tryz.prog con 127 [v,v15,v17,v19,(ptr p1 0),(.func (.func 98) ⟨[]⟩ ⟨[]⟩)] H20 fun v21 H22 =>
 Ld H22 p1 0 fun v23 =>
 AsInt .i64 v23 fun z24 =>
 Cd (eqZ z24 (Int.ofNat 0)) (
 K (.tuple ⟨[v21,(iN (1))]⟩) H22) (
 AsInt .i64 v23 fun z25 =>
 Cd (eqZ z25 (Int.ofNat 12)) (
 K (.tuple ⟨[v21,(iN (2))]⟩) H22) (
 K (.tuple ⟨[v21,(iN (0))]⟩) H22))) (
 Call1 Tryz.prog con 127 [v,(i64 (Int.add a z6)),(i64 (Int.add a z10)),(i64 (Int.add a z14)),(ptr p1 0),(.func (.func 98) ⟨[]⟩ ⟨[]⟩)] H2 fun v26 H27 =>
 Ld H27 p1 0 fun v28 =>
 AsInt .i64 v28 fun z29 =>
 Cd (eqZ z29 (Int.ofNat 0)) (
 K (.tuple ⟨[v26,(iN (1))]⟩) H27) (
 AsInt .i64 v28 fun z30 =>
 Cd (eqZ z30 (Int.ofNat 12)) (
 K (.tuple ⟨[v26,(iN (2))]⟩) H27) (
 K (.tuple ⟨[v26,(iN (0))]⟩) H27)))) (
 Ld H2 p1 0 fun v31 =>
 AsInt .i64 v31 fun z32 =>
 Cd (eqZ z32 (Int.ofNat 0)) (
 K (.tuple ⟨[(i64 (Int.add a z10)),(iN (1))]⟩) H2) (
 AsInt .i64 v31 fun z33 =>
 Cd (eqZ z33 (Int.ofNat 12)) (
 K (.tuple ⟨[(i64 (Int.add a z10)),(iN (2))]⟩) H2) (
 K (.tuple ⟨[(i64 (Int.add a z10)),(iN (0))]⟩) H2)))))))) := by kernel_rfl
theorem revRange_W (con : CallT) (v : Value) (a b : Int) (H : CH) (K : KP) : funW Tryz.prog con 117 [v,i64 a,i64 b,.func (.func 98) ⟨[]⟩ ⟨[]⟩] H K =
 (InR (Int.sub b (Int.ofNat 1)) (
 LoopC Tryz.prog con (lpAt Tryz.prog 117 0) (upd (upd (upd (upd (upd (upd (upd (upd (upd (fun _ => undV) 3 (.func (.func 98) ⟨[]⟩ ⟨[]⟩)) 2 (i64 b)) 1 (i64 a)) 0 v) 10 (i64 a)) 8 (i64 a)) 11 (i64 b)) 12 (i64 (Int.sub b (Int.ofNat 1)))) 9 (i64 (Int.sub b (Int.ofNat 1)))) H (fun e => ceP e
 (fun a1 H2 =>
 K unit H2)
 (fun i3 => fun a1 H2 =>
 Cd (eqN i3 0) (
 K unit H2) (
 False))
 (fun a1 H2 =>
 K unit H2)))) := by kernel_rfl
theorem revRangeL_W (con : CallT) (a : TF) (H : CH) (K : KX) : codeW (lpAt Tryz.prog 117 0) Tryz.prog con a H K =
 (AsInt .i64 (a 8) fun z1 =>
 AsInt .i64 (a 9) fun z2 =>
 Cd (ltZ z1 z2) (
 AsSlc (a 0) fun p3 o4 l5 c6 =>
 AsCnt (a 9) fun n7 =>
 Must (ltN n7 l5) (
 Ld H p3 (Nat.add (Nat.add o4 (Nat.mul n7 3)) 0) fun v8 =>
 Ld H p3 (Nat.add (Nat.add o4 (Nat.mul n7 3)) 1) fun v9 =>
 Ld H p3 (Nat.add (Nat.add o4 (Nat.mul n7 3)) 2) fun v10 =>
 AsSlc (a 0) fun p11 o12 l13 c14 =>
 AsCnt (a 8) fun n15 =>
 Must (ltN n15 l13) (
 Ld H p11 (Nat.add (Nat.add o12 (Nat.mul n15 3)) 0) fun v16 =>
 Ld H p11 (Nat.add (Nat.add o12 (Nat.mul n15 3)) 1) fun v17 =>
 Ld H p11 (Nat.add (Nat.add o12 (Nat.mul n15 3)) 2) fun v18 =>
 AsSlc (a 0) fun p19 o20 l21 c22 =>
 AsCnt (a 8) fun n23 =>
 Must (ltN n23 l21) (
 St H p19 (Nat.add o20 (Nat.mul n23 3)) [v8,v9,v10] fun H24 =>
 AsSlc (a 0) fun p25 o26 l27 c28 =>
 AsCnt (a 9) fun n29 =>
 Must (ltN n29 l27) (
 St H24 p25 (Nat.add o26 (Nat.mul n29 3)) [v16,v17,v18] fun H30 =>
 AsInt .i64 (a 8) fun z31 =>
 InR (Int.add z31 (Int.ofNat 1)) (
 AsInt .i64 (a 9) fun z32 =>
 InR (Int.sub z32 (Int.ofNat 1)) (
 K .normal (upd (upd (upd (upd (upd (upd (upd (upd (upd (upd (upd (upd (upd (upd (upd (upd (upd (upd (upd (upd (upd (upd (upd a 13 (a 8)) 14 (a 9)) 15 (.bool (ltZ z1 z2))) 16 (a 0)) 17 (a 8)) 18 (a 0)) 19 (a 9)) 20 (a 0)) 21 (a 9)) 22 (ptr p3 (Nat.add o4 (Nat.mul n7 3)))) 23 (.agg ⟨[v8,v9,v10]⟩)) 24 (a 0)) 25 (a 8)) 26 (ptr p11 (Nat.add o12 (Nat.mul n15 3)))) 27 (.agg ⟨[v16,v17,v18]⟩)) 28 (ptr p19 (Nat.add o20 (Nat.mul n23 3)))) 29 (ptr p25 (Nat.add o26 (Nat.mul n29 3)))) 30 (a 8)) 31 (i64 (Int.add z31 (Int.ofNat 1)))) 8 (i64 (Int.add z31 (Int.ofNat 1)))) 32 (a 9)) 33 (i64 (Int.sub z32 (Int.ofNat 1)))) 9 (i64 (Int.sub z32 (Int.ofNat 1)))) H30))))))) (
 K (.exit 0) (upd (upd (upd a 13 (a 8)) 14 (a 9)) 15 (.bool (ltZ z1 z2))) H)) := by kernel_rfl
theorem partIns_W (con : CallT) (v : Value) (a b : Int) (H : CH) (K : KP) : funW Tryz.prog con 118 [v,i64 a,i64 b,.func (.func 98) ⟨[]⟩ ⟨[]⟩] H K =
 (InR (Int.add a (Int.ofNat 1)) (
 LoopC Tryz.prog con (lpAt Tryz.prog 118 0) (upd (upd (upd (upd (upd (upd (upd (upd (upd (fun _ => undV) 3 (.func (.func 98) ⟨[]⟩ ⟨[]⟩)) 2 (i64 b)) 1 (i64 a)) 0 v) 8 (.bool false)) 13 (i64 a)) 14 (i64 (Int.add a (Int.ofNat 1)))) 9 (i64 (Int.add a (Int.ofNat 1)))) 10 (iN (0))) H (fun e => ceP e
 (fun a1 H2 =>
 K (.bool false) H2)
 (fun i3 => fun a1 H2 =>
 Cd (eqN i3 0) (
 K (.bool false) H2) (
 False))
 (fun a1 H2 =>
 K (a1 8) H2)))) := by kernel_rfl
theorem partInsA_W (con : CallT) (a : TF) (H : CH) (K : KX) : codeW (lpAt Tryz.prog 118 0) Tryz.prog con a H K =
 (AsInt .i64 (a 10) fun z1 =>
 Cd (ltZ z1 (Int.ofNat 5)) (
 LoopC Tryz.prog con (lpAt Tryz.prog 118 1) (upd (upd a 15 (a 10)) 16 (.bool (ltZ z1 (Int.ofNat 5)))) H (fun e => ceP e
 (fun a2 H3 =>
 AsInt .i64 (a2 9) fun z5 =>
 AsInt .i64 (a2 2) fun z6 =>
 Cd (eqZ z5 z6) (
 K .ret (upd (upd (upd (upd a2 39 (a2 9)) 40 (a2 2)) 41 (.bool (eqZ z5 z6))) 8 (.bool true)) H3) (
 AsInt .i64 (a2 2) fun z7 =>
 AsInt .i64 (a2 1) fun z8 =>
 InR (Int.sub z7 z8) (
 Bnd (upd (upd (upd (upd (upd (upd (upd a2 39 (a2 9)) 40 (a2 2)) 41 (.bool (eqZ z5 z6))) 42 (a2 2)) 43 (a2 1)) 44 (i64 (Int.sub z7 z8))) 45 (.bool (ltZ (Int.sub z7 z8) (Int.ofNat 50)))) fun s1 =>
Cd (ltZ (Int.sub z7 z8) (Int.ofNat 50)) (
 K .ret (upd s1 8 (.bool false)) H3) (
 AsInt .i64 (a2 9) fun z9 =>
 InR (Int.sub z9 (Int.ofNat 1)) (
 AsInt .i64 (a2 9) fun z10 =>
 InR (Int.sub z10 (Int.ofNat 1)) (
 AsSlc (a2 0) fun p11 o12 l13 c14 =>
 AsCnt (i64 (Int.sub z10 (Int.ofNat 1))) fun n15 =>
 Must (ltN n15 l13) (
 Ld H3 p11 (Nat.add (Nat.add o12 (Nat.mul n15 3)) 0) fun v16 =>
 Ld H3 p11 (Nat.add (Nat.add o12 (Nat.mul n15 3)) 1) fun v17 =>
 Ld H3 p11 (Nat.add (Nat.add o12 (Nat.mul n15 3)) 2) fun v18 =>
 AsSlc (a2 0) fun p19 o20 l21 c22 =>
 AsCnt (a2 9) fun n23 =>
 Must (ltN n23 l21) (
 Ld H3 p19 (Nat.add (Nat.add o20 (Nat.mul n23 3)) 0) fun v24 =>
 Ld H3 p19 (Nat.add (Nat.add o20 (Nat.mul n23 3)) 1) fun v25 =>
 Ld H3 p19 (Nat.add (Nat.add o20 (Nat.mul n23 3)) 2) fun v26 =>
 AsSlc (a2 0) fun p27 o28 l29 c30 =>
 AsCnt (a2 9) fun n31 =>
 Must (ltN n31 l29) (
 St H3 p27 (Nat.add o28 (Nat.mul n31 3)) [v16,v17,v18] fun H32 =>
 AsSlc (a2 0) fun p33 o34 l35 c36 =>
 AsCnt (i64 (Int.sub z9 (Int.ofNat 1))) fun n37 =>
 Must (ltN n37 l35) (
 St H32 p33 (Nat.add o34 (Nat.mul n37 3)) [v24,v25,v26] fun H38 =>
 AsInt .i64 (a2 9) fun z39 =>
 AsInt .i64 (a2 1) fun z40 =>
 InR (Int.sub z39 z40) (
 Bnd (upd (upd (upd (upd (upd (upd (upd (upd (upd (upd (upd (upd (upd (upd (upd (upd (upd (upd (upd (upd s1 46 (a2 0)) 47 (a2 9)) 48 (a2 0)) 49 (a2 9)) 50 (i64 (Int.sub z9 (Int.ofNat 1)))) 51 (a2 0)) 52 (a2 9)) 53 (i64 (Int.sub z10 (Int.ofNat 1)))) 54 (ptr p11 (Nat.add o12 (Nat.mul n15 3)))) 55 (.agg ⟨[v16,v17,v18]⟩)) 56 (a2 0)) 57 (a2 9)) 58 (ptr p19 (Nat.add o20 (Nat.mul n23 3)))) 59 (.agg ⟨[v24,v25,v26]⟩)) 60 (ptr p27 (Nat.add o28 (Nat.mul n31 3)))) 61 (ptr p33 (Nat.add o34 (Nat.mul n37 3)))) 62 (a2 9)) 63 (a2 1)) 64 (i64 (Int.sub z39 z40))) 65 (.bool (leZ (Int.ofNat 2) (Int.sub z39 z40)))) fun s2 =>
Cd (leZ (Int.ofNat 2) (Int.sub z39 z40)) (
 AsInt .i64 (a2 9) fun z41 =>
 InR (Int.sub z41 (Int.ofNat 1)) (
 LoopC Tryz.prog con (lpAt Tryz.prog 118 2) (upd (upd (upd s2 66 (a2 9)) 67 (i64 (Int.sub z41 (Int.ofNat 1)))) 11 (i64 (Int.sub z41 (Int.ofNat 1)))) H38 (fun e => ceP e
 (fun a42 H43 =>
 AsInt .i64 (a42 2) fun z45 =>
 AsInt .i64 (a42 9) fun z46 =>
 InR (Int.sub z45 z46) (
 Cd (leZ (Int.ofNat 2) (Int.sub z45 z46)) (
 AsInt .i64 (a42 9) fun z47 =>
 InR (Int.add z47 (Int.ofNat 1)) (
 LoopC Tryz.prog con (lpAt Tryz.prog 118 3) (upd (upd (upd (upd (upd (upd (upd a42 101 (a42 2)) 102 (a42 9)) 103 (i64 (Int.sub z45 z46))) 104 (.bool (leZ (Int.ofNat 2) (Int.sub z45 z46)))) 105 (a42 9)) 106 (i64 (Int.add z47 (Int.ofNat 1)))) 12 (i64 (Int.add z47 (Int.ofNat 1)))) H43 (fun e => ceP e
 (fun a48 H49 =>
 AsInt .i64 (a48 10) fun z51 =>
 InR (Int.add z51 (Int.ofNat 1)) (
 K .normal (upd (upd (upd a48 17 (a48 10)) 18 (i64 (Int.add z51 (Int.ofNat 1)))) 10 (i64 (Int.add z51 (Int.ofNat 1)))) H49))
 (fun i50 => fun a48 H49 =>
 Cd (eqN i50 6) (
 AsInt .i64 (a48 10) fun z52 =>
 InR (Int.add z52 (Int.ofNat 1)) (
 K .normal (upd (upd (upd a48 17 (a48 10)) 18 (i64 (Int.add z52 (Int.ofNat 1)))) 10 (i64 (Int.add z52 (Int.ofNat 1)))) H49)) (
 Cd (eqN i50 1) (
 AsInt .i64 (a48 10) fun z53 =>
 InR (Int.add z53 (Int.ofNat 1)) (
 K .normal (upd (upd (upd a48 17 (a48 10)) 18 (i64 (Int.add z53 (Int.ofNat 1)))) 10 (i64 (Int.add z53 (Int.ofNat 1)))) H49)) (
 K (.exit i50) a48 H49)))
 (fun a48 H49 =>
 K .ret a48 H49)))) (
 AsInt .i64 (a42 10) fun z54 =>
 InR (Int.add z54 (Int.ofNat 1)) (
 K .normal (upd (upd (upd (upd (upd (upd (upd a42 101 (a42 2)) 102 (a42 9)) 103 (i64 (Int.sub z45 z46))) 104 (.bool (leZ (Int.ofNat 2) (Int.sub z45 z46)))) 17 (a42 10)) 18 (i64 (Int.add z54 (Int.ofNat 1)))) 10 (i64 (Int.add z54 (Int.ofNat 1)))) H43))))
 (fun i44 => fun a42 H43 =>
 Cd (eqN i44 4) (
 AsInt .i64 (a42 2) fun z55 =>
 AsInt .i64 (a42 9) fun z56 =>
 InR (Int.sub z55 z56) (
 Cd (leZ (Int.ofNat 2) (Int.sub z55 z56)) (
 AsInt .i64 (a42 9) fun z57 =>
 InR (Int.add z57 (Int.ofNat 1)) (
 LoopC Tryz.prog con (lpAt Tryz.prog 118 3) (upd (upd (upd (upd (upd (upd (upd a42 101 (a42 2)) 102 (a42 9)) 103 (i64 (Int.sub z55 z56))) 104 (.bool (leZ (Int.ofNat 2) (Int.sub z55 z56)))) 105 (a42 9)) 106 (i64 (Int.add z57 (Int.ofNat 1)))) 12 (i64 (Int.add z57 (Int.ofNat 1)))) H43 (fun e => ceP e
 (fun a58 H59 =>
 AsInt .i64 (a58 10) fun z61 =>
 InR (Int.add z61 (Int.ofNat 1)) (
 K .normal (upd (upd (upd a58 17 (a58 10)) 18 (i64 (Int.add z61 (Int.ofNat 1)))) 10 (i64 (Int.add z61 (Int.ofNat 1)))) H59))
 (fun i60 => fun a58 H59 =>
 Cd (eqN i60 6) (
 AsInt .i64 (a58 10) fun z62 =>
 InR (Int.add z62 (Int.ofNat 1)) (
 K .normal (upd (upd (upd a58 17 (a58 10)) 18 (i64 (Int.add z62 (Int.ofNat 1)))) 10 (i64 (Int.add z62 (Int.ofNat 1)))) H59)) (
 Cd (eqN i60 1) (
 AsInt .i64 (a58 10) fun z63 =>
 InR (Int.add z63 (Int.ofNat 1)) (
 K .normal (upd (upd (upd a58 17 (a58 10)) 18 (i64 (Int.add z63 (Int.ofNat 1)))) 10 (i64 (Int.add z63 (Int.ofNat 1)))) H59)) (
 K (.exit i60) a58 H59)))
 (fun a58 H59 =>
 K .ret a58 H59)))) (
 AsInt .i64 (a42 10) fun z64 =>
 InR (Int.add z64 (Int.ofNat 1)) (
 K .normal (upd (upd (upd (upd (upd (upd (upd a42 101 (a42 2)) 102 (a42 9)) 103 (i64 (Int.sub z55 z56))) 104 (.bool (leZ (Int.ofNat 2) (Int.sub z55 z56)))) 17 (a42 10)) 18 (i64 (Int.add z64 (Int.ofNat 1)))) 10 (i64 (Int.add z64 (Int.ofNat 1)))) H43)))) (
 Cd (eqN i44 1) (
 AsInt .i64 (a42 10) fun z65 =>
 InR (Int.add z65 (Int.ofNat 1)) (
 K .normal (upd (upd (upd a42 17 (a42 10)) 18 (i64 (Int.add z65 (Int.ofNat 1)))) 10 (i64 (Int.add z65 (Int.ofNat 1)))) H43)) (
 K (.exit i44) a42 H43)))
 (fun a42 H43 =>
 K .ret a42 H43)))) (
 AsInt .i64 (a2 2) fun z66 =>
 AsInt .i64 (a2 9) fun z67 =>
 InR (Int.sub z66 z67) (
 Cd (leZ (Int.ofNat 2) (Int.sub z66 z67)) (
 AsInt .i64 (a2 9) fun z68 =>
 InR (Int.add z68 (Int.ofNat 1)) (
 LoopC Tryz.prog con (lpAt Tryz.prog 118 3) (upd (upd (upd (upd (upd (upd (upd s2 101 (a2 2)) 102 (a2 9)) 103 (i64 (Int.sub z66 z67))) 104 (.bool (leZ (Int.ofNat 2) (Int.sub z66 z67)))) 105 (a2 9)) 106 (i64 (Int.add z68 (Int.ofNat 1)))) 12 (i64 (Int.add z68 (Int.ofNat 1)))) H38 (fun e => ceP e
 (fun a69 H70 =>
 AsInt .i64 (a69 10) fun z72 =>
 InR (Int.add z72 (Int.ofNat 1)) (
 K .normal (upd (upd (upd a69 17 (a69 10)) 18 (i64 (Int.add z72 (Int.ofNat 1)))) 10 (i64 (Int.add z72 (Int.ofNat 1)))) H70))
 (fun i71 => fun a69 H70 =>
 Cd (eqN i71 6) (
 AsInt .i64 (a69 10) fun z73 =>
 InR (Int.add z73 (Int.ofNat 1)) (
 K .normal (upd (upd (upd a69 17 (a69 10)) 18 (i64 (Int.add z73 (Int.ofNat 1)))) 10 (i64 (Int.add z73 (Int.ofNat 1)))) H70)) (
 Cd (eqN i71 1) (
 AsInt .i64 (a69 10) fun z74 =>
 InR (Int.add z74 (Int.ofNat 1)) (
 K .normal (upd (upd (upd a69 17 (a69 10)) 18 (i64 (Int.add z74 (Int.ofNat 1)))) 10 (i64 (Int.add z74 (Int.ofNat 1)))) H70)) (
 K (.exit i71) a69 H70)))
 (fun a69 H70 =>
 K .ret a69 H70)))) (
 AsInt .i64 (a2 10) fun z75 =>
 InR (Int.add z75 (Int.ofNat 1)) (
 K .normal (upd (upd (upd (upd (upd (upd (upd s2 101 (a2 2)) 102 (a2 9)) 103 (i64 (Int.sub z66 z67))) 104 (.bool (leZ (Int.ofNat 2) (Int.sub z66 z67)))) 17 (a2 10)) 18 (i64 (Int.add z75 (Int.ofNat 1)))) 10 (i64 (Int.add z75 (Int.ofNat 1)))) H38)))))))))))))))
 (fun i4 => fun a2 H3 =>
 Cd (eqN i4 2) (
 AsInt .i64 (a2 9) fun z76 =>
 AsInt .i64 (a2 2) fun z77 =>
 Cd (eqZ z76 z77) (
 K .ret (upd (upd (upd (upd a2 39 (a2 9)) 40 (a2 2)) 41 (.bool (eqZ z76 z77))) 8 (.bool true)) H3) (
 AsInt .i64 (a2 2) fun z78 =>
 AsInt .i64 (a2 1) fun z79 =>
 InR (Int.sub z78 z79) (
 Bnd (upd (upd (upd (upd (upd (upd (upd a2 39 (a2 9)) 40 (a2 2)) 41 (.bool (eqZ z76 z77))) 42 (a2 2)) 43 (a2 1)) 44 (i64 (Int.sub z78 z79))) 45 (.bool (ltZ (Int.sub z78 z79) (Int.ofNat 50)))) fun s3 =>
Cd (ltZ (Int.sub z78 z79) (Int.ofNat 50)) (
 K .ret (upd s3 8 (.bool false)) H3) (
 AsInt .i64 (a2 9) fun z80 =>
 InR (Int.sub z80 (Int.ofNat 1)) (
 AsInt .i64 (a2 9) fun z81 =>
 InR (Int.sub z81 (Int.ofNat 1)) (
 AsSlc (a2 0) fun p82 o83 l84 c85 =>
 AsCnt (i64 (Int.sub z81 (Int.ofNat 1))) fun n86 =>
 Must (ltN n86 l84) (
 Ld H3 p82 (Nat.add (Nat.add o83 (Nat.mul n86 3)) 0) fun v87 =>
 Ld H3 p82 (Nat.add (Nat.add o83 (Nat.mul n86 3)) 1) fun v88 =>
 Ld H3 p82 (Nat.add (Nat.add o83 (Nat.mul n86 3)) 2) fun v89 =>
 AsSlc (a2 0) fun p90 o91 l92 c93 =>
 AsCnt (a2 9) fun n94 =>
 Must (ltN n94 l92) (
 Ld H3 p90 (Nat.add (Nat.add o91 (Nat.mul n94 3)) 0) fun v95 =>
 Ld H3 p90 (Nat.add (Nat.add o91 (Nat.mul n94 3)) 1) fun v96 =>
 Ld H3 p90 (Nat.add (Nat.add o91 (Nat.mul n94 3)) 2) fun v97 =>
 AsSlc (a2 0) fun p98 o99 l100 c101 =>
 AsCnt (a2 9) fun n102 =>
 Must (ltN n102 l100) (
 St H3 p98 (Nat.add o99 (Nat.mul n102 3)) [v87,v88,v89] fun H103 =>
 AsSlc (a2 0) fun p104 o105 l106 c107 =>
 AsCnt (i64 (Int.sub z80 (Int.ofNat 1))) fun n108 =>
 Must (ltN n108 l106) (
 St H103 p104 (Nat.add o105 (Nat.mul n108 3)) [v95,v96,v97] fun H109 =>
 AsInt .i64 (a2 9) fun z110 =>
 AsInt .i64 (a2 1) fun z111 =>
 InR (Int.sub z110 z111) (
 Bnd (upd (upd (upd (upd (upd (upd (upd (upd (upd (upd (upd (upd (upd (upd (upd (upd (upd (upd (upd (upd s3 46 (a2 0)) 47 (a2 9)) 48 (a2 0)) 49 (a2 9)) 50 (i64 (Int.sub z80 (Int.ofNat 1)))) 51 (a2 0)) 52 (a2 9)) 53 (i64 (Int.sub z81 (Int.ofNat 1)))) 54 (ptr p82 (Nat.add o83 (Nat.mul n86 3)))) 55 (.agg ⟨[v87,v88,v89]⟩)) 56 (a2 0)) 57 (a2 9)) 58 (ptr p90 (Nat.add o91 (Nat.mul n94 3)))) 59 (.agg ⟨[v95,v96,v97]⟩)) 60 (ptr p98 (Nat.add o99 (Nat.mul n102 3)))) 61 (ptr p104 (Nat.add o105 (Nat.mul n108 3)))) 62 (a2 9)) 63 (a2 1)) 64 (i64 (Int.sub z110 z111))) 65 (.bool (leZ (Int.ofNat 2) (Int.sub z110 z111)))) fun s4 =>
Cd (leZ (Int.ofNat 2) (Int.sub z110 z111)) (
 AsInt .i64 (a2 9) fun z112 =>
 InR (Int.sub z112 (Int.ofNat 1)) (
 LoopC Tryz.prog con (lpAt Tryz.prog 118 2) (upd (upd (upd s4 66 (a2 9)) 67 (i64 (Int.sub z112 (Int.ofNat 1)))) 11 (i64 (Int.sub z112 (Int.ofNat 1)))) H109 (fun e => ceP e
 (fun a113 H114 =>
 AsInt .i64 (a113 2) fun z116 =>
 AsInt .i64 (a113 9) fun z117 =>
 InR (Int.sub z116 z117) (
 Cd (leZ (Int.ofNat 2) (Int.sub z116 z117)) (
 AsInt .i64 (a113 9) fun z118 =>
 InR (Int.add z118 (Int.ofNat 1)) (
 LoopC Tryz.prog con (lpAt Tryz.prog 118 3) (upd (upd (upd (upd (upd (upd (upd a113 101 (a113 2)) 102 (a113 9)) 103 (i64 (Int.sub z116 z117))) 104 (.bool (leZ (Int.ofNat 2) (Int.sub z116 z117)))) 105 (a113 9)) 106 (i64 (Int.add z118 (Int.ofNat 1)))) 12 (i64 (Int.add z118 (Int.ofNat 1)))) H114 (fun e => ceP e
 (fun a119 H120 =>
 AsInt .i64 (a119 10) fun z122 =>
 InR (Int.add z122 (Int.ofNat 1)) (
 K .normal (upd (upd (upd a119 17 (a119 10)) 18 (i64 (Int.add z122 (Int.ofNat 1)))) 10 (i64 (Int.add z122 (Int.ofNat 1)))) H120))
 (fun i121 => fun a119 H120 =>
 Cd (eqN i121 6) (
 AsInt .i64 (a119 10) fun z123 =>
 InR (Int.add z123 (Int.ofNat 1)) (
 K .normal (upd (upd (upd a119 17 (a119 10)) 18 (i64 (Int.add z123 (Int.ofNat 1)))) 10 (i64 (Int.add z123 (Int.ofNat 1)))) H120)) (
 Cd (eqN i121 1) (
 AsInt .i64 (a119 10) fun z124 =>
 InR (Int.add z124 (Int.ofNat 1)) (
 K .normal (upd (upd (upd a119 17 (a119 10)) 18 (i64 (Int.add z124 (Int.ofNat 1)))) 10 (i64 (Int.add z124 (Int.ofNat 1)))) H120)) (
 K (.exit i121) a119 H120)))
 (fun a119 H120 =>
 K .ret a119 H120)))) (
 AsInt .i64 (a113 10) fun z125 =>
 InR (Int.add z125 (Int.ofNat 1)) (
 K .normal (upd (upd (upd (upd (upd (upd (upd a113 101 (a113 2)) 102 (a113 9)) 103 (i64 (Int.sub z116 z117))) 104 (.bool (leZ (Int.ofNat 2) (Int.sub z116 z117)))) 17 (a113 10)) 18 (i64 (Int.add z125 (Int.ofNat 1)))) 10 (i64 (Int.add z125 (Int.ofNat 1)))) H114))))
 (fun i115 => fun a113 H114 =>
 Cd (eqN i115 4) (
 AsInt .i64 (a113 2) fun z126 =>
 AsInt .i64 (a113 9) fun z127 =>
 InR (Int.sub z126 z127) (
 Cd (leZ (Int.ofNat 2) (Int.sub z126 z127)) (
 AsInt .i64 (a113 9) fun z128 =>
 InR (Int.add z128 (Int.ofNat 1)) (
 LoopC Tryz.prog con (lpAt Tryz.prog 118 3) (upd (upd (upd (upd (upd (upd (upd a113 101 (a113 2)) 102 (a113 9)) 103 (i64 (Int.sub z126 z127))) 104 (.bool (leZ (Int.ofNat 2) (Int.sub z126 z127)))) 105 (a113 9)) 106 (i64 (Int.add z128 (Int.ofNat 1)))) 12 (i64 (Int.add z128 (Int.ofNat 1)))) H114 (fun e => ceP e
 (fun a129 H130 =>
 AsInt .i64 (a129 10) fun z132 =>
 InR (Int.add z132 (Int.ofNat 1)) (
 K .normal (upd (upd (upd a129 17 (a129 10)) 18 (i64 (Int.add z132 (Int.ofNat 1)))) 10 (i64 (Int.add z132 (Int.ofNat 1)))) H130))
 (fun i131 => fun a129 H130 =>
 Cd (eqN i131 6) (
 AsInt .i64 (a129 10) fun z133 =>
 InR (Int.add z133 (Int.ofNat 1)) (
 K .normal (upd (upd (upd a129 17 (a129 10)) 18 (i64 (Int.add z133 (Int.ofNat 1)))) 10 (i64 (Int.add z133 (Int.ofNat 1)))) H130)) (
 Cd (eqN i131 1) (
 AsInt .i64 (a129 10) fun z134 =>
 InR (Int.add z134 (Int.ofNat 1)) (
 K .normal (upd (upd (upd a129 17 (a129 10)) 18 (i64 (Int.add z134 (Int.ofNat 1)))) 10 (i64 (Int.add z134 (Int.ofNat 1)))) H130)) (
 K (.exit i131) a129 H130)))
 (fun a129 H130 =>
 K .ret a129 H130)))) (
 AsInt .i64 (a113 10) fun z135 =>
 InR (Int.add z135 (Int.ofNat 1)) (
 K .normal (upd (upd (upd (upd (upd (upd (upd a113 101 (a113 2)) 102 (a113 9)) 103 (i64 (Int.sub z126 z127))) 104 (.bool (leZ (Int.ofNat 2) (Int.sub z126 z127)))) 17 (a113 10)) 18 (i64 (Int.add z135 (Int.ofNat 1)))) 10 (i64 (Int.add z135 (Int.ofNat 1)))) H114)))) (
 Cd (eqN i115 1) (
 AsInt .i64 (a113 10) fun z136 =>
 InR (Int.add z136 (Int.ofNat 1)) (
 K .normal (upd (upd (upd a113 17 (a113 10)) 18 (i64 (Int.add z136 (Int.ofNat 1)))) 10 (i64 (Int.add z136 (Int.ofNat 1)))) H114)) (
 K (.exit i115) a113 H114)))
 (fun a113 H114 =>
 K .ret a113 H114)))) (
 AsInt .i64 (a2 2) fun z137 =>
 AsInt .i64 (a2 9) fun z138 =>
 InR (Int.sub z137 z138) (
 Cd (leZ (Int.ofNat 2) (Int.sub z137 z138)) (
 AsInt .i64 (a2 9) fun z139 =>
 InR (Int.add z139 (Int.ofNat 1)) (
 LoopC Tryz.prog con (lpAt Tryz.prog 118 3) (upd (upd (upd (upd (upd (upd (upd s4 101 (a2 2)) 102 (a2 9)) 103 (i64 (Int.sub z137 z138))) 104 (.bool (leZ (Int.ofNat 2) (Int.sub z137 z138)))) 105 (a2 9)) 106 (i64 (Int.add z139 (Int.ofNat 1)))) 12 (i64 (Int.add z139 (Int.ofNat 1)))) H109 (fun e => ceP e
 (fun a140 H141 =>
 AsInt .i64 (a140 10) fun z143 =>
 InR (Int.add z143 (Int.ofNat 1)) (
 K .normal (upd (upd (upd a140 17 (a140 10)) 18 (i64 (Int.add z143 (Int.ofNat 1)))) 10 (i64 (Int.add z143 (Int.ofNat 1)))) H141))
 (fun i142 => fun a140 H141 =>
 Cd (eqN i142 6) (
 AsInt .i64 (a140 10) fun z144 =>
 InR (Int.add z144 (Int.ofNat 1)) (
 K .normal (upd (upd (upd a140 17 (a140 10)) 18 (i64 (Int.add z144 (Int.ofNat 1)))) 10 (i64 (Int.add z144 (Int.ofNat 1)))) H141)) (
 Cd (eqN i142 1) (
 AsInt .i64 (a140 10) fun z145 =>
 InR (Int.add z145 (Int.ofNat 1)) (
 K .normal (upd (upd (upd a140 17 (a140 10)) 18 (i64 (Int.add z145 (Int.ofNat 1)))) 10 (i64 (Int.add z145 (Int.ofNat 1)))) H141)) (
 K (.exit i142) a140 H141)))
 (fun a140 H141 =>
 K .ret a140 H141)))) (
 AsInt .i64 (a2 10) fun z146 =>
 InR (Int.add z146 (Int.ofNat 1)) (
 K .normal (upd (upd (upd (upd (upd (upd (upd s4 101 (a2 2)) 102 (a2 9)) 103 (i64 (Int.sub z137 z138))) 104 (.bool (leZ (Int.ofNat 2) (Int.sub z137 z138)))) 17 (a2 10)) 18 (i64 (Int.add z146 (Int.ofNat 1)))) 10 (i64 (Int.add z146 (Int.ofNat 1)))) H109))))))))))))))) (
 Cd (eqN i4 1) (
 AsInt .i64 (a2 10) fun z147 =>
 InR (Int.add z147 (Int.ofNat 1)) (
 K .normal (upd (upd (upd a2 17 (a2 10)) 18 (i64 (Int.add z147 (Int.ofNat 1)))) 10 (i64 (Int.add z147 (Int.ofNat 1)))) H3)) (
 K (.exit i4) a2 H3)))
 (fun a2 H3 =>
 K .ret a2 H3))) (
 K (.exit 0) (upd (upd a 15 (a 10)) 16 (.bool (ltZ z1 (Int.ofNat 5)))) H)) := by kernel_rfl
theorem partInsB_W (con : CallT) (a : TF) (H : CH) (K : KX) : codeW (lpAt Tryz.prog 118 1) Tryz.prog con a H K =
 (AsInt .i64 (a 9) fun z1 =>
 AsInt .i64 (a 2) fun z2 =>
 Bnd (upd (upd (upd (upd a 19 (a 9)) 20 (a 2)) 21 (.bool (ltZ z1 z2))) 22 (.bool (ltZ z1 z2))) fun s1 =>
Cd (ltZ z1 z2) (
 AsSlc (a 0) fun p3 o4 l5 c6 =>
 AsCnt (a 9) fun n7 =>
 Must (ltN n7 l5) (
 Ld H p3 (Nat.add (Nat.add o4 (Nat.mul n7 3)) 0) fun v8 =>
 Ld H p3 (Nat.add (Nat.add o4 (Nat.mul n7 3)) 1) fun v9 =>
 Ld H p3 (Nat.add (Nat.add o4 (Nat.mul n7 3)) 2) fun v10 =>
 AsInt .i64 (a 9) fun z11 =>
 InR (Int.sub z11 (Int.ofNat 1)) (
 AsSlc (a 0) fun p12 o13 l14 c15 =>
 AsCnt (i64 (Int.sub z11 (Int.ofNat 1))) fun n16 =>
 Must (ltN n16 l14) (
 Ld H p12 (Nat.add (Nat.add o13 (Nat.mul n16 3)) 0) fun v17 =>
 Ld H p12 (Nat.add (Nat.add o13 (Nat.mul n16 3)) 1) fun v18 =>
 Ld H p12 (Nat.add (Nat.add o13 (Nat.mul n16 3)) 2) fun v19 =>
 AsFn (a 3) fun g20 l21 l22 =>
 Must (isFunT Tryz.prog g20) (
 Call1 Tryz.prog con g20 (appF l21 ((.agg ⟨[v8,v9,v10]⟩)::(.agg ⟨[v17,v18,v19]⟩)::l22)) H fun v23 H24 =>
 AsInt .i64 v23 fun z25 =>
 Bnd (upd (upd (upd (upd (upd (upd (upd (upd (upd (upd (upd (upd (upd (upd (upd (upd (upd (upd (upd (upd (upd (upd (upd (upd (upd (upd (upd s1 22 (.bool true)) 23 (a 3)) 22 (.bool true)) 24 (a 0)) 22 (.bool true)) 25 (a 9)) 22 (.bool true)) 26 (ptr p3 (Nat.add o4 (Nat.mul n7 3)))) 22 (.bool true)) 27 (.agg ⟨[v8,v9,v10]⟩)) 22 (.bool true)) 28 (a 0)) 22 (.bool true)) 29 (a 9)) 22 (.bool true)) 30 (i64 (Int.sub z11 (Int.ofNat 1)))) 22 (.bool true)) 31 (ptr p12 (Nat.add o13 (Nat.mul n16 3)))) 22 (.bool true)) 32 (.agg ⟨[v17,v18,v19]⟩)) 22 (.bool true)) 33 v23) 22 (.bool true)) 34 (.bool (ltZ z25 (Int.ofNat 0)))) 22 (.bool true)) 35 (.bool (notB (ltZ z25 (Int.ofNat 0))))) 36 (.bool (notB (ltZ z25 (Int.ofNat 0))))) fun s2 =>
Cd (notB (ltZ z25 (Int.ofNat 0))) (
 AsInt .i64 (a 9) fun z26 =>
 InR (Int.add z26 (Int.ofNat 1)) (
 K .normal (upd (upd (upd s2 37 (a 9)) 38 (i64 (Int.add z26 (Int.ofNat 1)))) 9 (i64 (Int.add z26 (Int.ofNat 1)))) H24)) (
 K (.exit 2) s2 H24)))))) (
 K (.exit 2) (upd (Rz false 22 s1 23 13) 36 (.bool false)) H)) := by kernel_rfl
theorem partEq_W (con : CallT) (v : Value) (a b c : Int) (H : CH) (K : KP) : funW Tryz.prog con 119 [v,i64 a,i64 b,i64 c,.func (.func 98) ⟨[]⟩ ⟨[]⟩] H K =
 (AsSlc v fun p1 o2 l3 c4 =>
 AsCnt (i64 c) fun n5 =>
 Must (ltN n5 l3) (
 Ld H p1 (Nat.add (Nat.add o2 (Nat.mul n5 3)) 0) fun v6 =>
 Ld H p1 (Nat.add (Nat.add o2 (Nat.mul n5 3)) 1) fun v7 =>
 Ld H p1 (Nat.add (Nat.add o2 (Nat.mul n5 3)) 2) fun v8 =>
 AsSlc v fun p9 o10 l11 c12 =>
 AsCnt (i64 a) fun n13 =>
 Must (ltN n13 l11) (
 Ld H p9 (Nat.add (Nat.add o10 (Nat.mul n13 3)) 0) fun v14 =>
 Ld H p9 (Nat.add (Nat.add o10 (Nat.mul n13 3)) 1) fun v15 =>
 Ld H p9 (Nat.add (Nat.add o10 (Nat.mul n13 3)) 2) fun v16 =>
 AsSlc v fun p17 o18 l19 c20 =>
 AsCnt (i64 a) fun n21 =>
 Must (ltN n21 l19) (
 St H p17 (Nat.add o18 (Nat.mul n21 3)) [v6,v7,v8] fun H22 =>
 AsSlc v fun p23 o24 l25 c26 =>
 AsCnt (i64 c) fun n27 =>
 Must (ltN n27 l25) (
 St H22 p23 (Nat.add o24 (Nat.mul n27 3)) [v14,v15,v16] fun H28 =>
 InR (Int.add a (Int.ofNat 1)) (
 InR (Int.sub b (Int.ofNat 1)) (
 LoopC Tryz.prog con (lpAt Tryz.prog 119 0) (upd (upd (upd (upd (upd (upd (upd (upd (upd (upd (upd (upd (upd (upd (upd (upd (upd (upd (upd (upd (upd (upd (upd (upd (upd (upd (fun _ => undV) 4 (.func (.func 98) ⟨[]⟩ ⟨[]⟩)) 3 (i64 c)) 2 (i64 b)) 1 (i64 a)) 0 v) 10 (iN (0))) 13 v) 14 (i64 a)) 15 v) 16 (i64 c)) 17 v) 18 (i64 c)) 19 (ptr p1 (Nat.add o2 (Nat.mul n5 3)))) 20 (.agg ⟨[v6,v7,v8]⟩)) 21 v) 22 (i64 a)) 23 (ptr p9 (Nat.add o10 (Nat.mul n13 3)))) 24 (.agg ⟨[v14,v15,v16]⟩)) 25 (ptr p17 (Nat.add o18 (Nat.mul n21 3)))) 26 (ptr p23 (Nat.add o24 (Nat.mul n27 3)))) 27 (i64 a)) 28 (i64 (Int.add a (Int.ofNat 1)))) 29 (i64 b)) 30 (i64 (Int.sub b (Int.ofNat 1)))) 11 (i64 (Int.add a (Int.ofNat 1)))) 12 (i64 (Int.sub b (Int.ofNat 1)))) H28 (fun e => ceP e
 (fun a29 H30 =>
 K (a29 11) H30)
 (fun i31 => fun a29 H30 =>
 Cd (eqN i31 0) (
 K (a29 11) H30) (
 False))
 (fun a29 H30 =>
 K (a29 10) H30))))))))) := by kernel_rfl
theorem partEqA_W (con : CallT) (a : TF) (H : CH) (K : KX) : codeW (lpAt Tryz.prog 119 0) Tryz.prog con a H K =
 (LoopC Tryz.prog con (lpAt Tryz.prog 119 1) a H (fun e => ceP e
 (fun a1 H2 =>
 LoopC Tryz.prog con (lpAt Tryz.prog 119 2) a1 H2 (fun e => ceP e
 (fun a4 H5 =>
 AsInt .i64 (a4 11) fun z7 =>
 AsInt .i64 (a4 12) fun z8 =>
 Cd (ltZ z8 z7) (
 K (.exit 0) (upd (upd (upd a4 68 (a4 11)) 69 (a4 12)) 70 (.bool (ltZ z8 z7))) H5) (
 AsSlc (a4 0) fun p9 o10 l11 c12 =>
 AsCnt (a4 12) fun n13 =>
 Must (ltN n13 l11) (
 Ld H5 p9 (Nat.add (Nat.add o10 (Nat.mul n13 3)) 0) fun v14 =>
 Ld H5 p9 (Nat.add (Nat.add o10 (Nat.mul n13 3)) 1) fun v15 =>
 Ld H5 p9 (Nat.add (Nat.add o10 (Nat.mul n13 3)) 2) fun v16 =>
 AsSlc (a4 0) fun p17 o18 l19 c20 =>
 AsCnt (a4 11) fun n21 =>
 Must (ltN n21 l19) (
 Ld H5 p17 (Nat.add (Nat.add o18 (Nat.mul n21 3)) 0) fun v22 =>
 Ld H5 p17 (Nat.add (Nat.add o18 (Nat.mul n21 3)) 1) fun v23 =>
 Ld H5 p17 (Nat.add (Nat.add o18 (Nat.mul n21 3)) 2) fun v24 =>
 AsSlc (a4 0) fun p25 o26 l27 c28 =>
 AsCnt (a4 11) fun n29 =>
 Must (ltN n29 l27) (
 St H5 p25 (Nat.add o26 (Nat.mul n29 3)) [v14,v15,v16] fun H30 =>
 AsSlc (a4 0) fun p31 o32 l33 c34 =>
 AsCnt (a4 12) fun n35 =>
 Must (ltN n35 l33) (
 St H30 p31 (Nat.add o32 (Nat.mul n35 3)) [v22,v23,v24] fun H36 =>
 AsInt .i64 (a4 11) fun z37 =>
 InR (Int.add z37 (Int.ofNat 1)) (
 AsInt .i64 (a4 12) fun z38 =>
 InR (Int.sub z38 (Int.ofNat 1)) (
 K .normal (upd (upd (upd (upd (upd (upd (upd (upd (upd (upd (upd (upd (upd (upd (upd (upd (upd (upd (upd (upd (upd (upd (upd a4 68 (a4 11)) 69 (a4 12)) 70 (.bool (ltZ z8 z7))) 71 (a4 0)) 72 (a4 11)) 73 (a4 0)) 74 (a4 12)) 75 (a4 0)) 76 (a4 12)) 77 (ptr p9 (Nat.add o10 (Nat.mul n13 3)))) 78 (.agg ⟨[v14,v15,v16]⟩)) 79 (a4 0)) 80 (a4 11)) 81 (ptr p17 (Nat.add o18 (Nat.mul n21 3)))) 82 (.agg ⟨[v22,v23,v24]⟩)) 83 (ptr p25 (Nat.add o26 (Nat.mul n29 3)))) 84 (ptr p31 (Nat.add o32 (Nat.mul n35 3)))) 85 (a4 11)) 86 (i64 (Int.add z37 (Int.ofNat 1)))) 11 (i64 (Int.add z37 (Int.ofNat 1)))) 87 (a4 12)) 88 (i64 (Int.sub z38 (Int.ofNat 1)))) 12 (i64 (Int.sub z38 (Int.ofNat 1)))) H36))))))))
 (fun i6 => fun a4 H5 =>
 Cd (eqN i6 4) (
 AsInt .i64 (a4 11) fun z39 =>
 AsInt .i64 (a4 12) fun z40 =>
 Cd (ltZ z40 z39) (
 K (.exit 0) (upd (upd (upd a4 68 (a4 11)) 69 (a4 12)) 70 (.bool (ltZ z40 z39))) H5) (
 AsSlc (a4 0) fun p41 o42 l43 c44 =>
 AsCnt (a4 12) fun n45 =>
 Must (ltN n45 l43) (
 Ld H5 p41 (Nat.add (Nat.add o42 (Nat.mul n45 3)) 0) fun v46 =>
 Ld H5 p41 (Nat.add (Nat.add o42 (Nat.mul n45 3)) 1) fun v47 =>
 Ld H5 p41 (Nat.add (Nat.add o42 (Nat.mul n45 3)) 2) fun v48 =>
 AsSlc (a4 0) fun p49 o50 l51 c52 =>
 AsCnt (a4 11) fun n53 =>
 Must (ltN n53 l51) (
 Ld H5 p49 (Nat.add (Nat.add o50 (Nat.mul n53 3)) 0) fun v54 =>
 Ld H5 p49 (Nat.add (Nat.add o50 (Nat.mul n53 3)) 1) fun v55 =>
 Ld H5 p49 (Nat.add (Nat.add o50 (Nat.mul n53 3)) 2) fun v56 =>
 AsSlc (a4 0) fun p57 o58 l59 c60 =>
 AsCnt (a4 11) fun n61 =>
 Must (ltN n61 l59) (
 St H5 p57 (Nat.add o58 (Nat.mul n61 3)) [v46,v47,v48] fun H62 =>
 AsSlc (a4 0) fun p63 o64 l65 c66 =>
 AsCnt (a4 12) fun n67 =>
 Must (ltN n67 l65) (
 St H62 p63 (Nat.add o64 (Nat.mul n67 3)) [v54,v55,v56] fun H68 =>
 AsInt .i64 (a4 11) fun z69 =>
 InR (Int.add z69 (Int.ofNat 1)) (
 AsInt .i64 (a4 12) fun z70 =>
 InR (Int.sub z70 (Int.ofNat 1)) (
 K .normal (upd (upd (upd (upd (upd (upd (upd (upd (upd (upd (upd (upd (upd (upd (upd (upd (upd (upd (upd (upd (upd (upd (upd a4 68 (a4 11)) 69 (a4 12)) 70 (.bool (ltZ z40 z39))) 71 (a4 0)) 72 (a4 11)) 73 (a4 0)) 74 (a4 12)) 75 (a4 0)) 76 (a4 12)) 77 (ptr p41 (Nat.add o42 (Nat.mul n45 3)))) 78 (.agg ⟨[v46,v47,v48]⟩)) 79 (a4 0)) 80 (a4 11)) 81 (ptr p49 (Nat.add o50 (Nat.mul n53 3)))) 82 (.agg ⟨[v54,v55,v56]⟩)) 83 (ptr p57 (Nat.add o58 (Nat.mul n61 3)))) 84 (ptr p63 (Nat.add o64 (Nat.mul n67 3)))) 85 (a4 11)) 86 (i64 (Int.add z69 (Int.ofNat 1)))) 11 (i64 (Int.add z69 (Int.ofNat 1)))) 87 (a4 12)) 88 (i64 (Int.sub z70 (Int.ofNat 1)))) 12 (i64 (Int.sub z70 (Int.ofNat 1)))) H68)))))))) (
 Cd (eqN i6 1) (
 K .normal a4 H5) (
 K (.exit i6) a4 H5)))
 (fun a4 H5 =>
 K .ret a4 H5)))
 (fun i3 => fun a1 H2 =>
 Cd (eqN i3 2) (
 LoopC Tryz.prog con (lpAt Tryz.prog 119 2) a1 H2 (fun e => ceP e
 (fun a71 H72 =>
 AsInt .i64 (a71 11) fun z74 =>
 AsInt .i64 (a71 12) fun z75 =>
 Cd (ltZ z75 z74) (
 K (.exit 0) (upd (upd (upd a71 68 (a71 11)) 69 (a71 12)) 70 (.bool (ltZ z75 z74))) H72) (
 AsSlc (a71 0) fun p76 o77 l78 c79 =>
 AsCnt (a71 12) fun n80 =>
 Must (ltN n80 l78) (
 Ld H72 p76 (Nat.add (Nat.add o77 (Nat.mul n80 3)) 0) fun v81 =>
 Ld H72 p76 (Nat.add (Nat.add o77 (Nat.mul n80 3)) 1) fun v82 =>
 Ld H72 p76 (Nat.add (Nat.add o77 (Nat.mul n80 3)) 2) fun v83 =>
 AsSlc (a71 0) fun p84 o85 l86 c87 =>
 AsCnt (a71 11) fun n88 =>
 Must (ltN n88 l86) (
 Ld H72 p84 (Nat.add (Nat.add o85 (Nat.mul n88 3)) 0) fun v89 =>
 Ld H72 p84 (Nat.add (Nat.add o85 (Nat.mul n88 3)) 1) fun v90 =>
 Ld H72 p84 (Nat.add (Nat.add o85 (Nat.mul n88 3)) 2) fun v91 =>
 AsSlc (a71 0) fun p92 o93 l94 c95 =>
 AsCnt (a71 11) fun n96 =>
 Must (ltN n96 l94) (
 St H72 p92 (Nat.add o93 (Nat.mul n96 3)) [v81,v82,v83] fun H97 =>
 AsSlc (a71 0) fun p98 o99 l100 c101 =>
 AsCnt (a71 12) fun n102 =>
 Must (ltN n102 l100) (
 St H97 p98 (Nat.add o99 (Nat.mul n102 3)) [v89,v90,v91] fun H103 =>
 AsInt .i64 (a71 11) fun z104 =>
 InR (Int.add z104 (Int.ofNat 1)) (
 AsInt .i64 (a71 12) fun z105 =>
 InR (Int.sub z105 (Int.ofNat 1)) (
 K .normal (upd (upd (upd (upd (upd (upd (upd (upd (upd (upd (upd (upd (upd (upd (upd (upd (upd (upd (upd (upd (upd (upd (upd a71 68 (a71 11)) 69 (a71 12)) 70 (.bool (ltZ z75 z74))) 71 (a71 0)) 72 (a71 11)) 73 (a71 0)) 74 (a71 12)) 75 (a71 0)) 76 (a71 12)) 77 (ptr p76 (Nat.add o77 (Nat.mul n80 3)))) 78 (.agg ⟨[v81,v82,v83]⟩)) 79 (a71 0)) 80 (a71 11)) 81 (ptr p84 (Nat.add o85 (Nat.mul n88 3)))) 82 (.agg ⟨[v89,v90,v91]⟩)) 83 (ptr p92 (Nat.add o93 (Nat.mul n96 3)))) 84 (ptr p98 (Nat.add o99 (Nat.mul n102 3)))) 85 (a71 11)) 86 (i64 (Int.add z104 (Int.ofNat 1)))) 11 (i64 (Int.add z104 (Int.ofNat 1)))) 87 (a71 12)) 88 (i64 (Int.sub z105 (Int.ofNat 1)))) 12 (i64 (Int.sub z105 (Int.ofNat 1)))) H103))))))))
 (fun i73 => fun a71 H72 =>
 Cd (eqN i73 4) (
 AsInt .i64 (a71 11) fun z106 =>
 AsInt .i64 (a71 12) fun z107 =>
 Cd (ltZ z107 z106) (
 K (.exit 0) (upd (upd (upd a71 68 (a71 11)) 69 (a71 12)) 70 (.bool (ltZ z107 z106))) H72) (
 AsSlc (a71 0) fun p108 o109 l110 c111 =>
 AsCnt (a71 12) fun n112 =>
 Must (ltN n112 l110) (
 Ld H72 p108 (Nat.add (Nat.add o109 (Nat.mul n112 3)) 0) fun v113 =>
 Ld H72 p108 (Nat.add (Nat.add o109 (Nat.mul n112 3)) 1) fun v114 =>
 Ld H72 p108 (Nat.add (Nat.add o109 (Nat.mul n112 3)) 2) fun v115 =>
 AsSlc (a71 0) fun p116 o117 l118 c119 =>
 AsCnt (a71 11) fun n120 =>
 Must (ltN n120 l118) (
 Ld H72 p116 (Nat.add (Nat.add o117 (Nat.mul n120 3)) 0) fun v121 =>
 Ld H72 p116 (Nat.add (Nat.add o117 (Nat.mul n120 3)) 1) fun v122 =>
 Ld H72 p116 (Nat.add (Nat.add o117 (Nat.mul n120 3)) 2) fun v123 =>
 AsSlc (a71 0) fun p124 o125 l126 c127 =>
 AsCnt (a71 11) fun n128 =>
 Must (ltN n128 l126) (
 St H72 p124 (Nat.add o125 (Nat.mul n128 3)) [v113,v114,v115] fun H129 =>
 AsSlc (a71 0) fun p130 o131 l132 c133 =>
 AsCnt (a71 12) fun n134 =>
 Must (ltN n134 l132) (
 St H129 p130 (Nat.add o131 (Nat.mul n134 3)) [v121,v122,v123] fun H135 =>
 AsInt .i64 (a71 11) fun z136 =>
 InR (Int.add z136 (Int.ofNat 1)) (
 AsInt .i64 (a71 12) fun z137 =>
 InR (Int.sub z137 (Int.ofNat 1)) (
 K .normal (upd (upd (upd (upd (upd (upd (upd (upd (upd (upd (upd (upd (upd (upd (upd (upd (upd (upd (upd (upd (upd (upd (upd a71 68 (a71 11)) 69 (a71 12)) 70 (.bool (ltZ z107 z106))) 71 (a71 0)) 72 (a71 11)) 73 (a71 0)) 74 (a71 12)) 75 (a71 0)) 76 (a71 12)) 77 (ptr p108 (Nat.add o109 (Nat.mul n112 3)))) 78 (.agg ⟨[v113,v114,v115]⟩)) 79 (a71 0)) 80 (a71 11)) 81 (ptr p116 (Nat.add o117 (Nat.mul n120 3)))) 82 (.agg ⟨[v121,v122,v123]⟩)) 83 (ptr p124 (Nat.add o125 (Nat.mul n128 3)))) 84 (ptr p130 (Nat.add o131 (Nat.mul n134 3)))) 85 (a71 11)) 86 (i64 (Int.add z136 (Int.ofNat 1)))) 11 (i64 (Int.add z136 (Int.ofNat 1)))) 87 (a71 12)) 88 (i64 (Int.sub z137 (Int.ofNat 1)))) 12 (i64 (Int.sub z137 (Int.ofNat 1)))) H135)))))))) (
 Cd (eqN i73 1) (
 K .normal a71 H72) (
 K (.exit i73) a71 H72)))
 (fun a71 H72 =>
 K .ret a71 H72))) (
 Cd (eqN i3 1) (
 K .normal a1 H2) (
 K (.exit i3) a1 H2)))
 (fun a1 H2 =>
 K .ret a1 H2))) := by kernel_rfl
theorem partEqB_W (con : CallT) (a : TF) (H : CH) (K : KX) : codeW (lpAt Tryz.prog 119 1) Tryz.prog con a H K =
 (AsInt .i64 (a 11) fun z1 =>
 AsInt .i64 (a 12) fun z2 =>
 Bnd (upd (upd (upd (upd a 31 (a 11)) 32 (a 12)) 33 (.bool (leZ z1 z2))) 34 (.bool (leZ z1 z2))) fun s1 =>
Cd (leZ z1 z2) (
 AsSlc (a 0) fun p3 o4 l5 c6 =>
 AsCnt (a 1) fun n7 =>
 Must (ltN n7 l5) (
 Ld H p3 (Nat.add (Nat.add o4 (Nat.mul n7 3)) 0) fun v8 =>
 Ld H p3 (Nat.add (Nat.add o4 (Nat.mul n7 3)) 1) fun v9 =>
 Ld H p3 (Nat.add (Nat.add o4 (Nat.mul n7 3)) 2) fun v10 =>
 AsSlc (a 0) fun p11 o12 l13 c14 =>
 AsCnt (a 11) fun n15 =>
 Must (ltN n15 l13) (
 Ld H p11 (Nat.add (Nat.add o12 (Nat.mul n15 3)) 0) fun v16 =>
 Ld H p11 (Nat.add (Nat.add o12 (Nat.mul n15 3)) 1) fun v17 =>
 Ld H p11 (Nat.add (Nat.add o12 (Nat.mul n15 3)) 2) fun v18 =>
 AsFn (a 4) fun g19 l20 l21 =>
 Must (isFunT Tryz.prog g19) (
 Call1 Tryz.prog con g19 (appF l20 ((.agg ⟨[v8,v9,v10]⟩)::(.agg ⟨[v16,v17,v18]⟩)::l21)) H fun v22 H23 =>
 AsInt .i64 v22 fun z24 =>
 Bnd (upd (upd (upd (upd (upd (upd (upd (upd (upd (upd (upd (upd (upd (upd (upd (upd (upd (upd (upd (upd (upd (upd (upd (upd (upd s1 34 (.bool true)) 35 (a 4)) 34 (.bool true)) 36 (a 0)) 34 (.bool true)) 37 (a 1)) 34 (.bool true)) 38 (ptr p3 (Nat.add o4 (Nat.mul n7 3)))) 34 (.bool true)) 39 (.agg ⟨[v8,v9,v10]⟩)) 34 (.bool true)) 40 (a 0)) 34 (.bool true)) 41 (a 11)) 34 (.bool true)) 42 (ptr p11 (Nat.add o12 (Nat.mul n15 3)))) 34 (.bool true)) 43 (.agg ⟨[v16,v17,v18]⟩)) 34 (.bool true)) 44 v22) 34 (.bool true)) 45 (.bool (ltZ z24 (Int.ofNat 0)))) 34 (.bool true)) 46 (.bool (notB (ltZ z24 (Int.ofNat 0))))) 47 (.bool (notB (ltZ z24 (Int.ofNat 0))))) fun s2 =>
Cd (notB (ltZ z24 (Int.ofNat 0))) (
 AsInt .i64 (a 11) fun z25 =>
 InR (Int.add z25 (Int.ofNat 1)) (
 K .normal (upd (upd (upd s2 48 (a 11)) 49 (i64 (Int.add z25 (Int.ofNat 1)))) 11 (i64 (Int.add z25 (Int.ofNat 1)))) H23)) (
 K (.exit 2) s2 H23))))) (
 K (.exit 2) (upd (Rz false 34 s1 35 12) 47 (.bool false)) H)) := by kernel_rfl
theorem partEqC_W (con : CallT) (a : TF) (H : CH) (K : KX) : codeW (lpAt Tryz.prog 119 2) Tryz.prog con a H K =
 (AsInt .i64 (a 11) fun z1 =>
 AsInt .i64 (a 12) fun z2 =>
 Cd (leZ z1 z2) (
 AsSlc (a 0) fun p3 o4 l5 c6 =>
 AsCnt (a 1) fun n7 =>
 Must (ltN n7 l5) (
 Ld H p3 (Nat.add (Nat.add o4 (Nat.mul n7 3)) 0) fun v8 =>
 Ld H p3 (Nat.add (Nat.add o4 (Nat.mul n7 3)) 1) fun v9 =>
 Ld H p3 (Nat.add (Nat.add o4 (Nat.mul n7 3)) 2) fun v10 =>
 AsSlc (a 0) fun p11 o12 l13 c14 =>
 AsCnt (a 12) fun n15 =>
 Must (ltN n15 l13) (
 Ld H p11 (Nat.add (Nat.add o12 (Nat.mul n15 3)) 0) fun v16 =>
 Ld H p11 (Nat.add (Nat.add o12 (Nat.mul n15 3)) 1) fun v17 =>
 Ld H p11 (Nat.add (Nat.add o12 (Nat.mul n15 3)) 2) fun v18 =>
 AsFn (a 4) fun g19 l20 l21 =>
 Must (isFunT Tryz.prog g19) (
 Call1 Tryz.prog con g19 (appF l20 ((.agg ⟨[v8,v9,v10]⟩)::(.agg ⟨[v16,v17,v18]⟩)::l21)) H fun v22 H23 =>
 AsInt .i64 v22 fun z24 =>
 Cd (ltZ z24 (Int.ofNat 0)) (
 AsInt .i64 (a 12) fun z25 =>
 InR (Int.sub z25 (Int.ofNat 1)) (
 K .normal (upd (upd (upd (upd (upd (upd (upd (upd (upd (upd (upd (upd (upd (upd (upd (upd (upd (upd (upd (upd (upd (upd (upd (upd (upd (upd (upd (upd (upd (upd a 50 (a 11)) 51 (a 12)) 52 (.bool (leZ z1 z2))) 53 (.bool (leZ z1 z2))) 53 (.bool true)) 54 (a 4)) 53 (.bool true)) 55 (a 0)) 53 (.bool true)) 56 (a 1)) 53 (.bool true)) 57 (ptr p3 (Nat.add o4 (Nat.mul n7 3)))) 53 (.bool true)) 58 (.agg ⟨[v8,v9,v10]⟩)) 53 (.bool true)) 59 (a 0)) 53 (.bool true)) 60 (a 12)) 53 (.bool true)) 61 (ptr p11 (Nat.add o12 (Nat.mul n15 3)))) 53 (.bool true)) 62 (.agg ⟨[v16,v17,v18]⟩)) 53 (.bool true)) 63 v22) 53 (.bool true)) 64 (.bool (ltZ z24 (Int.ofNat 0)))) 65 (.bool (ltZ z24 (Int.ofNat 0)))) 66 (a 12)) 67 (i64 (Int.sub z25 (Int.ofNat 1)))) 12 (i64 (Int.sub z25 (Int.ofNat 1)))) H23)) (
 K (.exit 4) (upd (upd (upd (upd (upd (upd (upd (upd (upd (upd (upd (upd (upd (upd (upd (upd (upd (upd (upd (upd (upd (upd (upd (upd (upd (upd (upd a 50 (a 11)) 51 (a 12)) 52 (.bool (leZ z1 z2))) 53 (.bool (leZ z1 z2))) 53 (.bool true)) 54 (a 4)) 53 (.bool true)) 55 (a 0)) 53 (.bool true)) 56 (a 1)) 53 (.bool true)) 57 (ptr p3 (Nat.add o4 (Nat.mul n7 3)))) 53 (.bool true)) 58 (.agg ⟨[v8,v9,v10]⟩)) 53 (.bool true)) 59 (a 0)) 53 (.bool true)) 60 (a 12)) 53 (.bool true)) 61 (ptr p11 (Nat.add o12 (Nat.mul n15 3)))) 53 (.bool true)) 62 (.agg ⟨[v16,v17,v18]⟩)) 53 (.bool true)) 63 v22) 53 (.bool true)) 64 (.bool (ltZ z24 (Int.ofNat 0)))) 65 (.bool (ltZ z24 (Int.ofNat 0)))) H23))))) (
 K (.exit 4) (upd (upd (upd (upd (upd (upd (upd (upd (upd (upd (upd (upd (upd (upd (upd (upd (upd (upd (upd (upd (upd (upd (upd (upd (upd (upd (upd a 50 (a 11)) 51 (a 12)) 52 (.bool (leZ z1 z2))) 53 (.bool (leZ z1 z2))) 53 (.bool false)) 54 unit) 53 (.bool false)) 55 unit) 53 (.bool false)) 56 unit) 53 (.bool false)) 57 unit) 53 (.bool false)) 58 unit) 53 (.bool false)) 59 unit) 53 (.bool false)) 60 unit) 53 (.bool false)) 61 unit) 53 (.bool false)) 62 unit) 53 (.bool false)) 63 unit) 53 (.bool false)) 64 unit) 65 (.bool false)) H)) := by kernel_rfl
theorem partOrd_W (con : CallT) (v : Value) (a b c : Int) (H : CH) (K : KP) : funW Tryz.prog con 120 [v,i64 a,i64 b,i64 c,.func (.func 98) ⟨[]⟩ ⟨[]⟩] H K =
 (AsSlc v fun p1 o2 l3 c4 =>
 AsCnt (i64 c) fun n5 =>
 Must (ltN n5 l3) (
 Ld H p1 (Nat.add (Nat.add o2 (Nat.mul n5 3)) 0) fun v6 =>
 Ld H p1 (Nat.add (Nat.add o2 (Nat.mul n5 3)) 1) fun v7 =>
 Ld H p1 (Nat.add (Nat.add o2 (Nat.mul n5 3)) 2) fun v8 =>
 AsSlc v fun p9 o10 l11 c12 =>
 AsCnt (i64 a) fun n13 =>
 Must (ltN n13 l11) (
 Ld H p9 (Nat.add (Nat.add o10 (Nat.mul n13 3)) 0) fun v14 =>
 Ld H p9 (Nat.add (Nat.add o10 (Nat.mul n13 3)) 1) fun v15 =>
 Ld H p9 (Nat.add (Nat.add o10 (Nat.mul n13 3)) 2) fun v16 =>
 AsSlc v fun p17 o18 l19 c20 =>
 AsCnt (i64 a) fun n21 =>
 Must (ltN n21 l19) (
 St H p17 (Nat.add o18 (Nat.mul n21 3)) [v6,v7,v8] fun H22 =>
 AsSlc v fun p23 o24 l25 c26 =>
 AsCnt (i64 c) fun n27 =>
 Must (ltN n27 l25) (
 St H22 p23 (Nat.add o24 (Nat.mul n27 3)) [v14,v15,v16] fun H28 =>
 InR (Int.add a (Int.ofNat 1)) (
 InR (Int.sub b (Int.ofNat 1)) (
 LoopC Tryz.prog con (lpAt Tryz.prog 120 0) (upd (upd (upd (upd (upd (upd (upd (upd (upd (upd (upd (upd (upd (upd (upd (upd (upd (upd (upd (upd (upd (upd (upd (upd (upd (upd (upd (fun _ => undV) 4 (.func (.func 98) ⟨[]⟩ ⟨[]⟩)) 3 (i64 c)) 2 (i64 b)) 1 (i64 a)) 0 v) 10 (iN (0))) 11 (.bool false)) 14 v) 15 (i64 a)) 16 v) 17 (i64 c)) 18 v) 19 (i64 c)) 20 (ptr p1 (Nat.add o2 (Nat.mul n5 3)))) 21 (.agg ⟨[v6,v7,v8]⟩)) 22 v) 23 (i64 a)) 24 (ptr p9 (Nat.add o10 (Nat.mul n13 3)))) 25 (.agg ⟨[v14,v15,v16]⟩)) 26 (ptr p17 (Nat.add o18 (Nat.mul n21 3)))) 27 (ptr p23 (Nat.add o24 (Nat.mul n27 3)))) 28 (i64 a)) 29 (i64 (Int.add a (Int.ofNat 1)))) 30 (i64 b)) 31 (i64 (Int.sub b (Int.ofNat 1)))) 12 (i64 (Int.add a (Int.ofNat 1)))) 13 (i64 (Int.sub b (Int.ofNat 1)))) H28 (fun e => ceP e
 (fun a29 H30 =>
 LoopC Tryz.prog con (lpAt Tryz.prog 120 1) a29 H30 (fun e => ceP e
 (fun a32 H33 =>
 AsInt .i64 (a32 12) fun z35 =>
 AsInt .i64 (a32 13) fun z36 =>
 Cd (ltZ z36 z35) (
 AsSlc (a32 0) fun p37 o38 l39 c40 =>
 AsCnt (a32 1) fun n41 =>
 Must (ltN n41 l39) (
 Ld H33 p37 (Nat.add (Nat.add o38 (Nat.mul n41 3)) 0) fun v42 =>
 Ld H33 p37 (Nat.add (Nat.add o38 (Nat.mul n41 3)) 1) fun v43 =>
 Ld H33 p37 (Nat.add (Nat.add o38 (Nat.mul n41 3)) 2) fun v44 =>
 AsSlc (a32 0) fun p45 o46 l47 c48 =>
 AsCnt (a32 13) fun n49 =>
 Must (ltN n49 l47) (
 Ld H33 p45 (Nat.add (Nat.add o46 (Nat.mul n49 3)) 0) fun v50 =>
 Ld H33 p45 (Nat.add (Nat.add o46 (Nat.mul n49 3)) 1) fun v51 =>
 Ld H33 p45 (Nat.add (Nat.add o46 (Nat.mul n49 3)) 2) fun v52 =>
 AsSlc (a32 0) fun p53 o54 l55 c56 =>
 AsCnt (a32 13) fun n57 =>
 Must (ltN n57 l55) (
 St H33 p53 (Nat.add o54 (Nat.mul n57 3)) [v42,v43,v44] fun H58 =>
 AsSlc (a32 0) fun p59 o60 l61 c62 =>
 AsCnt (a32 1) fun n63 =>
 Must (ltN n63 l61) (
 St H58 p59 (Nat.add o60 (Nat.mul n63 3)) [v50,v51,v52] fun H64 =>
 K (.tuple ⟨[(a32 13),(.bool true)]⟩) H64))))) (
 AsSlc (a32 0) fun p65 o66 l67 c68 =>
 AsCnt (a32 13) fun n69 =>
 Must (ltN n69 l67) (
 Ld H33 p65 (Nat.add (Nat.add o66 (Nat.mul n69 3)) 0) fun v70 =>
 Ld H33 p65 (Nat.add (Nat.add o66 (Nat.mul n69 3)) 1) fun v71 =>
 Ld H33 p65 (Nat.add (Nat.add o66 (Nat.mul n69 3)) 2) fun v72 =>
 AsSlc (a32 0) fun p73 o74 l75 c76 =>
 AsCnt (a32 12) fun n77 =>
 Must (ltN n77 l75) (
 Ld H33 p73 (Nat.add (Nat.add o74 (Nat.mul n77 3)) 0) fun v78 =>
 Ld H33 p73 (Nat.add (Nat.add o74 (Nat.mul n77 3)) 1) fun v79 =>
 Ld H33 p73 (Nat.add (Nat.add o74 (Nat.mul n77 3)) 2) fun v80 =>
 AsSlc (a32 0) fun p81 o82 l83 c84 =>
 AsCnt (a32 12) fun n85 =>
 Must (ltN n85 l83) (
 St H33 p81 (Nat.add o82 (Nat.mul n85 3)) [v70,v71,v72] fun H86 =>
 AsSlc (a32 0) fun p87 o88 l89 c90 =>
 AsCnt (a32 13) fun n91 =>
 Must (ltN n91 l89) (
 St H86 p87 (Nat.add o88 (Nat.mul n91 3)) [v78,v79,v80] fun H92 =>
 AsInt .i64 (a32 12) fun z93 =>
 InR (Int.add z93 (Int.ofNat 1)) (
 AsInt .i64 (a32 13) fun z94 =>
 InR (Int.sub z94 (Int.ofNat 1)) (
 LoopC Tryz.prog con (lpAt Tryz.prog 120 2) (upd (upd (upd (upd (upd (upd (upd (upd (upd (upd (upd (upd (upd (upd (upd (upd (upd (upd (upd (upd (upd (upd (upd a32 69 (a32 12)) 70 (a32 13)) 71 (.bool (ltZ z36 z35))) 87 (a32 0)) 88 (a32 12)) 89 (a32 0)) 90 (a32 13)) 91 (a32 0)) 92 (a32 13)) 93 (ptr p65 (Nat.add o66 (Nat.mul n69 3)))) 94 (.agg ⟨[v70,v71,v72]⟩)) 95 (a32 0)) 96 (a32 12)) 97 (ptr p73 (Nat.add o74 (Nat.mul n77 3)))) 98 (.agg ⟨[v78,v79,v80]⟩)) 99 (ptr p81 (Nat.add o82 (Nat.mul n85 3)))) 100 (ptr p87 (Nat.add o88 (Nat.mul n91 3)))) 101 (a32 12)) 102 (i64 (Int.add z93 (Int.ofNat 1)))) 12 (i64 (Int.add z93 (Int.ofNat 1)))) 103 (a32 13)) 104 (i64 (Int.sub z94 (Int.ofNat 1)))) 13 (i64 (Int.sub z94 (Int.ofNat 1)))) H92 (fun e => ceP e
 (fun a95 H96 =>
 AsSlc (a95 0) fun p98 o99 l100 c101 =>
 AsCnt (a95 1) fun n102 =>
 Must (ltN n102 l100) (
 Ld H96 p98 (Nat.add (Nat.add o99 (Nat.mul n102 3)) 0) fun v103 =>
 Ld H96 p98 (Nat.add (Nat.add o99 (Nat.mul n102 3)) 1) fun v104 =>
 Ld H96 p98 (Nat.add (Nat.add o99 (Nat.mul n102 3)) 2) fun v105 =>
 AsSlc (a95 0) fun p106 o107 l108 c109 =>
 AsCnt (a95 13) fun n110 =>
 Must (ltN n110 l108) (
 Ld H96 p106 (Nat.add (Nat.add o107 (Nat.mul n110 3)) 0) fun v111 =>
 Ld H96 p106 (Nat.add (Nat.add o107 (Nat.mul n110 3)) 1) fun v112 =>
 Ld H96 p106 (Nat.add (Nat.add o107 (Nat.mul n110 3)) 2) fun v113 =>
 AsSlc (a95 0) fun p114 o115 l116 c117 =>
 AsCnt (a95 13) fun n118 =>
 Must (ltN n118 l116) (
 St H96 p114 (Nat.add o115 (Nat.mul n118 3)) [v103,v104,v105] fun H119 =>
 AsSlc (a95 0) fun p120 o121 l122 c123 =>
 AsCnt (a95 1) fun n124 =>
 Must (ltN n124 l122) (
 St H119 p120 (Nat.add o121 (Nat.mul n124 3)) [v111,v112,v113] fun H125 =>
 K (.tuple ⟨[(a95 13),(.bool false)]⟩) H125)))))
 (fun i97 => fun a95 H96 =>
 Cd (eqN i97 4) (
 AsSlc (a95 0) fun p126 o127 l128 c129 =>
 AsCnt (a95 1) fun n130 =>
 Must (ltN n130 l128) (
 Ld H96 p126 (Nat.add (Nat.add o127 (Nat.mul n130 3)) 0) fun v131 =>
 Ld H96 p126 (Nat.add (Nat.add o127 (Nat.mul n130 3)) 1) fun v132 =>
 Ld H96 p126 (Nat.add (Nat.add o127 (Nat.mul n130 3)) 2) fun v133 =>
 AsSlc (a95 0) fun p134 o135 l136 c137 =>
 AsCnt (a95 13) fun n138 =>
 Must (ltN n138 l136) (
 Ld H96 p134 (Nat.add (Nat.add o135 (Nat.mul n138 3)) 0) fun v139 =>
 Ld H96 p134 (Nat.add (Nat.add o135 (Nat.mul n138 3)) 1) fun v140 =>
 Ld H96 p134 (Nat.add (Nat.add o135 (Nat.mul n138 3)) 2) fun v141 =>
 AsSlc (a95 0) fun p142 o143 l144 c145 =>
 AsCnt (a95 13) fun n146 =>
 Must (ltN n146 l144) (
 St H96 p142 (Nat.add o143 (Nat.mul n146 3)) [v131,v132,v133] fun H147 =>
 AsSlc (a95 0) fun p148 o149 l150 c151 =>
 AsCnt (a95 1) fun n152 =>
 Must (ltN n152 l150) (
 St H147 p148 (Nat.add o149 (Nat.mul n152 3)) [v139,v140,v141] fun H153 =>
 K (.tuple ⟨[(a95 13),(.bool false)]⟩) H153))))) (
 False))
 (fun a95 H96 =>
 K (.tuple ⟨[(a95 10),(a95 11)]⟩) H96))))))))))
 (fun i34 => fun a32 H33 =>
 Cd (eqN i34 2) (
 AsInt .i64 (a32 12) fun z154 =>
 AsInt .i64 (a32 13) fun z155 =>
 Cd (ltZ z155 z154) (
 AsSlc (a32 0) fun p156 o157 l158 c159 =>
 AsCnt (a32 1) fun n160 =>
 Must (ltN n160 l158) (
 Ld H33 p156 (Nat.add (Nat.add o157 (Nat.mul n160 3)) 0) fun v161 =>
 Ld H33 p156 (Nat.add (Nat.add o157 (Nat.mul n160 3)) 1) fun v162 =>
 Ld H33 p156 (Nat.add (Nat.add o157 (Nat.mul n160 3)) 2) fun v163 =>
 AsSlc (a32 0) fun p164 o165 l166 c167 =>
 AsCnt (a32 13) fun n168 =>
 Must (ltN n168 l166) (
 Ld H33 p164 (Nat.add (Nat.add o165 (Nat.mul n168 3)) 0) fun v169 =>
 Ld H33 p164 (Nat.add (Nat.add o165 (Nat.mul n168 3)) 1) fun v170 =>
 Ld H33 p164 (Nat.add (Nat.add o165 (Nat.mul n168 3)) 2) fun v171 =>
 AsSlc (a32 0) fun p172 o173 l174 c175 =>
 AsCnt (a32 13) fun n176 =>
 Must (ltN n176 l174) (
 St H33 p172 (Nat.add o173 (Nat.mul n176 3)) [v161,v162,v163] fun H177 =>
 AsSlc (a32 0) fun p178 o179 l180 c181 =>
 AsCnt (a32 1) fun n182 =>
 Must (ltN n182 l180) (
 St H177 p178 (Nat.add o179 (Nat.mul n182 3)) [v169,v170,v171] fun H183 =>
 K (.tuple ⟨[(a32 13),(.bool true)]⟩) H183))))) (
 AsSlc (a32 0) fun p184 o185 l186 c187 =>
 AsCnt (a32 13) fun n188 =>
 Must (ltN n188 l186) (
 Ld H33 p184 (Nat.add (Nat.add o185 (Nat.mul n188 3)) 0) fun v189 =>
 Ld H33 p184 (Nat.add (Nat.add o185 (Nat.mul n188 3)) 1) fun v190 =>
 Ld H33 p184 (Nat.add (Nat.add o185 (Nat.mul n188 3)) 2) fun v191 =>
 AsSlc (a32 0) fun p192 o193 l194 c195 =>
 AsCnt (a32 12) fun n196 =>
 Must (ltN n196 l194) (
 Ld H33 p192 (Nat.add (Nat.add o193 (Nat.mul n196 3)) 0) fun v197 =>
 Ld H33 p192 (Nat.add (Nat.add o193 (Nat.mul n196 3)) 1) fun v198 =>
 Ld H33 p192 (Nat.add (Nat.add o193 (Nat.mul n196 3)) 2) fun v199 =>
 AsSlc (a32 0) fun p200 o201 l202 c203 =>
 AsCnt (a32 12) fun n204 =>
 Must (ltN n204 l202) (
 St H33 p200 (Nat.add o201 (Nat.mul n204 3)) [v189,v190,v191] fun H205 =>
 AsSlc (a32 0) fun p206 o207 l208 c209 =>
 AsCnt (a32 13) fun n210 =>
 Must (ltN n210 l208) (
 St H205 p206 (Nat.add o207 (Nat.mul n210 3)) [v197,v198,v199] fun H211 =>
 AsInt .i64 (a32 12) fun z212 =>
 InR (Int.add z212 (Int.ofNat 1)) (
 AsInt .i64 (a32 13) fun z213 =>
 InR (Int.sub z213 (Int.ofNat 1)) (
 LoopC Tryz.prog con (lpAt Tryz.prog 120 2) (upd (upd (upd (upd (upd (upd (upd (upd (upd (upd (upd (upd (upd (upd (upd (upd (upd (upd (upd (upd (upd (upd (upd a32 69 (a32 12)) 70 (a32 13)) 71 (.bool (ltZ z155 z154))) 87 (a32 0)) 88 (a32 12)) 89 (a32 0)) 90 (a32 13)) 91 (a32 0)) 92 (a32 13)) 93 (ptr p184 (Nat.add o185 (Nat.mul n188 3)))) 94 (.agg ⟨[v189,v190,v191]⟩)) 95 (a32 0)) 96 (a32 12)) 97 (ptr p192 (Nat.add o193 (Nat.mul n196 3)))) 98 (.agg ⟨[v197,v198,v199]⟩)) 99 (ptr p200 (Nat.add o201 (Nat.mul n204 3)))) 100 (ptr p206 (Nat.add o207 (Nat.mul n210 3)))) 101 (a32 12)) 102 (i64 (Int.add z212 (Int.ofNat 1)))) 12 (i64 (Int.add z212 (Int.ofNat 1)))) 103 (a32 13)) 104 (i64 (Int.sub z213 (Int.ofNat 1)))) 13 (i64 (Int.sub z213 (Int.ofNat 1)))) H211 (fun e => ceP e
 (fun a214 H215 =>
 AsSlc (a214 0) fun p217 o218 l219 c220 =>
 AsCnt (a214 1) fun n221 =>
 Must (ltN n221 l219) (
 Ld H215 p217 (Nat.add (Nat.add o218 (Nat.mul n221 3)) 0) fun v222 =>
 Ld H215 p217 (Nat.add (Nat.add o218 (Nat.mul n221 3)) 1) fun v223 =>
 Ld H215 p217 (Nat.add (Nat.add o218 (Nat.mul n221 3)) 2) fun v224 =>
 AsSlc (a214 0) fun p225 o226 l227 c228 =>
 AsCnt (a214 13) fun n229 =>
 Must (ltN n229 l227) (
 Ld H215 p225 (Nat.add (Nat.add o226 (Nat.mul n229 3)) 0) fun v230 =>
 Ld H215 p225 (Nat.add (Nat.add o226 (Nat.mul n229 3)) 1) fun v231 =>
 Ld H215 p225 (Nat.add (Nat.add o226 (Nat.mul n229 3)) 2) fun v232 =>
 AsSlc (a214 0) fun p233 o234 l235 c236 =>
 AsCnt (a214 13) fun n237 =>
 Must (ltN n237 l235) (
 St H215 p233 (Nat.add o234 (Nat.mul n237 3)) [v222,v223,v224] fun H238 =>
 AsSlc (a214 0) fun p239 o240 l241 c242 =>
 AsCnt (a214 1) fun n243 =>
 Must (ltN n243 l241) (
 St H238 p239 (Nat.add o240 (Nat.mul n243 3)) [v230,v231,v232] fun H244 =>
 K (.tuple ⟨[(a214 13),(.bool false)]⟩) H244)))))
 (fun i216 => fun a214 H215 =>
 Cd (eqN i216 4) (
 AsSlc (a214 0) fun p245 o246 l247 c248 =>
 AsCnt (a214 1) fun n249 =>
 Must (ltN n249 l247) (
 Ld H215 p245 (Nat.add (Nat.add o246 (Nat.mul n249 3)) 0) fun v250 =>
 Ld H215 p245 (Nat.add (Nat.add o246 (Nat.mul n249 3)) 1) fun v251 =>
 Ld H215 p245 (Nat.add (Nat.add o246 (Nat.mul n249 3)) 2) fun v252 =>
 AsSlc (a214 0) fun p253 o254 l255 c256 =>
 AsCnt (a214 13) fun n257 =>
 Must (ltN n257 l255) (
 Ld H215 p253 (Nat.add (Nat.add o254 (Nat.mul n257 3)) 0) fun v258 =>
 Ld H215 p253 (Nat.add (Nat.add o254 (Nat.mul n257 3)) 1) fun v259 =>
 Ld H215 p253 (Nat.add (Nat.add o254 (Nat.mul n257 3)) 2) fun v260 =>
 AsSlc (a214 0) fun p261 o262 l263 c264 =>
 AsCnt (a214 13) fun n265 =>
 Must (ltN n265 l263) (
 St H215 p261 (Nat.add o262 (Nat.mul n265 3)) [v250,v251,v252] fun H266 =>
 AsSlc (a214 0) fun p267 o268 l269 c270 =>
 AsCnt (a214 1) fun n271 =>
 Must (ltN n271 l269) (
 St H266 p267 (Nat.add o268 (Nat.mul n271 3)) [v258,v259,v260] fun H272 =>
 K (.tuple ⟨[(a214 13),(.bool false)]⟩) H272))))) (
 False))
 (fun a214 H215 =>
 K (.tuple ⟨[(a214 10),(a214 11)]⟩) H215)))))))))) (
 False))
 (fun a32 H33 =>
 K (.tuple ⟨[(a32 10),(a32 11)]⟩) H33)))
 (fun i31 => fun a29 H30 =>
 Cd (eqN i31 0) (
 LoopC Tryz.prog con (lpAt Tryz.prog 120 1) a29 H30 (fun e => ceP e
 (fun a273 H274 =>
 AsInt .i64 (a273 12) fun z276 =>
 AsInt .i64 (a273 13) fun z277 =>
 Cd (ltZ z277 z276) (
 AsSlc (a273 0) fun p278 o279 l280 c281 =>
 AsCnt (a273 1) fun n282 =>
 Must (ltN n282 l280) (
 Ld H274 p278 (Nat.add (Nat.add o279 (Nat.mul n282 3)) 0) fun v283 =>
 Ld H274 p278 (Nat.add (Nat.add o279 (Nat.mul n282 3)) 1) fun v284 =>
 Ld H274 p278 (Nat.add (Nat.add o279 (Nat.mul n282 3)) 2) fun v285 =>
 AsSlc (a273 0) fun p286 o287 l288 c289 =>
 AsCnt (a273 13) fun n290 =>
 Must (ltN n290 l288) (
 Ld H274 p286 (Nat.add (Nat.add o287 (Nat.mul n290 3)) 0) fun v291 =>
 Ld H274 p286 (Nat.add (Nat.add o287 (Nat.mul n290 3)) 1) fun v292 =>
 Ld H274 p286 (Nat.add (Nat.add o287 (Nat.mul n290 3)) 2) fun v293 =>
 AsSlc (a273 0) fun p294 o295 l296 c297 =>
 AsCnt (a273 13) fun n298 =>
 Must (ltN n298 l296) (
 St H274 p294 (Nat.add o295 (Nat.mul n298 3)) [v283,v284,v285] fun H299 =>
 AsSlc (a273 0) fun p300 o301 l302 c303 =>
 AsCnt (a273 1) fun n304 =>
 Must (ltN n304 l302) (
 St H299 p300 (Nat.add o301 (Nat.mul n304 3)) [v291,v292,v293] fun H305 =>
 K (.tuple ⟨[(a273 13),(.bool true)]⟩) H305))))) (
 AsSlc (a273 0) fun p306 o307 l308 c309 =>
 AsCnt (a273 13) fun n310 =>
 Must (ltN n310 l308) (
 Ld H274 p306 (Nat.add (Nat.add o307 (Nat.mul n310 3)) 0) fun v311 =>
 Ld H274 p306 (Nat.add (Nat.add o307 (Nat.mul n310 3)) 1) fun v312 =>
 Ld H274 p306 (Nat.add (Nat.add o307 (Nat.mul n310 3)) 2) fun v313 =>
 AsSlc (a273 0) fun p314 o315 l316 c317 =>
 AsCnt (a273 12) fun n318 =>
 Must (ltN n318 l316) (
 Ld H274 p314 (Nat.add (Nat.add o315 (Nat.mul n318 3)) 0) fun v319 =>
 Ld H274 p314 (Nat.add (Nat.add o315 (Nat.mul n318 3)) 1) fun v320 =>
 Ld H274 p314 (Nat.add (Nat.add o315 (Nat.mul n318 3)) 2) fun v321 =>
 AsSlc (a273 0) fun p322 o323 l324 c325 =>
 AsCnt (a273 12) fun n326 =>
 Must (ltN n326 l324) (
 St H274 p322 (Nat.add o323 (Nat.mul n326 3)) [v311,v312,v313] fun H327 =>
 AsSlc (a273 0) fun p328 o329 l330 c331 =>
 AsCnt (a273 13) fun n332 =>
 Must (ltN n332 l330) (
 St H327 p328 (Nat.add o329 (Nat.mul n332 3)) [v319,v320,v321] fun H333 =>
 AsInt .i64 (a273 12) fun z334 =>
 InR (Int.add z334 (Int.ofNat 1)) (
 AsInt .i64 (a273 13) fun z335 =>
 InR (Int.sub z335 (Int.ofNat 1)) (
 LoopC Tryz.prog con (lpAt Tryz.prog 120 2) (upd (upd (upd (upd (upd (upd (upd (upd (upd (upd (upd (upd (upd (upd (upd (upd (upd (upd (upd (upd (upd (upd (upd a273 69 (a273 12)) 70 (a273 13)) 71 (.bool (ltZ z277 z276))) 87 (a273 0)) 88 (a273 12)) 89 (a273 0)) 90 (a273 13)) 91 (a273 0)) 92 (a273 13)) 93 (ptr p306 (Nat.add o307 (Nat.mul n310 3)))) 94 (.agg ⟨[v311,v312,v313]⟩)) 95 (a273 0)) 96 (a273 12)) 97 (ptr p314 (Nat.add o315 (Nat.mul n318 3)))) 98 (.agg ⟨[v319,v320,v321]⟩)) 99 (ptr p322 (Nat.add o323 (Nat.mul n326 3)))) 100 (ptr p328 (Nat.add o329 (Nat.mul n332 3)))) 101 (a273 12)) 102 (i64 (Int.add z334 (Int.ofNat 1)))) 12 (i64 (Int.add z334 (Int.ofNat 1)))) 103 (a273 13)) 104 (i64 (Int.sub z335 (Int.ofNat 1)))) 13 (i64 (Int.sub z335 (Int.ofNat 1)))) H333 (fun e => ceP e
 (fun a336 H337 =>
 AsSlc (a336 0) fun p339 o340 l341 c342 =>
 AsCnt (a336 1) fun n343 =>
 Must (ltN n343 l341) (
 Ld H337 p339 (Nat.add (Nat.add o340 (Nat.mul n343 3)) 0) fun v344 =>
 Ld H337 p339 (Nat.add (Nat.add o340 (Nat.mul n343 3)) 1) fun v345 =>
 Ld H337 p339 (Nat.add (Nat.add o340 (Nat.mul n343 3)) 2) fun v346 =>
 AsSlc (a336 0) fun p347 o348 l349 c350 =>
 AsCnt (a336 13) fun n351 =>
 Must (ltN n351 l349) (
 Ld H337 p347 (Nat.add (Nat.add o348 (Nat.mul n351 3)) 0) fun v352 =>
 Ld H337 p347 (Nat.add (Nat.add o348 (Nat.mul n351 3)) 1) fun v353 =>
 Ld H337 p347 (Nat.add (Nat.add o348 (Nat.mul n351 3)) 2) fun v354 =>
 AsSlc (a336 0) fun p355 o356 l357 c358 =>
 AsCnt (a336 13) fun n359 =>
 Must (ltN n359 l357) (
 St H337 p355 (Nat.add o356 (Nat.mul n359 3)) [v344,v345,v346] fun H360 =>
 AsSlc (a336 0) fun p361 o362 l363 c364 =>
 AsCnt (a336 1) fun n365 =>
 Must (ltN n365 l363) (
 St H360 p361 (Nat.add o362 (Nat.mul n365 3)) [v352,v353,v354] fun H366 =>
 K (.tuple ⟨[(a336 13),(.bool false)]⟩) H366)))))
 (fun i338 => fun a336 H337 =>
 Cd (eqN i338 4) (
 AsSlc (a336 0) fun p367 o368 l369 c370 =>
 AsCnt (a336 1) fun n371 =>
 Must (ltN n371 l369) (
 Ld H337 p367 (Nat.add (Nat.add o368 (Nat.mul n371 3)) 0) fun v372 =>
 Ld H337 p367 (Nat.add (Nat.add o368 (Nat.mul n371 3)) 1) fun v373 =>
 Ld H337 p367 (Nat.add (Nat.add o368 (Nat.mul n371 3)) 2) fun v374 =>
 AsSlc (a336 0) fun p375 o376 l377 c378 =>
 AsCnt (a336 13) fun n379 =>
 Must (ltN n379 l377) (
 Ld H337 p375 (Nat.add (Nat.add o376 (Nat.mul n379 3)) 0) fun v380 =>
 Ld H337 p375 (Nat.add (Nat.add o376 (Nat.mul n379 3)) 1) fun v381 =>
 Ld H337 p375 (Nat.add (Nat.add o376 (Nat.mul n379 3)) 2) fun v382 =>
 AsSlc (a336 0) fun p383 o384 l385 c386 =>
 AsCnt (a336 13) fun n387 =>
 Must (ltN n387 l385) (
 St H337 p383 (Nat.add o384 (Nat.mul n387 3)) [v372,v373,v374] fun H388 =>
 AsSlc (a336 0) fun p389 o390 l391 c392 =>
 AsCnt (a336 1) fun n393 =>
 Must (ltN n393 l391) (
 St H388 p389 (Nat.add o390 (Nat.mul n393 3)) [v380,v381,v382] fun H394 =>
 K (.tuple ⟨[(a336 13),(.bool false)]⟩) H394))))) (
 False))
 (fun a336 H337 =>
 K (.tuple ⟨[(a336 10),(a336 11)]⟩) H337))))))))))
 (fun i275 => fun a273 H274 =>
 Cd (eqN i275 2) (
 AsInt .i64 (a273 12) fun z395 =>
 AsInt .i64 (a273 13) fun z396 =>
 Cd (ltZ z396 z395) (
 AsSlc (a273 0) fun p397 o398 l399 c400 =>
 AsCnt (a273 1) fun n401 =>
 Must (ltN n401 l399) (
 Ld H274 p397 (Nat.add (Nat.add o398 (Nat.mul n401 3)) 0) fun v402 =>
 Ld H274 p397 (Nat.add (Nat.add o398 (Nat.mul n401 3)) 1) fun v403 =>
 Ld H274 p397 (Nat.add (Nat.add o398 (Nat.mul n401 3)) 2) fun v404 =>
 AsSlc (a273 0) fun p405 o406 l407 c408 =>
 AsCnt (a273 13) fun n409 =>
 Must (ltN n409 l407) (
 Ld H274 p405 (Nat.add (Nat.add o406 (Nat.mul n409 3)) 0) fun v410 =>
 Ld H274 p405 (Nat.add (Nat.add o406 (Nat.mul n409 3)) 1) fun v411 =>
 Ld H274 p405 (Nat.add (Nat.add o406 (Nat.mul n409 3)) 2) fun v412 =>
 AsSlc (a273 0) fun p413 o414 l415 c416 =>
 AsCnt (a273 13) fun n417 =>
 Must (ltN n417 l415) (
 St H274 p413 (Nat.add o414 (Nat.mul n417 3)) [v402,v403,v404] fun H418 =>
 AsSlc (a273 0) fun p419 o420 l421 c422 =>
 AsCnt (a273 1) fun n423 =>
 Must (ltN n423 l421) (
 St H418 p419 (Nat.add o420 (Nat.mul n423 3)) [v410,v411,v412] fun H424 =>
 K (.tuple ⟨[(a273 13),(.bool true)]⟩) H424))))) (
 AsSlc (a273 0) fun p425 o426 l427 c428 =>
 AsCnt (a273 13) fun n429 =>
 Must (ltN n429 l427) (
 Ld H274 p425 (Nat.add (Nat.add o426 (Nat.mul n429 3)) 0) fun v430 =>
 Ld H274 p425 (Nat.add (Nat.add o426 (Nat.mul n429 3)) 1) fun v431 =>
 Ld H274 p425 (Nat.add (Nat.add o426 (Nat.mul n429 3)) 2) fun v432 =>
 AsSlc (a273 0) fun p433 o434 l435 c436 =>
 AsCnt (a273 12) fun n437 =>
 Must (ltN n437 l435) (
 Ld H274 p433 (Nat.add (Nat.add o434 (Nat.mul n437 3)) 0) fun v438 =>
 Ld H274 p433 (Nat.add (Nat.add o434 (Nat.mul n437 3)) 1) fun v439 =>
 Ld H274 p433 (Nat.add (Nat.add o434 (Nat.mul n437 3)) 2) fun v440 =>
 AsSlc (a273 0) fun p441 o442 l443 c444 =>
 AsCnt (a273 12) fun n445 =>
 Must (ltN n445 l443) (
 St H274 p441 (Nat.add o442 (Nat.mul n445 3)) [v430,v431,v432] fun H446 =>
 AsSlc (a273 0) fun p447 o448 l449 c450 =>
 AsCnt (a273 13) fun n451 =>
 Must (ltN n451 l449) (
 St H446 p447 (Nat.add o448 (Nat.mul n451 3)) [v438,v439,v440] fun H452 =>
 AsInt .i64 (a273 12) fun z453 =>
 InR (Int.add z453 (Int.ofNat 1)) (
 AsInt .i64 (a273 13) fun z454 =>
 InR (Int.sub z454 (Int.ofNat 1)) (
 LoopC Tryz.prog con (lpAt Tryz.prog 120 2) (upd (upd (upd (upd (upd (upd (upd (upd (upd (upd (upd (upd (upd (upd (upd (upd (upd (upd (upd (upd (upd (upd (upd a273 69 (a273 12)) 70 (a273 13)) 71 (.bool (ltZ z396 z395))) 87 (a273 0)) 88 (a273 12)) 89 (a273 0)) 90 (a273 13)) 91 (a273 0)) 92 (a273 13)) 93 (ptr p425 (Nat.add o426 (Nat.mul n429 3)))) 94 (.agg ⟨[v430,v431,v432]⟩)) 95 (a273 0)) 96 (a273 12)) 97 (ptr p433 (Nat.add o434 (Nat.mul n437 3)))) 98 (.agg ⟨[v438,v439,v440]⟩)) 99 (ptr p441 (Nat.add o442 (Nat.mul n445 3)))) 100 (ptr p447 (Nat.add o448 (Nat.mul n451 3)))) 101 (a273 12)) 102 (i64 (Int.add z453 (Int.ofNat 1)))) 12 (i64 (Int.add z453 (Int.ofNat 1)))) 103 (a273 13)) 104 (i64 (Int.sub z454 (Int.ofNat 1)))) 13 (i64 (Int.sub z454 (Int.ofNat 1)))) H452 (fun e => ceP e
 (fun a455 H456 =>
 AsSlc (a455 0) fun p458 o459 l460 c461 =>
 AsCnt (a455 1) fun n462 =>
 Must (ltN n462 l460) (
 Ld H456 p458 (Nat.add (Nat.add o459 (Nat.mul n462 3)) 0) fun v463 =>
 Ld H456 p458 (Nat.add (Nat.add o459 (Nat.mul n462 3)) 1) fun v464 =>
 Ld H456 p458 (Nat.add (Nat.add o459 (Nat.mul n462 3)) 2) fun v465 =>
 AsSlc (a455 0) fun p466 o467 l468 c469 =>
 AsCnt (a455 13) fun n470 =>
 Must (ltN n470 l468) (
 Ld H456 p466 (Nat.add (Nat.add o467 (Nat.mul n470 3)) 0) fun v471 =>
 Ld H456 p466 (Nat.add (Nat.add o467 (Nat.mul n470 3)) 1) fun v472 =>
 Ld H456 p466 (Nat.add (Nat.add o467 (Nat.mul n470 3)) 2) fun v473 =>
 AsSlc (a455 0) fun p474 o475 l476 c477 =>
 AsCnt (a455 13) fun n478 =>
 Must (ltN n478 l476) (
 St H456 p474 (Nat.add o475 (Nat.mul n478 3)) [v463,v464,v465] fun H479 =>
 AsSlc (a455 0) fun p480 o481 l482 c483 =>
 AsCnt (a455 1) fun n484 =>
 Must (ltN n484 l482) (
 St H479 p480 (Nat.add o481 (Nat.mul n484 3)) [v471,v472,v473] fun H485 =>
 K (.tuple ⟨[(a455 13),(.bool false)]⟩) H485)))))
 (fun i457 => fun a455 H456 =>
 Cd (eqN i457 4) (
 AsSlc (a455 0) fun p486 o487 l488 c489 =>
 AsCnt (a455 1) fun n490 =>
 Must (ltN n490 l488) (
 Ld H456 p486 (Nat.add (Nat.add o487 (Nat.mul n490 3)) 0) fun v491 =>
 Ld H456 p486 (Nat.add (Nat.add o487 (Nat.mul n490 3)) 1) fun v492 =>
 Ld H456 p486 (Nat.add (Nat.add o487 (Nat.mul n490 3)) 2) fun v493 =>
 AsSlc (a455 0) fun p494 o495 l496 c497 =>
 AsCnt (a455 13) fun n498 =>
 Must (ltN n498 l496) (
 Ld H456 p494 (Nat.add (Nat.add o495 (Nat.mul n498 3)) 0) fun v499 =>
 Ld H456 p494 (Nat.add (Nat.add o495 (Nat.mul n498 3)) 1) fun v500 =>
 Ld H456 p494 (Nat.add (Nat.add o495 (Nat.mul n498 3)) 2) fun v501 =>
 AsSlc (a455 0) fun p502 o503 l504 c505 =>
 AsCnt (a455 13) fun n506 =>
 Must (ltN n506 l504) (
 St H456 p502 (Nat.add o503 (Nat.mul n506 3)) [v491,v492,v493] fun H507 =>
 AsSlc (a455 0) fun p508 o509 l510 c511 =>
 AsCnt (a455 1) fun n512 =>
 Must (ltN n512 l510) (
 St H507 p508 (Nat.add o509 (Nat.mul n512 3)) [v499,v500,v501] fun H513 =>
 K (.tuple ⟨[(a455 13),(.bool false)]⟩) H513))))) (
 False))
 (fun a455 H456 =>
 K (.tuple ⟨[(a455 10),(a455 11)]⟩) H456)))))))))) (
 False))
 (fun a273 H274 =>
 K (.tuple ⟨[(a273 10),(a273 11)]⟩) H274))) (
 False))
 (fun a29 H30 =>
 K (.tuple ⟨[(a29 10),(a29 11)]⟩) H30))))))))) := by kernel_rfl
theorem partOrdA_W (con : CallT) (a : TF) (H : CH) (K : KX) : codeW (lpAt Tryz.prog 120 0) Tryz.prog con a H K =
 (AsInt .i64 (a 12) fun z1 =>
 AsInt .i64 (a 13) fun z2 =>
 Cd (leZ z1 z2) (
 AsSlc (a 0) fun p3 o4 l5 c6 =>
 AsCnt (a 12) fun n7 =>
 Must (ltN n7 l5) (
 Ld H p3 (Nat.add (Nat.add o4 (Nat.mul n7 3)) 0) fun v8 =>
 Ld H p3 (Nat.add (Nat.add o4 (Nat.mul n7 3)) 1) fun v9 =>
 Ld H p3 (Nat.add (Nat.add o4 (Nat.mul n7 3)) 2) fun v10 =>
 AsSlc (a 0) fun p11 o12 l13 c14 =>
 AsCnt (a 1) fun n15 =>
 Must (ltN n15 l13) (
 Ld H p11 (Nat.add (Nat.add o12 (Nat.mul n15 3)) 0) fun v16 =>
 Ld H p11 (Nat.add (Nat.add o12 (Nat.mul n15 3)) 1) fun v17 =>
 Ld H p11 (Nat.add (Nat.add o12 (Nat.mul n15 3)) 2) fun v18 =>
 AsFn (a 4) fun g19 l20 l21 =>
 Must (isFunT Tryz.prog g19) (
 Call1 Tryz.prog con g19 (appF l20 ((.agg ⟨[v8,v9,v10]⟩)::(.agg ⟨[v16,v17,v18]⟩)::l21)) H fun v22 H23 =>
 AsInt .i64 v22 fun z24 =>
 Cd (ltZ z24 (Int.ofNat 0)) (
 AsInt .i64 (a 12) fun z25 =>
 InR (Int.add z25 (Int.ofNat 1)) (
 K .normal (upd (upd (upd (upd (upd (upd (upd (upd (upd (upd (upd (upd (upd (upd (upd (upd (upd (upd (upd (upd (upd (upd (upd (upd (upd (upd (upd (upd (upd (upd a 32 (a 12)) 33 (a 13)) 34 (.bool (leZ z1 z2))) 35 (.bool (leZ z1 z2))) 35 (.bool true)) 36 (a 4)) 35 (.bool true)) 37 (a 0)) 35 (.bool true)) 38 (a 12)) 35 (.bool true)) 39 (ptr p3 (Nat.add o4 (Nat.mul n7 3)))) 35 (.bool true)) 40 (.agg ⟨[v8,v9,v10]⟩)) 35 (.bool true)) 41 (a 0)) 35 (.bool true)) 42 (a 1)) 35 (.bool true)) 43 (ptr p11 (Nat.add o12 (Nat.mul n15 3)))) 35 (.bool true)) 44 (.agg ⟨[v16,v17,v18]⟩)) 35 (.bool true)) 45 v22) 35 (.bool true)) 46 (.bool (ltZ z24 (Int.ofNat 0)))) 47 (.bool (ltZ z24 (Int.ofNat 0)))) 48 (a 12)) 49 (i64 (Int.add z25 (Int.ofNat 1)))) 12 (i64 (Int.add z25 (Int.ofNat 1)))) H23)) (
 K (.exit 0) (upd (upd (upd (upd (upd (upd (upd (upd (upd (upd (upd (upd (upd (upd (upd (upd (upd (upd (upd (upd (upd (upd (upd (upd (upd (upd (upd a 32 (a 12)) 33 (a 13)) 34 (.bool (leZ z1 z2))) 35 (.bool (leZ z1 z2))) 35 (.bool true)) 36 (a 4)) 35 (.bool true)) 37 (a 0)) 35 (.bool true)) 38 (a 12)) 35 (.bool true)) 39 (ptr p3 (Nat.add o4 (Nat.mul n7 3)))) 35 (.bool true)) 40 (.agg ⟨[v8,v9,v10]⟩)) 35 (.bool true)) 41 (a 0)) 35 (.bool true)) 42 (a 1)) 35 (.bool true)) 43 (ptr p11 (Nat.add o12 (Nat.mul n15 3)))) 35 (.bool true)) 44 (.agg ⟨[v16,v17,v18]⟩)) 35 (.bool true)) 45 v22) 35 (.bool true)) 46 (.bool (ltZ z24 (Int.ofNat 0)))) 47 (.bool (ltZ z24 (Int.ofNat 0)))) H23))))) (
 K (.exit 0) (upd (upd (upd (upd (upd (upd (upd (upd (upd (upd (upd (upd (upd (upd (upd (upd (upd (upd (upd (upd (upd (upd (upd (upd (upd (upd (upd a 32 (a 12)) 33 (a 13)) 34 (.bool (leZ z1 z2))) 35 (.bool (leZ z1 z2))) 35 (.bool false)) 36 unit) 35 (.bool false)) 37 unit) 35 (.bool false)) 38 unit) 35 (.bool false)) 39 unit) 35 (.bool false)) 40 unit) 35 (.bool false)) 41 unit) 35 (.bool false)) 42 unit) 35 (.bool false)) 43 unit) 35 (.bool false)) 44 unit) 35 (.bool false)) 45 unit) 35 (.bool false)) 46 unit) 47 (.bool false)) H)) := by kernel_rfl
theorem partOrdB_W (con : CallT) (a : TF) (H : CH) (K : KX) : codeW (lpAt Tryz.prog 120 1) Tryz.prog con a H K =
 (AsInt .i64 (a 12) fun z1 =>
 AsInt .i64 (a 13) fun z2 =>
 Bnd (upd (upd (upd (upd a 50 (a 12)) 51 (a 13)) 52 (.bool (leZ z1 z2))) 53 (.bool (leZ z1 z2))) fun s1 =>
Cd (leZ z1 z2) (
 AsSlc (a 0) fun p3 o4 l5 c6 =>
 AsCnt (a 13) fun n7 =>
 Must (ltN n7 l5) (
 Ld H p3 (Nat.add (Nat.add o4 (Nat.mul n7 3)) 0) fun v8 =>
 Ld H p3 (Nat.add (Nat.add o4 (Nat.mul n7 3)) 1) fun v9 =>
 Ld H p3 (Nat.add (Nat.add o4 (Nat.mul n7 3)) 2) fun v10 =>
 AsSlc (a 0) fun p11 o12 l13 c14 =>
 AsCnt (a 1) fun n15 =>
 Must (ltN n15 l13) (
 Ld H p11 (Nat.add (Nat.add o12 (Nat.mul n15 3)) 0) fun v16 =>
 Ld H p11 (Nat.add (Nat.add o12 (Nat.mul n15 3)) 1) fun v17 =>
 Ld H p11 (Nat.add (Nat.add o12 (Nat.mul n15 3)) 2) fun v18 =>
 AsFn (a 4) fun g19 l20 l21 =>
 Must (isFunT Tryz.prog g19) (
 Call1 Tryz.prog con g19 (appF l20 ((.agg ⟨[v8,v9,v10]⟩)::(.agg ⟨[v16,v17,v18]⟩)::l21)) H fun v22 H23 =>
 AsInt .i64 v22 fun z24 =>
 Bnd (upd (upd (upd (upd (upd (upd (upd (upd (upd (upd (upd (upd (upd (upd (upd (upd (upd (upd (upd (upd (upd (upd (upd (upd (upd s1 53 (.bool true)) 54 (a 4)) 53 (.bool true)) 55 (a 0)) 53 (.bool true)) 56 (a 13)) 53 (.bool true)) 57 (ptr p3 (Nat.add o4 (Nat.mul n7 3)))) 53 (.bool true)) 58 (.agg ⟨[v8,v9,v10]⟩)) 53 (.bool true)) 59 (a 0)) 53 (.bool true)) 60 (a 1)) 53 (.bool true)) 61 (ptr p11 (Nat.add o12 (Nat.mul n15 3)))) 53 (.bool true)) 62 (.agg ⟨[v16,v17,v18]⟩)) 53 (.bool true)) 63 v22) 53 (.bool true)) 64 (.bool (ltZ z24 (Int.ofNat 0)))) 53 (.bool true)) 65 (.bool (notB (ltZ z24 (Int.ofNat 0))))) 66 (.bool (notB (ltZ z24 (Int.ofNat 0))))) fun s2 =>
Cd (notB (ltZ z24 (Int.ofNat 0))) (
 AsInt .i64 (a 13) fun z25 =>
 InR (Int.sub z25 (Int.ofNat 1)) (
 K .normal (upd (upd (upd s2 67 (a 13)) 68 (i64 (Int.sub z25 (Int.ofNat 1)))) 13 (i64 (Int.sub z25 (Int.ofNat 1)))) H23)) (
 K (.exit 2) s2 H23))))) (
 K (.exit 2) (upd (Rz false 53 s1 54 12) 66 (.bool false)) H)) := by kernel_rfl
theorem partOrdC_W (con : CallT) (a : TF) (H : CH) (K : KX) : codeW (lpAt Tryz.prog 120 2) Tryz.prog con a H K =
 (LoopC Tryz.prog con (lpAt Tryz.prog 120 3) a H (fun e => ceP e
 (fun a1 H2 =>
 LoopC Tryz.prog con (lpAt Tryz.prog 120 4) a1 H2 (fun e => ceP e
 (fun a4 H5 =>
 AsInt .i64 (a4 12) fun z7 =>
 AsInt .i64 (a4 13) fun z8 =>
 Cd (ltZ z8 z7) (
 K (.exit 4) (upd (upd (upd a4 142 (a4 12)) 143 (a4 13)) 144 (.bool (ltZ z8 z7))) H5) (
 AsSlc (a4 0) fun p9 o10 l11 c12 =>
 AsCnt (a4 13) fun n13 =>
 Must (ltN n13 l11) (
 Ld H5 p9 (Nat.add (Nat.add o10 (Nat.mul n13 3)) 0) fun v14 =>
 Ld H5 p9 (Nat.add (Nat.add o10 (Nat.mul n13 3)) 1) fun v15 =>
 Ld H5 p9 (Nat.add (Nat.add o10 (Nat.mul n13 3)) 2) fun v16 =>
 AsSlc (a4 0) fun p17 o18 l19 c20 =>
 AsCnt (a4 12) fun n21 =>
 Must (ltN n21 l19) (
 Ld H5 p17 (Nat.add (Nat.add o18 (Nat.mul n21 3)) 0) fun v22 =>
 Ld H5 p17 (Nat.add (Nat.add o18 (Nat.mul n21 3)) 1) fun v23 =>
 Ld H5 p17 (Nat.add (Nat.add o18 (Nat.mul n21 3)) 2) fun v24 =>
 AsSlc (a4 0) fun p25 o26 l27 c28 =>
 AsCnt (a4 12) fun n29 =>
 Must (ltN n29 l27) (
 St H5 p25 (Nat.add o26 (Nat.mul n29 3)) [v14,v15,v16] fun H30 =>
 AsSlc (a4 0) fun p31 o32 l33 c34 =>
 AsCnt (a4 13) fun n35 =>
 Must (ltN n35 l33) (
 St H30 p31 (Nat.add o32 (Nat.mul n35 3)) [v22,v23,v24] fun H36 =>
 AsInt .i64 (a4 12) fun z37 =>
 InR (Int.add z37 (Int.ofNat 1)) (
 AsInt .i64 (a4 13) fun z38 =>
 InR (Int.sub z38 (Int.ofNat 1)) (
 K .normal (upd (upd (upd (upd (upd (upd (upd (upd (upd (upd (upd (upd (upd (upd (upd (upd (upd (upd (upd (upd (upd (upd (upd a4 142 (a4 12)) 143 (a4 13)) 144 (.bool (ltZ z8 z7))) 145 (a4 0)) 146 (a4 12)) 147 (a4 0)) 148 (a4 13)) 149 (a4 0)) 150 (a4 13)) 151 (ptr p9 (Nat.add o10 (Nat.mul n13 3)))) 152 (.agg ⟨[v14,v15,v16]⟩)) 153 (a4 0)) 154 (a4 12)) 155 (ptr p17 (Nat.add o18 (Nat.mul n21 3)))) 156 (.agg ⟨[v22,v23,v24]⟩)) 157 (ptr p25 (Nat.add o26 (Nat.mul n29 3)))) 158 (ptr p31 (Nat.add o32 (Nat.mul n35 3)))) 159 (a4 12)) 160 (i64 (Int.add z37 (Int.ofNat 1)))) 12 (i64 (Int.add z37 (Int.ofNat 1)))) 161 (a4 13)) 162 (i64 (Int.sub z38 (Int.ofNat 1)))) 13 (i64 (Int.sub z38 (Int.ofNat 1)))) H36))))))))
 (fun i6 => fun a4 H5 =>
 Cd (eqN i6 8) (
 AsInt .i64 (a4 12) fun z39 =>
 AsInt .i64 (a4 13) fun z40 =>
 Cd (ltZ z40 z39) (
 K (.exit 4) (upd (upd (upd a4 142 (a4 12)) 143 (a4 13)) 144 (.bool (ltZ z40 z39))) H5) (
 AsSlc (a4 0) fun p41 o42 l43 c44 =>
 AsCnt (a4 13) fun n45 =>
 Must (ltN n45 l43) (
 Ld H5 p41 (Nat.add (Nat.add o42 (Nat.mul n45 3)) 0) fun v46 =>
 Ld H5 p41 (Nat.add (Nat.add o42 (Nat.mul n45 3)) 1) fun v47 =>
 Ld H5 p41 (Nat.add (Nat.add o42 (Nat.mul n45 3)) 2) fun v48 =>
 AsSlc (a4 0) fun p49 o50 l51 c52 =>
 AsCnt (a4 12) fun n53 =>
 Must (ltN n53 l51) (
 Ld H5 p49 (Nat.add (Nat.add o50 (Nat.mul n53 3)) 0) fun v54 =>
 Ld H5 p49 (Nat.add (Nat.add o50 (Nat.mul n53 3)) 1) fun v55 =>
 Ld H5 p49 (Nat.add (Nat.add o50 (Nat.mul n53 3)) 2) fun v56 =>
 AsSlc (a4 0) fun p57 o58 l59 c60 =>
 AsCnt (a4 12) fun n61 =>
 Must (ltN n61 l59) (
 St H5 p57 (Nat.add o58 (Nat.mul n61 3)) [v46,v47,v48] fun H62 =>
 AsSlc (a4 0) fun p63 o64 l65 c66 =>
 AsCnt (a4 13) fun n67 =>
 Must (ltN n67 l65) (
 St H62 p63 (Nat.add o64 (Nat.mul n67 3)) [v54,v55,v56] fun H68 =>
 AsInt .i64 (a4 12) fun z69 =>
 InR (Int.add z69 (Int.ofNat 1)) (
 AsInt .i64 (a4 13) fun z70 =>
 InR (Int.sub z70 (Int.ofNat 1)) (
 K .normal (upd (upd (upd (upd (upd (upd (upd (upd (upd (upd (upd (upd (upd (upd (upd (upd (upd (upd (upd (upd (upd (upd (upd a4 142 (a4 12)) 143 (a4 13)) 144 (.bool (ltZ z40 z39))) 145 (a4 0)) 146 (a4 12)) 147 (a4 0)) 148 (a4 13)) 149 (a4 0)) 150 (a4 13)) 151 (ptr p41 (Nat.add o42 (Nat.mul n45 3)))) 152 (.agg ⟨[v46,v47,v48]⟩)) 153 (a4 0)) 154 (a4 12)) 155 (ptr p49 (Nat.add o50 (Nat.mul n53 3)))) 156 (.agg ⟨[v54,v55,v56]⟩)) 157 (ptr p57 (Nat.add o58 (Nat.mul n61 3)))) 158 (ptr p63 (Nat.add o64 (Nat.mul n67 3)))) 159 (a4 12)) 160 (i64 (Int.add z69 (Int.ofNat 1)))) 12 (i64 (Int.add z69 (Int.ofNat 1)))) 161 (a4 13)) 162 (i64 (Int.sub z70 (Int.ofNat 1)))) 13 (i64 (Int.sub z70 (Int.ofNat 1)))) H68)))))))) (
 Cd (eqN i6 5) (
 K .normal a4 H5) (
 K (.exit i6) a4 H5)))
 (fun a4 H5 =>
 K .ret a4 H5)))
 (fun i3 => fun a1 H2 =>
 Cd (eqN i3 6) (
 LoopC Tryz.prog con (lpAt Tryz.prog 120 4) a1 H2 (fun e => ceP e
 (fun a71 H72 =>
 AsInt .i64 (a71 12) fun z74 =>
 AsInt .i64 (a71 13) fun z75 =>
 Cd (ltZ z75 z74) (
 K (.exit 4) (upd (upd (upd a71 142 (a71 12)) 143 (a71 13)) 144 (.bool (ltZ z75 z74))) H72) (
 AsSlc (a71 0) fun p76 o77 l78 c79 =>
 AsCnt (a71 13) fun n80 =>
 Must (ltN n80 l78) (
 Ld H72 p76 (Nat.add (Nat.add o77 (Nat.mul n80 3)) 0) fun v81 =>
 Ld H72 p76 (Nat.add (Nat.add o77 (Nat.mul n80 3)) 1) fun v82 =>
 Ld H72 p76 (Nat.add (Nat.add o77 (Nat.mul n80 3)) 2) fun v83 =>
 AsSlc (a71 0) fun p84 o85 l86 c87 =>
 AsCnt (a71 12) fun n88 =>
 Must (ltN n88 l86) (
 Ld H72 p84 (Nat.add (Nat.add o85 (Nat.mul n88 3)) 0) fun v89 =>
 Ld H72 p84 (Nat.add (Nat.add o85 (Nat.mul n88 3)) 1) fun v90 =>
 Ld H72 p84 (Nat.add (Nat.add o85 (Nat.mul n88 3)) 2) fun v91 =>
 AsSlc (a71 0) fun p92 o93 l94 c95 =>
 AsCnt (a71 12) fun n96 =>
 Must (ltN n96 l94) (
 St H72 p92 (Nat.add o93 (Nat.mul n96 3)) [v81,v82,v83] fun H97 =>
 AsSlc (a71 0) fun p98 o99 l100 c101 =>
 AsCnt (a71 13) fun n102 =>
 Must (ltN n102 l100) (
 St H97 p98 (Nat.add o99 (Nat.mul n102 3)) [v89,v90,v91] fun H103 =>
 AsInt .i64 (a71 12) fun z104 =>
 InR (Int.add z104 (Int.ofNat 1)) (
 AsInt .i64 (a71 13) fun z105 =>
 InR (Int.sub z105 (Int.ofNat 1)) (
 K .normal (upd (upd (upd (upd (upd (upd (upd (upd (upd (upd (upd (upd (upd (upd (upd (upd (upd (upd (upd (upd (upd (upd (upd a71 142 (a71 12)) 143 (a71 13)) 144 (.bool (ltZ z75 z74))) 145 (a71 0)) 146 (a71 12)) 147 (a71 0)) 148 (a71 13)) 149 (a71 0)) 150 (a71 13)) 151 (ptr p76 (Nat.add o77 (Nat.mul n80 3)))) 152 (.agg ⟨[v81,v82,v83]⟩)) 153 (a71 0)) 154 (a71 12)) 155 (ptr p84 (Nat.add o85 (Nat.mul n88 3)))) 156 (.agg ⟨[v89,v90,v91]⟩)) 157 (ptr p92 (Nat.add o93 (Nat.mul n96 3)))) 158 (ptr p98 (Nat.add o99 (Nat.mul n102 3)))) 159 (a71 12)) 160 (i64 (Int.add z104 (Int.ofNat 1)))) 12 (i64 (Int.add z104 (Int.ofNat 1)))) 161 (a71 13)) 162 (i64 (Int.sub z105 (Int.ofNat 1)))) 13 (i64 (Int.sub z105 (Int.ofNat 1)))) H103))))))))
 (fun i73 => fun a71 H72 =>
 Cd (eqN i73 8) (
 AsInt .i64 (a71 12) fun z106 =>
 AsInt .i64 (a71 13) fun z107 =>
 Cd (ltZ z107 z106) (
 K (.exit 4) (upd (upd (upd a71 142 (a71 12)) 143 (a71 13)) 144 (.bool (ltZ z107 z106))) H72) (
 AsSlc (a71 0) fun p108 o109 l110 c111 =>
 AsCnt (a71 13) fun n112 =>
 Must (ltN n112 l110) (
 Ld H72 p108 (Nat.add (Nat.add o109 (Nat.mul n112 3)) 0) fun v113 =>
 Ld H72 p108 (Nat.add (Nat.add o109 (Nat.mul n112 3)) 1) fun v114 =>
 Ld H72 p108 (Nat.add (Nat.add o109 (Nat.mul n112 3)) 2) fun v115 =>
 AsSlc (a71 0) fun p116 o117 l118 c119 =>
 AsCnt (a71 12) fun n120 =>
 Must (ltN n120 l118) (
 Ld H72 p116 (Nat.add (Nat.add o117 (Nat.mul n120 3)) 0) fun v121 =>
 Ld H72 p116 (Nat.add (Nat.add o117 (Nat.mul n120 3)) 1) fun v122 =>
 Ld H72 p116 (Nat.add (Nat.add o117 (Nat.mul n120 3)) 2) fun v123 =>
 AsSlc (a71 0) fun p124 o125 l126 c127 =>
 AsCnt (a71 12) fun n128 =>
 Must (ltN n128 l126) (
 St H72 p124 (Nat.add o125 (Nat.mul n128 3)) [v113,v114,v115] fun H129 =>
 AsSlc (a71 0) fun p130 o131 l132 c133 =>
 AsCnt (a71 13) fun n134 =>
 Must (ltN n134 l132) (
 St H129 p130 (Nat.add o131 (Nat.mul n134 3)) [v121,v122,v123] fun H135 =>
 AsInt .i64 (a71 12) fun z136 =>
 InR (Int.add z136 (Int.ofNat 1)) (
 AsInt .i64 (a71 13) fun z137 =>
 InR (Int.sub z137 (Int.ofNat 1)) (
 K .normal (upd (upd (upd (upd (upd (upd (upd (upd (upd (upd (upd (upd (upd (upd (upd (upd (upd (upd (upd (upd (upd (upd (upd a71 142 (a71 12)) 143 (a71 13)) 144 (.bool (ltZ z107 z106))) 145 (a71 0)) 146 (a71 12)) 147 (a71 0)) 148 (a71 13)) 149 (a71 0)) 150 (a71 13)) 151 (ptr p108 (Nat.add o109 (Nat.mul n112 3)))) 152 (.agg ⟨[v113,v114,v115]⟩)) 153 (a71 0)) 154 (a71 12)) 155 (ptr p116 (Nat.add o117 (Nat.mul n120 3)))) 156 (.agg ⟨[v121,v122,v123]⟩)) 157 (ptr p124 (Nat.add o125 (Nat.mul n128 3)))) 158 (ptr p130 (Nat.add o131 (Nat.mul n134 3)))) 159 (a71 12)) 160 (i64 (Int.add z136 (Int.ofNat 1)))) 12 (i64 (Int.add z136 (Int.ofNat 1)))) 161 (a71 13)) 162 (i64 (Int.sub z137 (Int.ofNat 1)))) 13 (i64 (Int.sub z137 (Int.ofNat 1)))) H135)))))))) (
 Cd (eqN i73 5) (
 K .normal a71 H72) (
 K (.exit i73) a71 H72)))
 (fun a71 H72 =>
 K .ret a71 H72))) (
 Cd (eqN i3 5) (
 K .normal a1 H2) (
 K (.exit i3) a1 H2)))
 (fun a1 H2 =>
 K .ret a1 H2))) := by kernel_rfl
theorem partOrdD_W (con : CallT) (a : TF) (H : CH) (K : KX) : codeW (lpAt Tryz.prog 120 3) Tryz.prog con a H K =
 (AsInt .i64 (a 12) fun z1 =>
 AsInt .i64 (a 13) fun z2 =>
 Cd (leZ z1 z2) (
 AsSlc (a 0) fun p3 o4 l5 c6 =>
 AsCnt (a 12) fun n7 =>
 Must (ltN n7 l5) (
 Ld H p3 (Nat.add (Nat.add o4 (Nat.mul n7 3)) 0) fun v8 =>
 Ld H p3 (Nat.add (Nat.add o4 (Nat.mul n7 3)) 1) fun v9 =>
 Ld H p3 (Nat.add (Nat.add o4 (Nat.mul n7 3)) 2) fun v10 =>
 AsSlc (a 0) fun p11 o12 l13 c14 =>
 AsCnt (a 1) fun n15 =>
 Must (ltN n15 l13) (
 Ld H p11 (Nat.add (Nat.add o12 (Nat.mul n15 3)) 0) fun v16 =>
 Ld H p11 (Nat.add (Nat.add o12 (Nat.mul n15 3)) 1) fun v17 =>
 Ld H p11 (Nat.add (Nat.add o12 (Nat.mul n15 3)) 2) fun v18 =>
 AsFn (a 4) fun g19 l20 l21 =>
 Must (isFunT Tryz.prog g19) (
 Call1 Tryz.prog con g19 (appF l20 ((.agg ⟨[v8,v9,v10]⟩)::(.agg ⟨[v16,v17,v18]⟩)::l21)) H fun v22 H23 =>
 AsInt .i64 v22 fun z24 =>
 Cd (ltZ z24 (Int.ofNat 0)) (
 AsInt .i64 (a 12) fun z25 =>
 InR (Int.add z25 (Int.ofNat 1)) (
 K .normal (upd (upd (upd (upd (upd (upd (upd (upd (upd (upd (upd (upd (upd (upd (upd (upd (upd (upd (upd (upd (upd (upd (upd (upd (upd (upd (upd (upd (upd (upd a 105 (a 12)) 106 (a 13)) 107 (.bool (leZ z1 z2))) 108 (.bool (leZ z1 z2))) 108 (.bool true)) 109 (a 4)) 108 (.bool true)) 110 (a 0)) 108 (.bool true)) 111 (a 12)) 108 (.bool true)) 112 (ptr p3 (Nat.add o4 (Nat.mul n7 3)))) 108 (.bool true)) 113 (.agg ⟨[v8,v9,v10]⟩)) 108 (.bool true)) 114 (a 0)) 108 (.bool true)) 115 (a 1)) 108 (.bool true)) 116 (ptr p11 (Nat.add o12 (Nat.mul n15 3)))) 108 (.bool true)) 117 (.agg ⟨[v16,v17,v18]⟩)) 108 (.bool true)) 118 v22) 108 (.bool true)) 119 (.bool (ltZ z24 (Int.ofNat 0)))) 120 (.bool (ltZ z24 (Int.ofNat 0)))) 121 (a 12)) 122 (i64 (Int.add z25 (Int.ofNat 1)))) 12 (i64 (Int.add z25 (Int.ofNat 1)))) H23)) (
 K (.exit 6) (upd (upd (upd (upd (upd (upd (upd (upd (upd (upd (upd (upd (upd (upd (upd (upd (upd (upd (upd (upd (upd (upd (upd (upd (upd (upd (upd a 105 (a 12)) 106 (a 13)) 107 (.bool (leZ z1 z2))) 108 (.bool (leZ z1 z2))) 108 (.bool true)) 109 (a 4)) 108 (.bool true)) 110 (a 0)) 108 (.bool true)) 111 (a 12)) 108 (.bool true)) 112 (ptr p3 (Nat.add o4 (Nat.mul n7 3)))) 108 (.bool true)) 113 (.agg ⟨[v8,v9,v10]⟩)) 108 (.bool true)) 114 (a 0)) 108 (.bool true)) 115 (a 1)) 108 (.bool true)) 116 (ptr p11 (Nat.add o12 (Nat.mul n15 3)))) 108 (.bool true)) 117 (.agg ⟨[v16,v17,v18]⟩)) 108 (.bool true)) 118 v22) 108 (.bool true)) 119 (.bool (ltZ z24 (Int.ofNat 0)))) 120 (.bool (ltZ z24 (Int.ofNat 0)))) H23))))) (
 K (.exit 6) (upd (upd (upd (upd (upd (upd (upd (upd (upd (upd (upd (upd (upd (upd (upd (upd (upd (upd (upd (upd (upd (upd (upd (upd (upd (upd (upd a 105 (a 12)) 106 (a 13)) 107 (.bool (leZ z1 z2))) 108 (.bool (leZ z1 z2))) 108 (.bool false)) 109 unit) 108 (.bool false)) 110 unit) 108 (.bool false)) 111 unit) 108 (.bool false)) 112 unit) 108 (.bool false)) 113 unit) 108 (.bool false)) 114 unit) 108 (.bool false)) 115 unit) 108 (.bool false)) 116 unit) 108 (.bool false)) 117 unit) 108 (.bool false)) 118 unit) 108 (.bool false)) 119 unit) 120 (.bool false)) H)) := by kernel_rfl
theorem partOrdE_W (con : CallT) (a : TF) (H : CH) (K : KX) : codeW (lpAt Tryz.prog 120 4) Tryz.prog con a H K =
 (AsInt .i64 (a 12) fun z1 =>
 AsInt .i64 (a 13) fun z2 =>
 Bnd (upd (upd (upd (upd a 123 (a 12)) 124 (a 13)) 125 (.bool (leZ z1 z2))) 126 (.bool (leZ z1 z2))) fun s1 =>
Cd (leZ z1 z2) (
 AsSlc (a 0) fun p3 o4 l5 c6 =>
 AsCnt (a 13) fun n7 =>
 Must (ltN n7 l5) (
 Ld H p3 (Nat.add (Nat.add o4 (Nat.mul n7 3)) 0) fun v8 =>
 Ld H p3 (Nat.add (Nat.add o4 (Nat.mul n7 3)) 1) fun v9 =>
 Ld H p3 (Nat.add (Nat.add o4 (Nat.mul n7 3)) 2) fun v10 =>
 AsSlc (a 0) fun p11 o12 l13 c14 =>
 AsCnt (a 1) fun n15 =>
 Must (ltN n15 l13) (
 Ld H p11 (Nat.add (Nat.add o12 (Nat.mul n15 3)) 0) fun v16 =>
 Ld H p11 (Nat.add (Nat.add o12 (Nat.mul n15 3)) 1) fun v17 =>
 Ld H p11 (Nat.add (Nat.add o12 (Nat.mul n15 3)) 2) fun v18 =>
 AsFn (a 4) fun g19 l20 l21 =>
 Must (isFunT Tryz.prog g19) (
 Call1 Tryz.prog con g19 (appF l20 ((.agg ⟨[v8,v9,v10]⟩)::(.agg ⟨[v16,v17,v18]⟩)::l21)) H fun v22 H23 =>
 AsInt .i64 v22 fun z24 =>
 Bnd (upd (upd (upd (upd (upd (upd (upd (upd (upd (upd (upd (upd (upd (upd (upd (upd (upd (upd (upd (upd (upd (upd (upd (upd (upd s1 126 (.bool true)) 127 (a 4)) 126 (.bool true)) 128 (a 0)) 126 (.bool true)) 129 (a 13)) 126 (.bool true)) 130 (ptr p3 (Nat.add o4 (Nat.mul n7 3)))) 126 (.bool true)) 131 (.agg ⟨[v8,v9,v10]⟩)) 126 (.bool true)) 132 (a 0)) 126 (.bool true)) 133 (a 1)) 126 (.bool true)) 134 (ptr p11 (Nat.add o12 (Nat.mul n15 3)))) 126 (.bool true)) 135 (.agg ⟨[v16,v17,v18]⟩)) 126 (.bool true)) 136 v22) 126 (.bool true)) 137 (.bool (ltZ z24 (Int.ofNat 0)))) 126 (.bool true)) 138 (.bool (notB (ltZ z24 (Int.ofNat 0))))) 139 (.bool (notB (ltZ z24 (Int.ofNat 0))))) fun s2 =>
Cd (notB (ltZ z24 (Int.ofNat 0))) (
 AsInt .i64 (a 13) fun z25 =>
 InR (Int.sub z25 (Int.ofNat 1)) (
 K .normal (upd (upd (upd s2 140 (a 13)) 141 (i64 (Int.sub z25 (Int.ofNat 1)))) 13 (i64 (Int.sub z25 (Int.ofNat 1)))) H23)) (
 K (.exit 8) s2 H23))))) (
 K (.exit 8) (upd (Rz false 126 s1 127 12) 139 (.bool false)) H)) := by kernel_rfl
theorem nextPow_W (con : CallT) (n : Int) (H : CH) (K : KP) : funW Tryz.prog con 124 [i64 n] H K =
 (Must (cvOk .i64 n) (
 Call1 Tryz.prog con 104 [(u64 ((wrapN .u64 n)))] H fun v1 H2 =>
 AsCnt v1 fun n3 =>
 K (u64 ((Nat.mod (Nat.mul 1 (Nat.pow 2 (Nat.min n3 64))) 18446744073709551616))) H2)) := by kernel_rfl
theorem xorNext_W (con : CallT) (p : Nat) (H : CH) (K : KP) : funW Tryz.prog con 125 [ptr p 0] H K =
 (Ld H p 0 fun v1 =>
 Ld H p 0 fun v2 =>
 AsNat .u64 v2 fun n3 =>
 AsNat .u64 v1 fun n4 =>
 CInt .xor .u64 (Int.ofNat n4) (Int.ofNat (Nat.mod (Nat.mul n3 8192) 18446744073709551616)) fun v5 =>
 Sc v5 (St H p 0 [v5] fun H6 =>
 Ld H6 p 0 fun v7 =>
 Ld H6 p 0 fun v8 =>
 AsNat .u64 v8 fun n9 =>
 AsNat .u64 v7 fun n10 =>
 CInt .xor .u64 (Int.ofNat n10) (Int.ofNat (Nat.div n9 128)) fun v11 =>
 Sc v11 (St H6 p 0 [v11] fun H12 =>
 Ld H12 p 0 fun v13 =>
 Ld H12 p 0 fun v14 =>
 AsNat .u64 v14 fun n15 =>
 AsNat .u64 v13 fun n16 =>
 CInt .xor .u64 (Int.ofNat n16) (Int.ofNat (Nat.mod (Nat.mul n15 131072) 18446744073709551616)) fun v17 =>
 Sc v17 (St H12 p 0 [v17] fun H18 =>
 Ld H18 p 0 fun v19 =>
 K v19 H18)))) := by kernel_rfl
theorem medAdj_W (con : CallT) (v : Value) (i : Int) (p : Nat) (H : CH) (K : KP) : funW Tryz.prog con 126 [v,i64 i,ptr p 0,.func (.func 98) ⟨[]⟩ ⟨[]⟩] H K =
 (InR (Int.sub i (Int.ofNat 1)) (
 InR (Int.add i (Int.ofNat 1)) (
 Call1 Tryz.prog con 127 [v,(i64 (Int.sub i (Int.ofNat 1))),(i64 i),(i64 (Int.add i (Int.ofNat 1))),(ptr p 0),(.func (.func 98) ⟨[]⟩ ⟨[]⟩)] H fun v1 H2 =>
 K v1 H2))) := by kernel_rfl
theorem median_W (con : CallT) (v : Value) (i j k : Int) (p : Nat) (H : CH) (K : KP) : funW Tryz.prog con 127 [v,i64 i,i64 j,i64 k,ptr p 0,.func (.func 98) ⟨[]⟩ ⟨[]⟩] H K =
 (Call1 Tryz.prog con 128 [v,(i64 i),(i64 j),(ptr p 0),(.func (.func 98) ⟨[]⟩ ⟨[]⟩)] H fun v1 H2 =>
 AsTup v1 fun l3 =>
 Nth l3 0 fun v4 =>
 AsTup v1 fun l5 =>
 Nth l5 1 fun v6 =>
 Call1 Tryz.prog con 128 [v,v6,(i64 k),(ptr p 0),(.func (.func 98) ⟨[]⟩ ⟨[]⟩)] H2 fun v7 H8 =>
 AsTup v7 fun l9 =>
 Nth l9 0 fun v10 =>
 AsTup v7 fun l11 =>
 Nth l11 1 fun v12 =>
 Call1 Tryz.prog con 128 [v,v4,v10,(ptr p 0),(.func (.func 98) ⟨[]⟩ ⟨[]⟩)] H8 fun v13 H14 =>
 AsTup v13 fun l15 =>
 Nth l15 0 fun v16 =>
 AsTup v13 fun l17 =>
 Nth l17 1 fun v18 =>
 K v18 H14) := by kernel_rfl
theorem order2_W (con : CallT) (v : Value) (i j : Int) (p : Nat) (H : CH) (K : KP) : funW Tryz.prog con 128 [v,i64 i,i64 j,ptr p 0,.func (.func 98) ⟨[]⟩ ⟨[]⟩] H K =
 (AsSlc v fun p1 o2 l3 c4 =>
 AsCnt (i64 j) fun n5 =>
 Must (ltN n5 l3) (
 Ld H p1 (Nat.add (Nat.add o2 (Nat.mul n5 3)) 0) fun v6 =>
 Ld H p1 (Nat.add (Nat.add o2 (Nat.mul n5 3)) 1) fun v7 =>
 Ld H p1 (Nat.add (Nat.add o2 (Nat.mul n5 3)) 2) fun v8 =>
 AsSlc v fun p9 o10 l11 c12 =>
 AsCnt (i64 i) fun n13 =>
 Must (ltN n13 l11) (
 Ld H p9 (Nat.add (Nat.add o10 (Nat.mul n13 3)) 0) fun v14 =>
 Ld H p9 (Nat.add (Nat.add o10 (Nat.mul n13 3)) 1) fun v15 =>
 Ld H p9 (Nat.add (Nat.add o10 (Nat.mul n13 3)) 2) fun v16 =>
 Call1 Tryz.prog con 98 [(.agg ⟨[v6,v7,v8]⟩),(.agg ⟨[v14,v15,v16]⟩)] H fun v17 H18 =>
 AsInt .i64 v17 fun z19 =>
 Cd (ltZ z19 (Int.ofNat 0)) (
 Ld H18 p 0 fun v20 =>
 AsInt .i64 v20 fun z21 =>
 InR (Int.add z21 (Int.ofNat 1)) (
 St H18 p 0 [(i64 (Int.add z21 (Int.ofNat 1)))] fun H22 =>
 K (.tuple ⟨[(i64 j),(i64 i)]⟩) H22)) (
 K (.tuple ⟨[(i64 i),(i64 j)]⟩) H18)))) := by kernel_rfl
theorem bitsLen64_W (con : CallT) (n : Nat) (H : CH) (K : KP) : funW Tryz.prog con 122 [u64 n] H K =
 (Bnd (upd (upd (upd (upd (fun _ => undV) 0 (u64 (n))) 2 (iN (0))) 3 (u64 (n))) 4 (.bool (leN 4294967296 n))) fun s1 =>
Cd (leN 4294967296 n) (
 Bnd (upd (upd (upd (upd (upd (upd s1 5 (u64 (n))) 6 (u64 ((Nat.div n 4294967296)))) 0 (u64 ((Nat.div n 4294967296)))) 2 (iN (32))) 7 (u64 ((Nat.div n 4294967296)))) 8 (.bool (leN 65536 (Nat.div n 4294967296)))) fun s2 =>
Cd (leN 65536 (Nat.div n 4294967296)) (
 InR (Int.add (Int.ofNat 32) (Int.ofNat 16)) (
 Bnd (upd (upd (upd (upd (upd (upd (upd (upd s2 9 (u64 ((Nat.div n 4294967296)))) 10 (u64 ((Nat.div (Nat.div n 4294967296) 65536)))) 0 (u64 ((Nat.div (Nat.div n 4294967296) 65536)))) 11 (iN (32))) 12 (i64 (Int.add (Int.ofNat 32) (Int.ofNat 16)))) 2 (i64 (Int.add (Int.ofNat 32) (Int.ofNat 16)))) 13 (u64 ((Nat.div (Nat.div n 4294967296) 65536)))) 14 (.bool (leN 256 (Nat.div (Nat.div n 4294967296) 65536)))) fun s3 =>
Cd (leN 256 (Nat.div (Nat.div n 4294967296) 65536)) (
 InR (Int.add (Int.add (Int.ofNat 32) (Int.ofNat 16)) (Int.ofNat 8)) (
 OpN Tryz.prog H (upd (upd (upd (upd (upd (upd (upd (upd (upd s3 15 (u64 ((Nat.div (Nat.div n 4294967296) 65536)))) 16 (u64 ((Nat.div (Nat.div (Nat.div n 4294967296) 65536) 256)))) 0 (u64 ((Nat.div (Nat.div (Nat.div n 4294967296) 65536) 256)))) 17 (i64 (Int.add (Int.ofNat 32) (Int.ofNat 16)))) 18 (i64 (Int.add (Int.add (Int.ofNat 32) (Int.ofNat 16)) (Int.ofNat 8)))) 2 (i64 (Int.add (Int.add (Int.ofNat 32) (Int.ofNat 16)) (Int.ofNat 8)))) 19 (i64 (Int.add (Int.add (Int.ofNat 32) (Int.ofNat 16)) (Int.ofNat 8)))) 20 (u64 ((Nat.div (Nat.div (Nat.div n 4294967296) 65536) 256)))) 21 (u8 ((Nat.mod (Nat.div (Nat.div (Nat.div n 4294967296) 65536) 256) 256)))) (.index 9 (.const (.string ({
 data :=
 (([0,1,2,2,3,3,3,3,4,4,4,4,4,4,4,4,5,5,5,5,5,5,5,5,5,5,5,5,5,5,5,5,6,6,6,6,6,6,
 6,6,6,6,6,6,6,6,6,6,6,6,6,6,6,6,6,6,6,6,6,6,6,6,6,6].append
 [7,7,7,7,7,7,7,7,7,7,7,7,7,7,7,7,7,7,7,7,7,7,7,7,7,7,7,7,7,7,7,7,7,7,7,7,
 7,7,7,7,7,7,7,7,7,7,7,7,7,7,7,7,7,7,7,7,7,7,7,7,7,7,7,7]).append
 ([8,8,8,8,8,8,8,8,8,8,8,8,8,8,8,8,8,8,8,8,8,8,8,8,8,8,8,8,8,8,8,8,8,8,8,8,8,
 8,8,8,8,8,8,8,8,8,8,8,8,8,8,8,8,8,8,8,8,8,8,8,8,8,8,8].append
 [8,8,8,8,8,8,8,8,8,8,8,8,8,8,8,8,8,8,8,8,8,8,8,8,8,8,8,8,8,8,8,8,8,8,8,8,
 8,8,8,8,8,8,8,8,8,8,8,8,8,8,8,8,8,8,8,8,8,8,8,8,8,8,8,8])).toArray }))) (.tmp 21)) fun v1 H2 =>
 AsNat .u8 v1 fun n3 =>
 Must (ltN n3 256) (
 InR (Int.add (Int.add (Int.add (Int.ofNat 32) (Int.ofNat 16)) (Int.ofNat 8)) (Int.ofNat n3)) (
 K (i64 (Int.add (Int.add (Int.add (Int.ofNat 32) (Int.ofNat 16)) (Int.ofNat 8)) (Int.ofNat n3))) H2)))) (
 OpN Tryz.prog H (upd (upd (upd s3 19 (i64 (Int.add (Int.ofNat 32) (Int.ofNat 16)))) 20 (u64 ((Nat.div (Nat.div n 4294967296) 65536)))) 21 (u8 ((Nat.mod (Nat.div (Nat.div n 4294967296) 65536) 256)))) (.index 9 (.const (.string ({
 data :=
 (([0,1,2,2,3,3,3,3,4,4,4,4,4,4,4,4,5,5,5,5,5,5,5,5,5,5,5,5,5,5,5,5,6,6,6,6,6,6,
 6,6,6,6,6,6,6,6,6,6,6,6,6,6,6,6,6,6,6,6,6,6,6,6,6,6].append
 [7,7,7,7,7,7,7,7,7,7,7,7,7,7,7,7,7,7,7,7,7,7,7,7,7,7,7,7,7,7,7,7,7,7,7,7,
 7,7,7,7,7,7,7,7,7,7,7,7,7,7,7,7,7,7,7,7,7,7,7,7,7,7,7,7]).append
 ([8,8,8,8,8,8,8,8,8,8,8,8,8,8,8,8,8,8,8,8,8,8,8,8,8,8,8,8,8,8,8,8,8,8,8,8,8,
 8,8,8,8,8,8,8,8,8,8,8,8,8,8,8,8,8,8,8,8,8,8,8,8,8,8,8].append
 [8,8,8,8,8,8,8,8,8,8,8,8,8,8,8,8,8,8,8,8,8,8,8,8,8,8,8,8,8,8,8,8,8,8,8,8,
 8,8,8,8,8,8,8,8,8,8,8,8,8,8,8,8,8,8,8,8,8,8,8,8,8,8,8,8])).toArray }))) (.tmp 21)) fun v4 H5 =>
 AsNat .u8 v4 fun n6 =>
 Must (ltN n6 256) (
 InR (Int.add (Int.add (Int.ofNat 32) (Int.ofNat 16)) (Int.ofNat n6)) (
 K (i64 (Int.add (Int.add (Int.ofNat 32) (Int.ofNat 16)) (Int.ofNat n6))) H5))))) (
 Cd (leN 256 (Nat.div n 4294967296)) (
 InR (Int.add (Int.ofNat 32) (Int.ofNat 8)) (
 OpN Tryz.prog H (upd (upd (upd (upd (upd (upd (upd (upd (upd (upd (upd s2 13 (u64 ((Nat.div n 4294967296)))) 14 (.bool (leN 256 (Nat.div n 4294967296)))) 15 (u64 ((Nat.div n 4294967296)))) 16 (u64 ((Nat.div (Nat.div n 4294967296) 256)))) 0 (u64 ((Nat.div (Nat.div n 4294967296) 256)))) 17 (iN (32))) 18 (i64 (Int.add (Int.ofNat 32) (Int.ofNat 8)))) 2 (i64 (Int.add (Int.ofNat 32) (Int.ofNat 8)))) 19 (i64 (Int.add (Int.ofNat 32) (Int.ofNat 8)))) 20 (u64 ((Nat.div (Nat.div n 4294967296) 256)))) 21 (u8 ((Nat.mod (Nat.div (Nat.div n 4294967296) 256) 256)))) (.index 9 (.const (.string ({
 data :=
 (([0,1,2,2,3,3,3,3,4,4,4,4,4,4,4,4,5,5,5,5,5,5,5,5,5,5,5,5,5,5,5,5,6,6,6,6,6,6,
 6,6,6,6,6,6,6,6,6,6,6,6,6,6,6,6,6,6,6,6,6,6,6,6,6,6].append
 [7,7,7,7,7,7,7,7,7,7,7,7,7,7,7,7,7,7,7,7,7,7,7,7,7,7,7,7,7,7,7,7,7,7,7,7,
 7,7,7,7,7,7,7,7,7,7,7,7,7,7,7,7,7,7,7,7,7,7,7,7,7,7,7,7]).append
 ([8,8,8,8,8,8,8,8,8,8,8,8,8,8,8,8,8,8,8,8,8,8,8,8,8,8,8,8,8,8,8,8,8,8,8,8,8,
 8,8,8,8,8,8,8,8,8,8,8,8,8,8,8,8,8,8,8,8,8,8,8,8,8,8,8].append
 [8,8,8,8,8,8,8,8,8,8,8,8,8,8,8,8,8,8,8,8,8,8,8,8,8,8,8,8,8,8,8,8,8,8,8,8,
 8,8,8,8,8,8,8,8,8,8,8,8,8,8,8,8,8,8,8,8,8,8,8,8,8,8,8,8])).toArray }))) (.tmp 21)) fun v7 H8 =>
 AsNat .u8 v7 fun n9 =>
 Must (ltN n9 256) (
 InR (Int.add (Int.add (Int.ofNat 32) (Int.ofNat 8)) (Int.ofNat n9)) (
 K (i64 (Int.add (Int.add (Int.ofNat 32) (Int.ofNat 8)) (Int.ofNat n9))) H8)))) (
 OpN Tryz.prog H (upd (upd (upd (upd (upd s2 13 (u64 ((Nat.div n 4294967296)))) 14 (.bool (leN 256 (Nat.div n 4294967296)))) 19 (iN (32))) 20 (u64 ((Nat.div n 4294967296)))) 21 (u8 ((Nat.mod (Nat.div n 4294967296) 256)))) (.index 9 (.const (.string ({
 data :=
 (([0,1,2,2,3,3,3,3,4,4,4,4,4,4,4,4,5,5,5,5,5,5,5,5,5,5,5,5,5,5,5,5,6,6,6,6,6,6,
 6,6,6,6,6,6,6,6,6,6,6,6,6,6,6,6,6,6,6,6,6,6,6,6,6,6].append
 [7,7,7,7,7,7,7,7,7,7,7,7,7,7,7,7,7,7,7,7,7,7,7,7,7,7,7,7,7,7,7,7,7,7,7,7,
 7,7,7,7,7,7,7,7,7,7,7,7,7,7,7,7,7,7,7,7,7,7,7,7,7,7,7,7]).append
 ([8,8,8,8,8,8,8,8,8,8,8,8,8,8,8,8,8,8,8,8,8,8,8,8,8,8,8,8,8,8,8,8,8,8,8,8,8,
 8,8,8,8,8,8,8,8,8,8,8,8,8,8,8,8,8,8,8,8,8,8,8,8,8,8,8].append
 [8,8,8,8,8,8,8,8,8,8,8,8,8,8,8,8,8,8,8,8,8,8,8,8,8,8,8,8,8,8,8,8,8,8,8,8,
 8,8,8,8,8,8,8,8,8,8,8,8,8,8,8,8,8,8,8,8,8,8,8,8,8,8,8,8])).toArray }))) (.tmp 21)) fun v10 H11 =>
 AsNat .u8 v10 fun n12 =>
 Must (ltN n12 256) (
 InR (Int.add (Int.ofNat 32) (Int.ofNat n12)) (
 K (i64 (Int.add (Int.ofNat 32) (Int.ofNat n12))) H11))))) (
 Bnd (upd (upd s1 7 (u64 (n))) 8 (.bool (leN 65536 n))) fun s4 =>
Cd (leN 65536 n) (
 InR (Int.add (Int.ofNat 0) (Int.ofNat 16)) (
 Bnd (upd (upd (upd (upd (upd (upd (upd (upd s4 9 (u64 (n))) 10 (u64 ((Nat.div n 65536)))) 0 (u64 ((Nat.div n 65536)))) 11 (iN (0))) 12 (i64 (Int.add (Int.ofNat 0) (Int.ofNat 16)))) 2 (i64 (Int.add (Int.ofNat 0) (Int.ofNat 16)))) 13 (u64 ((Nat.div n 65536)))) 14 (.bool (leN 256 (Nat.div n 65536)))) fun s5 =>
Cd (leN 256 (Nat.div n 65536)) (
 InR (Int.add (Int.add (Int.ofNat 0) (Int.ofNat 16)) (Int.ofNat 8)) (
 OpN Tryz.prog H (upd (upd (upd (upd (upd (upd (upd (upd (upd s5 15 (u64 ((Nat.div n 65536)))) 16 (u64 ((Nat.div (Nat.div n 65536) 256)))) 0 (u64 ((Nat.div (Nat.div n 65536) 256)))) 17 (i64 (Int.add (Int.ofNat 0) (Int.ofNat 16)))) 18 (i64 (Int.add (Int.add (Int.ofNat 0) (Int.ofNat 16)) (Int.ofNat 8)))) 2 (i64 (Int.add (Int.add (Int.ofNat 0) (Int.ofNat 16)) (Int.ofNat 8)))) 19 (i64 (Int.add (Int.add (Int.ofNat 0) (Int.ofNat 16)) (Int.ofNat 8)))) 20 (u64 ((Nat.div (Nat.div n 65536) 256)))) 21 (u8 ((Nat.mod (Nat.div (Nat.div n 65536) 256) 256)))) (.index 9 (.const (.string ({
 data :=
 (([0,1,2,2,3,3,3,3,4,4,4,4,4,4,4,4,5,5,5,5,5,5,5,5,5,5,5,5,5,5,5,5,6,6,6,6,6,6,
 6,6,6,6,6,6,6,6,6,6,6,6,6,6,6,6,6,6,6,6,6,6,6,6,6,6].append
 [7,7,7,7,7,7,7,7,7,7,7,7,7,7,7,7,7,7,7,7,7,7,7,7,7,7,7,7,7,7,7,7,7,7,7,7,
 7,7,7,7,7,7,7,7,7,7,7,7,7,7,7,7,7,7,7,7,7,7,7,7,7,7,7,7]).append
 ([8,8,8,8,8,8,8,8,8,8,8,8,8,8,8,8,8,8,8,8,8,8,8,8,8,8,8,8,8,8,8,8,8,8,8,8,8,
 8,8,8,8,8,8,8,8,8,8,8,8,8,8,8,8,8,8,8,8,8,8,8,8,8,8,8].append
 [8,8,8,8,8,8,8,8,8,8,8,8,8,8,8,8,8,8,8,8,8,8,8,8,8,8,8,8,8,8,8,8,8,8,8,8,
 8,8,8,8,8,8,8,8,8,8,8,8,8,8,8,8,8,8,8,8,8,8,8,8,8,8,8,8])).toArray }))) (.tmp 21)) fun v13 H14 =>
 AsNat .u8 v13 fun n15 =>
 Must (ltN n15 256) (
 InR (Int.add (Int.add (Int.add (Int.ofNat 0) (Int.ofNat 16)) (Int.ofNat 8)) (Int.ofNat n15)) (
 K (i64 (Int.add (Int.add (Int.add (Int.ofNat 0) (Int.ofNat 16)) (Int.ofNat 8)) (Int.ofNat n15))) H14)))) (
 OpN Tryz.prog H (upd (upd (upd s5 19 (i64 (Int.add (Int.ofNat 0) (Int.ofNat 16)))) 20 (u64 ((Nat.div n 65536)))) 21 (u8 ((Nat.mod (Nat.div n 65536) 256)))) (.index 9 (.const (.string ({
 data :=
 (([0,1,2,2,3,3,3,3,4,4,4,4,4,4,4,4,5,5,5,5,5,5,5,5,5,5,5,5,5,5,5,5,6,6,6,6,6,6,
 6,6,6,6,6,6,6,6,6,6,6,6,6,6,6,6,6,6,6,6,6,6,6,6,6,6].append
 [7,7,7,7,7,7,7,7,7,7,7,7,7,7,7,7,7,7,7,7,7,7,7,7,7,7,7,7,7,7,7,7,7,7,7,7,
 7,7,7,7,7,7,7,7,7,7,7,7,7,7,7,7,7,7,7,7,7,7,7,7,7,7,7,7]).append
 ([8,8,8,8,8,8,8,8,8,8,8,8,8,8,8,8,8,8,8,8,8,8,8,8,8,8,8,8,8,8,8,8,8,8,8,8,8,
 8,8,8,8,8,8,8,8,8,8,8,8,8,8,8,8,8,8,8,8,8,8,8,8,8,8,8].append
 [8,8,8,8,8,8,8,8,8,8,8,8,8,8,8,8,8,8,8,8,8,8,8,8,8,8,8,8,8,8,8,8,8,8,8,8,
 8,8,8,8,8,8,8,8,8,8,8,8,8,8,8,8,8,8,8,8,8,8,8,8,8,8,8,8])).toArray }))) (.tmp 21)) fun v16 H17 =>
 AsNat .u8 v16 fun n18 =>
 Must (ltN n18 256) (
 InR (Int.add (Int.add (Int.ofNat 0) (Int.ofNat 16)) (Int.ofNat n18)) (
 K (i64 (Int.add (Int.add (Int.ofNat 0) (Int.ofNat 16)) (Int.ofNat n18))) H17))))) (
 Cd (leN 256 n) (
 InR (Int.add (Int.ofNat 0) (Int.ofNat 8)) (
 OpN Tryz.prog H (upd (upd (upd (upd (upd (upd (upd (upd (upd (upd (upd s4 13 (u64 (n))) 14 (.bool (leN 256 n))) 15 (u64 (n))) 16 (u64 ((Nat.div n 256)))) 0 (u64 ((Nat.div n 256)))) 17 (iN (0))) 18 (i64 (Int.add (Int.ofNat 0) (Int.ofNat 8)))) 2 (i64 (Int.add (Int.ofNat 0) (Int.ofNat 8)))) 19 (i64 (Int.add (Int.ofNat 0) (Int.ofNat 8)))) 20 (u64 ((Nat.div n 256)))) 21 (u8 ((Nat.mod (Nat.div n 256) 256)))) (.index 9 (.const (.string ({
 data :=
 (([0,1,2,2,3,3,3,3,4,4,4,4,4,4,4,4,5,5,5,5,5,5,5,5,5,5,5,5,5,5,5,5,6,6,6,6,6,6,
 6,6,6,6,6,6,6,6,6,6,6,6,6,6,6,6,6,6,6,6,6,6,6,6,6,6].append
 [7,7,7,7,7,7,7,7,7,7,7,7,7,7,7,7,7,7,7,7,7,7,7,7,7,7,7,7,7,7,7,7,7,7,7,7,
 7,7,7,7,7,7,7,7,7,7,7,7,7,7,7,7,7,7,7,7,7,7,7,7,7,7,7,7]).append
 ([8,8,8,8,8,8,8,8,8,8,8,8,8,8,8,8,8,8,8,8,8,8,8,8,8,8,8,8,8,8,8,8,8,8,8,8,8,
 8,8,8,8,8,8,8,8,8,8,8,8,8,8,8,8,8,8,8,8,8,8,8,8,8,8,8].append
 [8,8,8,8,8,8,8,8,8,8,8,8,8,8,8,8,8,8,8,8,8,8,8,8,8,8,8,8,8,8,8,8,8,8,8,8,
 8,8,8,8,8,8,8,8,8,8,8,8,8,8,8,8,8,8,8,8,8,8,8,8,8,8,8,8])).toArray }))) (.tmp 21)) fun v19 H20 =>
 AsNat .u8 v19 fun n21 =>
 Must (ltN n21 256) (
 InR (Int.add (Int.add (Int.ofNat 0) (Int.ofNat 8)) (Int.ofNat n21)) (
 K (i64 (Int.add (Int.add (Int.ofNat 0) (Int.ofNat 8)) (Int.ofNat n21))) H20)))) (
 OpN Tryz.prog H (upd (upd (upd (upd (upd s4 13 (u64 (n))) 14 (.bool (leN 256 n))) 19 (iN (0))) 20 (u64 (n))) 21 (u8 ((Nat.mod n 256)))) (.index 9 (.const (.string ({
 data :=
 (([0,1,2,2,3,3,3,3,4,4,4,4,4,4,4,4,5,5,5,5,5,5,5,5,5,5,5,5,5,5,5,5,6,6,6,6,6,6,
 6,6,6,6,6,6,6,6,6,6,6,6,6,6,6,6,6,6,6,6,6,6,6,6,6,6].append
 [7,7,7,7,7,7,7,7,7,7,7,7,7,7,7,7,7,7,7,7,7,7,7,7,7,7,7,7,7,7,7,7,7,7,7,7,
 7,7,7,7,7,7,7,7,7,7,7,7,7,7,7,7,7,7,7,7,7,7,7,7,7,7,7,7]).append
 ([8,8,8,8,8,8,8,8,8,8,8,8,8,8,8,8,8,8,8,8,8,8,8,8,8,8,8,8,8,8,8,8,8,8,8,8,8,
 8,8,8,8,8,8,8,8,8,8,8,8,8,8,8,8,8,8,8,8,8,8,8,8,8,8,8].append
 [8,8,8,8,8,8,8,8,8,8,8,8,8,8,8,8,8,8,8,8,8,8,8,8,8,8,8,8,8,8,8,8,8,8,8,8,
 8,8,8,8,8,8,8,8,8,8,8,8,8,8,8,8,8,8,8,8,8,8,8,8,8,8,8,8])).toArray }))) (.tmp 21)) fun v22 H23 =>
 AsNat .u8 v22 fun n24 =>
 Must (ltN n24 256) (
 InR (Int.add (Int.ofNat 0) (Int.ofNat n24)) (
 K (i64 (Int.add (Int.ofNat 0) (Int.ofNat n24))) H23)))))) := by kernel_rfl
end Go.Proofs.YtnkbmaccgifeoaaGreat

/- What some functions' texts ask for,step by step,each checked by the kernel. No conditions. -/
set_option linter.unusedVariables false
set_option maxRecDepth 100000
namespace Go.Proofs.YtnkbmaccgifeoaaGreat
open Go Go.CM
theorem cloneEnt_W (con : CallT) (v : Value) (H : CH) (K : KP) : funW Tryz.prog con 59 [v] H K =
 (IsNil .slc v fun b1 =>
 Cd b1 (
 K (snil) H) (
 Nw H (mkRow 142 0 []) fun p2 H3 =>
 App Tryz.prog 128 128 H3 (.slice (some ⟨p2,0,none⟩) 0 0) v fun v4 H5 =>
 K v4 H5)) := by kernel_rfl
theorem l29entries_W (con : CallT) (v : Value) (H : CH) (K : KP) : funW Tryz.prog con 36 [v] H K =
 (LoopC Tryz.prog con (lpAt Tryz.prog 36 0) (upd (upd (upd (upd (fun _ => undV) 0 v) 2 (snil)) 3 (snil)) 4 (iN (0))) H (fun e => ceP e
 (fun a1 H2 =>
 K (a1 3) H2)
 (fun i3 => fun a1 H2 =>
 Cd (eqN i3 0) (
 K (a1 3) H2) (
 False))
 (fun a1 H2 =>
 K (a1 2) H2))) := by kernel_rfl
theorem l29entriesL_W (con : CallT) (a : TF) (H : CH) (K : KX) : codeW (lpAt Tryz.prog 36 0) Tryz.prog con a H K =
 (AsLen (a 0) fun l1 =>
 AsInt .i64 (a 4) fun z2 =>
 Cd (ltZ z2 (Int.ofNat l1)) (
 AsSlc (a 0) fun p3 o4 l5 c6 =>
 AsCnt (a 4) fun n7 =>
 Must (ltN n7 l5) (
 Ld H p3 (Nat.add (Nat.add o4 (Nat.mul n7 3)) 0) fun v8 =>
 AsSlc (a 0) fun p9 o10 l11 c12 =>
 AsCnt (a 4) fun n13 =>
 Must (ltN n13 l11) (
 Ld H p9 (Nat.add (Nat.add o10 (Nat.mul n13 3)) 1) fun v14 =>
 AsSlc (a 0) fun p15 o16 l17 c18 =>
 AsCnt (a 4) fun n19 =>
 Must (ltN n19 l17) (
 Ld H p15 (Nat.add (Nat.add o16 (Nat.mul n19 3)) 2) fun v20 =>
 Sc v8 (Sc v14 (Sc v20 (Nw H (mkRow 142 0 [v8,v14,v20]) fun p21 H22 =>
 App Tryz.prog 128 128 H22 (a 3) (.slice (some ⟨p21,0,none⟩) 1 1) fun v23 H24 =>
 AsInt .i64 (a 4) fun z25 =>
 InR (Int.add z25 (Int.ofNat 1)) (
 K .normal (upd (upd (upd (upd (upd (upd (upd (upd (upd (upd (upd (upd (upd (upd (upd (upd (upd (upd (upd (upd (upd (upd (upd (upd (upd (upd (upd a 5 (a 4)) 6 (a 0)) 7 (iN (l1))) 8 (.bool (ltZ z2 (Int.ofNat l1)))) 11 (a 3)) 12 (a 0)) 13 (a 4)) 14 (ptr p3 (Nat.add o4 (Nat.mul n7 3)))) 15 (ptr p3 (Nat.add (Nat.add o4 (Nat.mul n7 3)) 0))) 16 v8) 17 (a 0)) 18 (a 4)) 19 (ptr p9 (Nat.add o10 (Nat.mul n13 3)))) 20 (ptr p9 (Nat.add (Nat.add o10 (Nat.mul n13 3)) 1))) 21 v14) 22 (a 0)) 23 (a 4)) 24 (ptr p15 (Nat.add o16 (Nat.mul n19 3)))) 25 (ptr p15 (Nat.add (Nat.add o16 (Nat.mul n19 3)) 2))) 26 v20) 27 (.agg ⟨[v8,v14,v20]⟩)) 28 (.slice (some ⟨p21,0,none⟩) 1 1)) 29 v23) 3 v23) 9 (a 4)) 10 (i64 (Int.add z25 (Int.ofNat 1)))) 4 (i64 (Int.add z25 (Int.ofNat 1)))) H24)))))))) (
 K (.exit 0) (upd (upd (upd (upd a 5 (a 4)) 6 (a 0)) 7 (iN (l1))) 8 (.bool (ltZ z2 (Int.ofNat l1)))) H)) := by kernel_rfl
theorem l29begin_W (con : CallT) (xr : Bool) (xa : Nat) (xl : Value) (H : CH) (K : KP) : funW Tryz.prog con 11 [.agg ⟨[.bool xr,u64 xa,xl]⟩] H K =
 (Nw H (mkRow 26 0 [(.bool xr),(u64 (xa)),xl]) fun p1 H2 =>
 Nw H2 (mkRow 41 0 [(.pointer none),(.pointer none)]) fun p3 H4 =>
 Ld H4 p1 0 fun v5 =>
 AsBool v5 fun b6 =>
 Cd b6 (
 Ld H4 p1 1 fun v7 =>
 Call1 Tryz.prog con 34 [v7] H4 fun v8 H9 =>
 Sc v8 (St H9 p3 0 [(.pointer none),v8] fun H10 =>
 Ld H10 p3 0 fun v11 =>
 Ld H10 p3 1 fun v12 =>
 K (.tuple ⟨[(.agg ⟨[v11,v12]⟩),(.iface 39 v8)]⟩) H10)) (
 Ld H4 p1 2 fun v13 =>
 Call1 Tryz.prog con 36 [v13] H4 fun v14 H15 =>
 Call1 Tryz.prog con 35 [v14] H15 fun v16 H17 =>
 Sc v16 (St H17 p3 0 [v16,(.pointer none)] fun H18 =>
 Ld H18 p3 0 fun v19 =>
 Ld H18 p3 1 fun v20 =>
 K (.tuple ⟨[(.agg ⟨[v19,v20]⟩),(.iface 38 v16)]⟩) H18))) := by kernel_rfl
theorem isLock29_W (con : CallT) (x : Nat) (H : CH) (K : KP) : funW Tryz.prog con 38 [u64 x] H K =
 (K (.bool (eqN (Nat.mod x 4) 1)) H) := by kernel_rfl
theorem isPlan29_W (con : CallT) (x : Nat) (H : CH) (K : KP) : funW Tryz.prog con 39 [u64 x] H K =
 (K (.bool (eqN (Nat.mod x 4) 2)) H) := by kernel_rfl
end Go.Proofs.YtnkbmaccgifeoaaGreat

/- What some functions' texts ask for,step by step,each checked by the kernel. No conditions. -/
set_option linter.unusedVariables false
set_option maxRecDepth 100000
namespace Go.Proofs.YtnkbmaccgifeoaaGreat
open Go Go.CM
theorem stepNew_W (con : CallT) (m : Nat) (v : Value) (H : CH) (K : KP) : funW Tryz.prog con 51 [ptr m 0,v] H K =
 (AsLen v fun l1 =>
 Cd (ltZ (Int.ofNat 64) (Int.ofNat l1)) (
 K (.tuple ⟨[(.pointer none),(iN (6))]⟩) H) (
 Call1 Tryz.prog con 66 [v,(.func (.func 67) ⟨[]⟩ ⟨[]⟩)] H fun v2 H3 =>
 AsBool v2 fun b4 =>
 Cd b4 (
 K (.tuple ⟨[(.pointer none),(iN (6))]⟩) H3) (
 Nw H3 (mkRow 162 0 [(ptr m 0),(snil),(.pointer none),(.pointer none),(.pointer none),(.pointer none),(.pointer none),(.pointer none),(.pointer none),(.pointer none),(.pointer none),(.pointer none),(.pointer none),(.pointer none),(.pointer none),(.pointer none),(.pointer none),(.pointer none),(.pointer none),(.pointer none),(.pointer none),(.pointer none),(.pointer none),(.pointer none),(.pointer none),(.pointer none),(.pointer none),(.pointer none),(.pointer none),(.pointer none),(.pointer none),(.pointer none),(.pointer none),(.pointer none),(.pointer none),(.pointer none),(.pointer none),(.pointer none),(.pointer none),(.pointer none),(.pointer none),(.pointer none),(.pointer none),(.pointer none),(.pointer none),(.pointer none),(.pointer none),(.pointer none),(.pointer none),(.pointer none),(.pointer none),(.pointer none),(.pointer none),(.pointer none),(.pointer none),(.pointer none),(.pointer none),(.pointer none),(.pointer none),(.pointer none),(.pointer none),(.pointer none),(.pointer none),(.pointer none),(.pointer none),(.pointer none),(iN (0)),(snil),(snil)]) fun p5 H6 =>
 AsLen v fun l7 =>
 LoopC Tryz.prog con (lpAt Tryz.prog 51 0) (upd (upd (upd (upd (upd (upd (upd (upd (upd (upd (upd (upd (upd (upd (upd (upd (upd (upd (upd (upd (upd (upd (fun _ => undV) 1 v) 0 (ptr m 0)) 4 (.pointer none)) 5 (iN (0))) 9 (ptr m 0)) 10 (.bool false)) 11 v) 12 (iN (l1))) 13 (.bool (ltZ (Int.ofNat 64) (Int.ofNat l1)))) 14 (.bool (ltZ (Int.ofNat 64) (Int.ofNat l1)))) 14 (.bool false)) 15 v) 14 (.bool false)) 16 v2) 17 v2) 18 (ptr m 0)) 19 (.agg ⟨[(ptr m 0),(snil),(.pointer none),(.pointer none),(.pointer none),(.pointer none),(.pointer none),(.pointer none),(.pointer none),(.pointer none),(.pointer none),(.pointer none),(.pointer none),(.pointer none),(.pointer none),(.pointer none),(.pointer none),(.pointer none),(.pointer none),(.pointer none),(.pointer none),(.pointer none),(.pointer none),(.pointer none),(.pointer none),(.pointer none),(.pointer none),(.pointer none),(.pointer none),(.pointer none),(.pointer none),(.pointer none),(.pointer none),(.pointer none),(.pointer none),(.pointer none),(.pointer none),(.pointer none),(.pointer none),(.pointer none),(.pointer none),(.pointer none),(.pointer none),(.pointer none),(.pointer none),(.pointer none),(.pointer none),(.pointer none),(.pointer none),(.pointer none),(.pointer none),(.pointer none),(.pointer none),(.pointer none),(.pointer none),(.pointer none),(.pointer none),(.pointer none),(.pointer none),(.pointer none),(.pointer none),(.pointer none),(.pointer none),(.pointer none),(.pointer none),(.pointer none),(iN (0)),(snil),(snil)]⟩)) 20 (ptr p5 0)) 6 (ptr p5 0)) 21 v) 22 (iN (l7))) 23 (iN (0))) H6 (fun e => ceP e
 (fun a8 H9 =>
 K (.tuple ⟨[(a8 6),(iN (0))]⟩) H9)
 (fun i10 => fun a8 H9 =>
 Cd (eqN i10 0) (
 K (.tuple ⟨[(a8 6),(iN (0))]⟩) H9) (
 False))
 (fun a8 H9 =>
 K (.tuple ⟨[(a8 4),(a8 5)]⟩) H9))))) := by kernel_rfl
theorem stepNewC_W (con : CallT) (v : Value) (H : CH) (K : KP) : funW Tryz.prog con 67 [v] H K =
 (AsLen v fun l1 =>
 K (.bool (ltZ (Int.ofNat 4096) (Int.ofNat l1))) H) := by kernel_rfl
theorem stepRun_W (con : CallT) (p : Nat) (v : Value) (H : CH) (K : KP) : funW Tryz.prog con 52 [ptr p 0,v] H K =
 (AsLen v fun l1 =>
 LoopC Tryz.prog con (lpAt Tryz.prog 52 0) (upd (upd (upd (upd (upd (fun _ => undV) 1 v) 0 (ptr p 0)) 6 v) 7 (iN (l1))) 8 (iN (0))) H (fun e => ceP e
 (fun a2 H3 =>
 K unit H3)
 (fun i4 => fun a2 H3 =>
 Cd (eqN i4 0) (
 K unit H3) (
 False))
 (fun a2 H3 =>
 K unit H3))) := by kernel_rfl
theorem stepPick_W (con : CallT) (p : Nat) (t : Int) (H : CH) (K : KP) : funW Tryz.prog con 57 [ptr p 0,i64 t] H K =
 (Ld H p 66 fun v1 =>
 Ld H p 66 fun v2 =>
 AsInt .i64 v2 fun z3 =>
 InR (Int.add z3 (Int.ofNat 1)) (
 St H p 66 [(i64 (Int.add z3 (Int.ofNat 1)))] fun H4 =>
 Call1 Tryz.prog con 56 [(ptr p 0),(i64 t)] H4 fun v5 H6 =>
 AsBool v5 fun b7 =>
 Cd b7 (
 K (.bool false) H6) (
 Ld H6 p 1 fun v8 =>
 AsSlc v8 fun p9 o10 l11 c12 =>
 AsCnt (i64 t) fun n13 =>
 Must (ltN n13 l11) (
 Ld H6 p9 (Nat.add (Nat.add o10 (Nat.mul n13 3)) 2) fun v14 =>
 AsBool v14 fun b15 =>
 Cd (notB b15) (
 St H6 p9 (Nat.add (Nat.add o10 (Nat.mul n13 3)) 2) [(.bool true)] fun H16 =>
 Ld H16 p 67 fun v17 =>
 Ld H16 p9 (Nat.add (Nat.add o10 (Nat.mul n13 3)) 1) fun v18 =>
 Sc v1 (Sc v18 (Nw H16 (mkRow 182 0 [v1,(i64 t),v18,(.bool false)]) fun p19 H20 =>
 App Tryz.prog 160 160 H20 v17 (.slice (some ⟨p19,0,none⟩) 1 1) fun v21 H22 =>
 Sc v21 (St H22 p 67 [v21] fun H23 =>
 Ld H16 p 67 fun v24 =>
 Same v17 v24 (
 Ld H20 p 67 fun v25 =>
 Same v17 v25 (
 Ld H23 p 0 fun v26 =>
 Call1 Tryz.prog con 69 [v26] H23 fun v27 H28 =>
 Ld H28 p9 (Nat.add (Nat.add o10 (Nat.mul n13 3)) 0) fun v29 =>
 Ld H28 p9 (Nat.add (Nat.add o10 (Nat.mul n13 3)) 1) fun v30 =>
 AsSlc v29 fun p31 o32 l33 c34 =>
 AsCnt v30 fun n35 =>
 Must (ltN n35 l33) (
 Ld H28 p31 (Nat.add o32 (Nat.mul n35 1)) fun v36 =>
 IsNil .ifc v36 fun b37 =>
 Cd b37 (
 Ld H28 p 67 fun v38 =>
 Ld H28 p9 (Nat.add (Nat.add o10 (Nat.mul n13 3)) 1) fun v39 =>
 Sc v1 (Sc v39 (Nw H28 (mkRow 182 0 [v1,(i64 t),v39,(.bool true)]) fun p40 H41 =>
 App Tryz.prog 160 160 H41 v38 (.slice (some ⟨p40,0,none⟩) 1 1) fun v42 H43 =>
 Sc v42 (St H43 p 67 [v42] fun H44 =>
 Ld H28 p 67 fun v45 =>
 Same v38 v45 (
 Ld H41 p 67 fun v46 =>
 Same v38 v46 (
 St H44 p9 (Nat.add (Nat.add o10 (Nat.mul n13 3)) 2) [(.bool false)] fun H47 =>
 Ld H47 p9 (Nat.add (Nat.add o10 (Nat.mul n13 3)) 1) fun v48 =>
 AsInt .i64 v48 fun z49 =>
 InR (Int.add z49 (Int.ofNat 1)) (
 St H47 p9 (Nat.add (Nat.add o10 (Nat.mul n13 3)) 1) [(i64 (Int.add z49 (Int.ofNat 1)))] fun H50 =>
 Ld H50 p 0 fun v51 =>
 Call1 Tryz.prog con 69 [v51] H50 fun v52 H53 =>
 Call1 Tryz.prog con 70 [(ptr p 0),v1,v27,v52] H53 fun v54 H55 =>
 K (.bool true) H55))))))) (
 AsCnt (i64 t) fun n56 =>
 Must (ltN n56 64) (
 Ld H28 p (Nat.add 2 (Nat.mul n56 1)) fun v57 =>
 MethOk Tryz.prog "Step" [v36] (
 Mth Tryz.prog con v36 "Step" [v57] H28 fun v58 H59 =>
 AsBool v58 fun b60 =>
 Cd b60 (
 Ld H59 p 67 fun v61 =>
 Ld H59 p9 (Nat.add (Nat.add o10 (Nat.mul n13 3)) 1) fun v62 =>
 Sc v1 (Sc v62 (Nw H59 (mkRow 182 0 [v1,(i64 t),v62,(.bool true)]) fun p63 H64 =>
 App Tryz.prog 160 160 H64 v61 (.slice (some ⟨p63,0,none⟩) 1 1) fun v65 H66 =>
 Sc v65 (St H66 p 67 [v65] fun H67 =>
 Ld H59 p 67 fun v68 =>
 Same v61 v68 (
 Ld H64 p 67 fun v69 =>
 Same v61 v69 (
 St H67 p9 (Nat.add (Nat.add o10 (Nat.mul n13 3)) 2) [(.bool false)] fun H70 =>
 Ld H70 p9 (Nat.add (Nat.add o10 (Nat.mul n13 3)) 1) fun v71 =>
 AsInt .i64 v71 fun z72 =>
 InR (Int.add z72 (Int.ofNat 1)) (
 St H70 p9 (Nat.add (Nat.add o10 (Nat.mul n13 3)) 1) [(i64 (Int.add z72 (Int.ofNat 1)))] fun H73 =>
 Ld H73 p 0 fun v74 =>
 Call1 Tryz.prog con 69 [v74] H73 fun v75 H76 =>
 Call1 Tryz.prog con 70 [(ptr p 0),v1,v27,v75] H76 fun v77 H78 =>
 K (.bool true) H78))))))) (
 Ld H59 p 0 fun v79 =>
 Call1 Tryz.prog con 69 [v79] H59 fun v80 H81 =>
 Call1 Tryz.prog con 70 [(ptr p 0),v1,v27,v80] H81 fun v82 H83 =>
 K (.bool true) H83))))))))))) (
 Ld H6 p 0 fun v84 =>
 Call1 Tryz.prog con 69 [v84] H6 fun v85 H86 =>
 Ld H86 p9 (Nat.add (Nat.add o10 (Nat.mul n13 3)) 0) fun v87 =>
 Ld H86 p9 (Nat.add (Nat.add o10 (Nat.mul n13 3)) 1) fun v88 =>
 AsSlc v87 fun p89 o90 l91 c92 =>
 AsCnt v88 fun n93 =>
 Must (ltN n93 l91) (
 Ld H86 p89 (Nat.add o90 (Nat.mul n93 1)) fun v94 =>
 IsNil .ifc v94 fun b95 =>
 Cd b95 (
 Ld H86 p 67 fun v96 =>
 Ld H86 p9 (Nat.add (Nat.add o10 (Nat.mul n13 3)) 1) fun v97 =>
 Sc v1 (Sc v97 (Nw H86 (mkRow 182 0 [v1,(i64 t),v97,(.bool true)]) fun p98 H99 =>
 App Tryz.prog 160 160 H99 v96 (.slice (some ⟨p98,0,none⟩) 1 1) fun v100 H101 =>
 Sc v100 (St H101 p 67 [v100] fun H102 =>
 Ld H86 p 67 fun v103 =>
 Same v96 v103 (
 Ld H99 p 67 fun v104 =>
 Same v96 v104 (
 St H102 p9 (Nat.add (Nat.add o10 (Nat.mul n13 3)) 2) [(.bool false)] fun H105 =>
 Ld H105 p9 (Nat.add (Nat.add o10 (Nat.mul n13 3)) 1) fun v106 =>
 AsInt .i64 v106 fun z107 =>
 InR (Int.add z107 (Int.ofNat 1)) (
 St H105 p9 (Nat.add (Nat.add o10 (Nat.mul n13 3)) 1) [(i64 (Int.add z107 (Int.ofNat 1)))] fun H108 =>
 Ld H108 p 0 fun v109 =>
 Call1 Tryz.prog con 69 [v109] H108 fun v110 H111 =>
 Call1 Tryz.prog con 70 [(ptr p 0),v1,v85,v110] H111 fun v112 H113 =>
 K (.bool true) H113))))))) (
 AsCnt (i64 t) fun n114 =>
 Must (ltN n114 64) (
 Ld H86 p (Nat.add 2 (Nat.mul n114 1)) fun v115 =>
 MethOk Tryz.prog "Step" [v94] (
 Mth Tryz.prog con v94 "Step" [v115] H86 fun v116 H117 =>
 AsBool v116 fun b118 =>
 Cd b118 (
 Ld H117 p 67 fun v119 =>
 Ld H117 p9 (Nat.add (Nat.add o10 (Nat.mul n13 3)) 1) fun v120 =>
 Sc v1 (Sc v120 (Nw H117 (mkRow 182 0 [v1,(i64 t),v120,(.bool true)]) fun p121 H122 =>
 App Tryz.prog 160 160 H122 v119 (.slice (some ⟨p121,0,none⟩) 1 1) fun v123 H124 =>
 Sc v123 (St H124 p 67 [v123] fun H125 =>
 Ld H117 p 67 fun v126 =>
 Same v119 v126 (
 Ld H122 p 67 fun v127 =>
 Same v119 v127 (
 St H125 p9 (Nat.add (Nat.add o10 (Nat.mul n13 3)) 2) [(.bool false)] fun H128 =>
 Ld H128 p9 (Nat.add (Nat.add o10 (Nat.mul n13 3)) 1) fun v129 =>
 AsInt .i64 v129 fun z130 =>
 InR (Int.add z130 (Int.ofNat 1)) (
 St H128 p9 (Nat.add (Nat.add o10 (Nat.mul n13 3)) 1) [(i64 (Int.add z130 (Int.ofNat 1)))] fun H131 =>
 Ld H131 p 0 fun v132 =>
 Call1 Tryz.prog con 69 [v132] H131 fun v133 H134 =>
 Call1 Tryz.prog con 70 [(ptr p 0),v1,v85,v133] H134 fun v135 H136 =>
 K (.bool true) H136))))))) (
 Ld H117 p 0 fun v137 =>
 Call1 Tryz.prog con 69 [v137] H117 fun v138 H139 =>
 Call1 Tryz.prog con 70 [(ptr p 0),v1,v85,v138] H139 fun v140 H141 =>
 K (.bool true) H141)))))))))) := by kernel_rfl
theorem stepIdle_W (con : CallT) (p : Nat) (t : Int) (H : CH) (K : KP) : funW Tryz.prog con 56 [ptr p 0,i64 t] H K =
 (Cd (ltZ t (Int.ofNat 0)) (
 K (.bool true) H) (
 Ld H p 1 fun v1 =>
 AsLen v1 fun l2 =>
 Cd (leZ (Int.ofNat l2) t) (
 K (.bool true) H) (
 Ld H p 1 fun v3 =>
 AsSlc v3 fun p4 o5 l6 c7 =>
 AsCnt (i64 t) fun n8 =>
 Must (ltN n8 l6) (
 Ld H p4 (Nat.add (Nat.add o5 (Nat.mul n8 3)) 1) fun v9 =>
 Ld H p 1 fun v10 =>
 AsSlc v10 fun p11 o12 l13 c14 =>
 AsCnt (i64 t) fun n15 =>
 Must (ltN n15 l13) (
 Ld H p11 (Nat.add (Nat.add o12 (Nat.mul n15 3)) 0) fun v16 =>
 AsLen v16 fun l17 =>
 AsInt .i64 v9 fun z18 =>
 K (.bool (leZ (Int.ofNat l17) z18)) H))))) := by kernel_rfl
theorem stepNote_W (con : CallT) (p : Nat) (t y z : Int) (H : CH) (K : KP) : funW Tryz.prog con 70 [ptr p 0,i64 t,i64 y,i64 z] H K =
 (LoopC Tryz.prog con (lpAt Tryz.prog 70 0) (upd (upd (upd (upd (fun _ => undV) 3 (i64 z)) 2 (i64 y)) 1 (i64 t)) 0 (ptr p 0)) H (fun e => ceP e
 (fun a1 H2 =>
 LoopC Tryz.prog con (lpAt Tryz.prog 70 1) a1 H2 (fun e => ceP e
 (fun a4 H5 =>
 K unit H5)
 (fun i6 => fun a4 H5 =>
 Cd (eqN i6 2) (
 K unit H5) (
 False))
 (fun a4 H5 =>
 K unit H5)))
 (fun i3 => fun a1 H2 =>
 Cd (eqN i3 0) (
 LoopC Tryz.prog con (lpAt Tryz.prog 70 1) a1 H2 (fun e => ceP e
 (fun a7 H8 =>
 K unit H8)
 (fun i9 => fun a7 H8 =>
 Cd (eqN i9 2) (
 K unit H8) (
 False))
 (fun a7 H8 =>
 K unit H8))) (
 False))
 (fun a1 H2 =>
 K unit H2))) := by kernel_rfl
theorem containsP_W (con : CallT) (xa xf : Value) (H : CH) (K : KP) : funW Tryz.prog con 66 [xa,xf] H K =
 (Call1 Tryz.prog con 74 [xa,xf] H fun v1 H2 =>
 AsInt .i64 v1 fun z3 =>
 K (.bool (leZ (Int.ofNat 0) z3)) H2) := by kernel_rfl
theorem indexP_W (con : CallT) (xa xf : Value) (H : CH) (K : KP) : funW Tryz.prog con 74 [xa,xf] H K =
 (AsLen xa fun l1 =>
 LoopC Tryz.prog con (lpAt Tryz.prog 74 0) (upd (upd (upd (upd (upd (upd (fun _ => undV) 1 xf) 0 xa) 4 (iN (0))) 6 xa) 7 (iN (l1))) 8 (iN (0))) H (fun e => ceP e
 (fun a2 H3 =>
 K (i64 (Int.negSucc 0)) H3)
 (fun i4 => fun a2 H3 =>
 Cd (eqN i4 0) (
 K (i64 (Int.negSucc 0)) H3) (
 False))
 (fun a2 H3 =>
 K (a2 4) H3))) := by kernel_rfl
theorem cloneP_W (con : CallT) (v : Value) (H : CH) (K : KP) : funW Tryz.prog con 68 [v] H K =
 (IsNil .slc v fun b1 =>
 Cd b1 (
 K (snil) H) (
 Nw H (mkRow 43 0 []) fun p2 H3 =>
 App Tryz.prog 151 151 H3 (.slice (some ⟨p2,0,none⟩) 0 0) v fun v4 H5 =>
 K v4 H5)) := by kernel_rfl
theorem stepNewL_W (con : CallT) (a : TF) (H : CH) (K : KX) : codeW (lpAt Tryz.prog 51 0) Tryz.prog con a H K =
 (AsInt .i64 (a 23) fun z1 =>
 AsInt .i64 (a 22) fun z2 =>
 Cd (ltZ z1 z2) (
 AsSlc (a 21) fun p3 o4 l5 c6 =>
 AsCnt (a 23) fun n7 =>
 Must (ltN n7 l5) (
 Ld H p3 (Nat.add o4 (Nat.mul n7 1)) fun v8 =>
 NotNil Tryz.prog (a 6) (
 AsPtr (a 6) fun p9 o10 =>
 Ld H p9 (Nat.add o10 1) fun v11 =>
 Call1 Tryz.prog con 68 [v8] H fun v12 H13 =>
 Sc v12 (Nw H13 (mkRow 179 0 [v12,(iN (0)),(.bool false)]) fun p14 H15 =>
 App Tryz.prog 158 158 H15 v11 (.slice (some ⟨p14,0,none⟩) 1 1) fun v16 H17 =>
 NotNil Tryz.prog (a 6) (
 AsPtr (a 6) fun p18 o19 =>
 Sc v16 (St H17 p18 (Nat.add o19 1) [v16] fun H20 =>
 Ld H p9 (Nat.add o10 1) fun v21 =>
 Same v11 v21 (
 Ld H13 p9 (Nat.add o10 1) fun v22 =>
 Same v11 v22 (
 Ld H15 p9 (Nat.add o10 1) fun v23 =>
 Same v11 v23 (
 Call1 Tryz.prog con 8 [(a 0),(a 23)] H20 fun v24 H25 =>
 NotNil Tryz.prog (a 6) (
 AsPtr (a 6) fun p26 o27 =>
 AsCnt (a 23) fun n28 =>
 Must (ltN n28 64) (
 Sc v24 (St H25 p26 (Nat.add (Nat.add o27 2) (Nat.mul n28 1)) [v24] fun H29 =>
 AsInt .i64 (a 23) fun z30 =>
 InR (Int.add z30 (Int.ofNat 1)) (
 K .normal (upd (upd (upd (upd (upd (upd (upd (upd (upd (upd (upd (upd (upd (upd (upd (upd (upd (upd (upd (upd (upd (upd (upd (upd (upd (upd (upd (upd a 24 (.bool (ltZ z1 z2))) 25 (a 23)) 26 (ptr p3 (Nat.add o4 (Nat.mul n7 1)))) 27 v8) 7 (a 23)) 8 v8) 28 (a 6)) 29 (a 6)) 30 (a 6)) 31 (ptr p9 (Nat.add o10 1))) 32 v11) 33 v8) 34 v12) 35 (.agg ⟨[v12,(iN (0)),(.bool false)]⟩)) 36 (.slice (some ⟨p14,0,none⟩) 1 1)) 37 v16) 38 (a 6)) 39 (ptr p18 (Nat.add o19 1))) 40 (a 6)) 41 (a 23)) 42 (a 0)) 43 (a 23)) 44 v24) 45 (a 6)) 46 (ptr p26 (Nat.add o27 2))) 47 (ptr p26 (Nat.add (Nat.add o27 2) (Nat.mul n28 1)))) 48 (i64 (Int.add z30 (Int.ofNat 1)))) 23 (i64 (Int.add z30 (Int.ofNat 1)))) H29))))))))))))) (
 K (.exit 0) (upd a 24 (.bool (ltZ z1 z2))) H)) := by kernel_rfl
theorem stepRunL_W (con : CallT) (a : TF) (H : CH) (K : KX) : codeW (lpAt Tryz.prog 52 0) Tryz.prog con a H K =
 (AsInt .i64 (a 8) fun z1 =>
 AsInt .i64 (a 7) fun z2 =>
 Cd (ltZ z1 z2) (
 AsSlc (a 6) fun p3 o4 l5 c6 =>
 AsCnt (a 8) fun n7 =>
 Must (ltN n7 l5) (
 Ld H p3 (Nat.add o4 (Nat.mul n7 1)) fun v8 =>
 Call1 Tryz.prog con 57 [(a 0),v8] H fun v9 H10 =>
 AsInt .i64 (a 8) fun z11 =>
 InR (Int.add z11 (Int.ofNat 1)) (
 K .normal (upd (upd (upd (upd (upd (upd (upd (upd (upd a 9 (.bool (ltZ z1 z2))) 10 (ptr p3 (Nat.add o4 (Nat.mul n7 1)))) 11 v8) 5 v8) 12 (a 0)) 13 v8) 14 v9) 15 (i64 (Int.add z11 (Int.ofNat 1)))) 8 (i64 (Int.add z11 (Int.ofNat 1)))) H10))) (
 K (.exit 0) (upd a 9 (.bool (ltZ z1 z2))) H)) := by kernel_rfl
theorem stepNoteA_W (con : CallT) (a : TF) (H : CH) (K : KX) : codeW (lpAt Tryz.prog 70 0) Tryz.prog con a H K =
 (NotNil Tryz.prog (a 0) (
 AsPtr (a 0) fun p1 o2 =>
 Ld H p1 (Nat.add o2 68) fun v3 =>
 AsLen v3 fun l4 =>
 AsInt .i64 (a 2) fun z5 =>
 Cd (ltZ (Int.ofNat l4) z5) (
 NotNil Tryz.prog (a 0) (
 AsPtr (a 0) fun p6 o7 =>
 Ld H p6 (Nat.add o7 68) fun v8 =>
 Nw H (mkRow 3 0 [(i64 (Int.negSucc 0))]) fun p9 H10 =>
 App Tryz.prog 70 70 H10 v8 (.slice (some ⟨p9,0,none⟩) 1 1) fun v11 H12 =>
 NotNil Tryz.prog (a 0) (
 AsPtr (a 0) fun p13 o14 =>
 Sc v11 (St H12 p13 (Nat.add o14 68) [v11] fun H15 =>
 K .normal (upd (upd (upd (upd (upd (upd (upd (upd (upd (upd (upd (upd (upd (upd (upd (upd a 8 (a 0)) 9 (a 0)) 10 (ptr p1 (Nat.add o2 68))) 11 v3) 12 (iN (l4))) 13 (a 2)) 14 (.bool (ltZ (Int.ofNat l4) z5))) 15 (a 0)) 16 (a 0)) 17 (a 0)) 18 (ptr p6 (Nat.add o7 68))) 19 v8) 20 (.slice (some ⟨p9,0,none⟩) 1 1)) 21 v11) 22 (a 0)) 23 (ptr p13 (Nat.add o14 68))) H15)))) (
 K (.exit 0) (upd (upd (upd (upd (upd (upd (upd a 8 (a 0)) 9 (a 0)) 10 (ptr p1 (Nat.add o2 68))) 11 v3) 12 (iN (l4))) 13 (a 2)) 14 (.bool (ltZ (Int.ofNat l4) z5))) H))) := by kernel_rfl
theorem stepNoteB_W (con : CallT) (a : TF) (H : CH) (K : KX) : codeW (lpAt Tryz.prog 70 1) Tryz.prog con a H K =
 (NotNil Tryz.prog (a 0) (
 AsPtr (a 0) fun p1 o2 =>
 Ld H p1 (Nat.add o2 68) fun v3 =>
 AsLen v3 fun l4 =>
 AsInt .i64 (a 3) fun z5 =>
 Cd (ltZ (Int.ofNat l4) z5) (
 NotNil Tryz.prog (a 0) (
 AsPtr (a 0) fun p6 o7 =>
 Ld H p6 (Nat.add o7 68) fun v8 =>
 Sc (a 1) (Nw H (mkRow 3 0 [(a 1)]) fun p9 H10 =>
 App Tryz.prog 70 70 H10 v8 (.slice (some ⟨p9,0,none⟩) 1 1) fun v11 H12 =>
 NotNil Tryz.prog (a 0) (
 AsPtr (a 0) fun p13 o14 =>
 Sc v11 (St H12 p13 (Nat.add o14 68) [v11] fun H15 =>
 K .normal (upd (upd (upd (upd (upd (upd (upd (upd (upd (upd (upd (upd (upd (upd (upd (upd (upd a 24 (a 0)) 25 (a 0)) 26 (ptr p1 (Nat.add o2 68))) 27 v3) 28 (iN (l4))) 29 (a 3)) 30 (.bool (ltZ (Int.ofNat l4) z5))) 31 (a 0)) 32 (a 0)) 33 (a 0)) 34 (ptr p6 (Nat.add o7 68))) 35 v8) 36 (a 1)) 37 (.slice (some ⟨p9,0,none⟩) 1 1)) 38 v11) 39 (a 0)) 40 (ptr p13 (Nat.add o14 68))) H15))))) (
 K (.exit 2) (upd (upd (upd (upd (upd (upd (upd a 24 (a 0)) 25 (a 0)) 26 (ptr p1 (Nat.add o2 68))) 27 v3) 28 (iN (l4))) 29 (a 3)) 30 (.bool (ltZ (Int.ofNat l4) z5))) H))) := by kernel_rfl
theorem indexPL_W (con : CallT) (a : TF) (H : CH) (K : KX) : codeW (lpAt Tryz.prog 74 0) Tryz.prog con a H K =
 (AsInt .i64 (a 8) fun z1 =>
 AsInt .i64 (a 7) fun z2 =>
 Cd (ltZ z1 z2) (
 AsSlc (a 0) fun p3 o4 l5 c6 =>
 AsCnt (a 8) fun n7 =>
 Must (ltN n7 l5) (
 Ld H p3 (Nat.add o4 (Nat.mul n7 1)) fun v8 =>
 AsFn (a 1) fun g9 l10 l11 =>
 Must (isFunT Tryz.prog g9) (
 Call1 Tryz.prog con g9 (appF l10 (v8::l11)) H fun v12 H13 =>
 AsBool v12 fun b14 =>
 Cd b14 (
 K .ret (upd (upd (upd (upd (upd (upd (upd (upd (upd (upd (upd a 9 (.bool (ltZ z1 z2))) 10 (a 8)) 5 (a 8)) 11 (a 1)) 12 (a 0)) 13 (a 8)) 14 (ptr p3 (Nat.add o4 (Nat.mul n7 1)))) 15 v8) 16 v12) 17 (a 8)) 4 (a 8)) H13) (
 AsInt .i64 (a 8) fun z15 =>
 InR (Int.add z15 (Int.ofNat 1)) (
 K .normal (upd (upd (upd (upd (upd (upd (upd (upd (upd (upd (upd a 9 (.bool (ltZ z1 z2))) 10 (a 8)) 5 (a 8)) 11 (a 1)) 12 (a 0)) 13 (a 8)) 14 (ptr p3 (Nat.add o4 (Nat.mul n7 1)))) 15 v8) 16 v12) 18 (i64 (Int.add z15 (Int.ofNat 1)))) 8 (i64 (Int.add z15 (Int.ofNat 1)))) H13))))) (
 K (.exit 0) (upd a 9 (.bool (ltZ z1 z2))) H)) := by kernel_rfl
end Go.Proofs.YtnkbmaccgifeoaaGreat

/- What some functions' texts ask for,step by step,each checked by the kernel. No conditions. -/
set_option linter.unusedVariables false
set_option maxRecDepth 100000
namespace Go.Proofs.YtnkbmaccgifeoaaGreat
open Go Go.CM
theorem l29placed_W (con : CallT) (v : Value) (H : CH) (K : KP) : funW Tryz.prog con 21 [v] H K =
 (LoopC Tryz.prog con (lpAt Tryz.prog 21 0) (upd (upd (upd (upd (fun _ => undV) 0 v) 2 (snil)) 3 (snil)) 4 (iN (0))) H (fun e => ceP e
 (fun a1 H2 =>
 K (a1 3) H2)
 (fun i3 => fun a1 H2 =>
 Cd (eqN i3 0) (
 K (a1 3) H2) (
 False))
 (fun a1 H2 =>
 K (a1 2) H2))) := by kernel_rfl
theorem l29placedA_W (con : CallT) (a : TF) (H : CH) (K : KX) : codeW (lpAt Tryz.prog 21 0) Tryz.prog con a H K =
 (AsLen (a 0) fun l1 =>
 AsInt .i64 (a 4) fun z2 =>
 Cd (ltZ z2 (Int.ofNat l1)) (
 LoopC Tryz.prog con (lpAt Tryz.prog 21 1) (upd (upd (upd (upd (upd (upd a 11 (a 4)) 12 (a 0)) 13 (iN (l1))) 14 (.bool (ltZ z2 (Int.ofNat l1)))) 5 (snil)) 6 (iN (0))) H (fun e => ceP e
 (fun a3 H4 =>
 Sc (a3 5) (Nw H4 (mkRow 94 0 [(a3 5)]) fun p6 H7 =>
 App Tryz.prog 69 69 H7 (a3 3) (.slice (some ⟨p6,0,none⟩) 1 1) fun v8 H9 =>
 AsInt .i64 (a3 4) fun z10 =>
 InR (Int.add z10 (Int.ofNat 1)) (
 K .normal (upd (upd (upd (upd (upd (upd (upd (upd a3 65 (a3 3)) 66 (a3 5)) 67 (.slice (some ⟨p6,0,none⟩) 1 1)) 68 v8) 3 v8) 15 (a3 4)) 16 (i64 (Int.add z10 (Int.ofNat 1)))) 4 (i64 (Int.add z10 (Int.ofNat 1)))) H9)))
 (fun i5 => fun a3 H4 =>
 Cd (eqN i5 2) (
 Sc (a3 5) (Nw H4 (mkRow 94 0 [(a3 5)]) fun p11 H12 =>
 App Tryz.prog 69 69 H12 (a3 3) (.slice (some ⟨p11,0,none⟩) 1 1) fun v13 H14 =>
 AsInt .i64 (a3 4) fun z15 =>
 InR (Int.add z15 (Int.ofNat 1)) (
 K .normal (upd (upd (upd (upd (upd (upd (upd (upd a3 65 (a3 3)) 66 (a3 5)) 67 (.slice (some ⟨p11,0,none⟩) 1 1)) 68 v13) 3 v13) 15 (a3 4)) 16 (i64 (Int.add z15 (Int.ofNat 1)))) 4 (i64 (Int.add z15 (Int.ofNat 1)))) H14))) (
 Cd (eqN i5 1) (
 AsInt .i64 (a3 4) fun z16 =>
 InR (Int.add z16 (Int.ofNat 1)) (
 K .normal (upd (upd (upd a3 15 (a3 4)) 16 (i64 (Int.add z16 (Int.ofNat 1)))) 4 (i64 (Int.add z16 (Int.ofNat 1)))) H4)) (
 K (.exit i5) a3 H4)))
 (fun a3 H4 =>
 K .ret a3 H4))) (
 K (.exit 0) (upd (upd (upd (upd a 11 (a 4)) 12 (a 0)) 13 (iN (l1))) 14 (.bool (ltZ z2 (Int.ofNat l1)))) H)) := by kernel_rfl
theorem l29placedB_W (con : CallT) (a : TF) (H : CH) (K : KX) : codeW (lpAt Tryz.prog 21 1) Tryz.prog con a H K =
 (AsSlc (a 0) fun p1 o2 l3 c4 =>
 AsCnt (a 4) fun n5 =>
 Must (ltN n5 l3) (
 Ld H p1 (Nat.add o2 (Nat.mul n5 1)) fun v6 =>
 AsLen v6 fun l7 =>
 AsInt .i64 (a 6) fun z8 =>
 Cd (ltZ z8 (Int.ofNat l7)) (
 AsSlc (a 0) fun p9 o10 l11 c12 =>
 AsCnt (a 4) fun n13 =>
 Must (ltN n13 l11) (
 Ld H p9 (Nat.add o10 (Nat.mul n13 1)) fun v14 =>
 AsSlc v14 fun p15 o16 l17 c18 =>
 AsCnt (a 6) fun n19 =>
 Must (ltN n19 l17) (
 Ld H p15 (Nat.add (Nat.add o16 (Nat.mul n19 3)) 0) fun v20 =>
 Ld H p15 (Nat.add (Nat.add o16 (Nat.mul n19 3)) 1) fun v21 =>
 Ld H p15 (Nat.add (Nat.add o16 (Nat.mul n19 3)) 2) fun v22 =>
 Nw H (mkRow 26 0 [(.bool false),(u64 (0)),(snil)]) fun p23 H24 =>
 St H24 p23 0 [v20,v21,v22] fun H25 =>
 Ld H25 p23 1 fun v26 =>
 AsNat .u64 v26 fun n27 =>
 St H25 p23 1 [(u64 ((Nat.mod (Nat.add (Nat.mod n27 5) 1) 18446744073709551616)))] fun H28 =>
 LoopC Tryz.prog con (lpAt Tryz.prog 21 2) (upd (upd (upd (upd (upd (upd (upd (upd (upd (upd (upd (upd (upd (upd (upd (upd (upd (upd (upd (upd (upd (upd a 17 (a 6)) 18 (a 0)) 19 (a 4)) 20 (ptr p1 (Nat.add o2 (Nat.mul n5 1)))) 21 v6) 22 (iN (l7))) 23 (.bool (ltZ z8 (Int.ofNat l7)))) 26 (a 0)) 27 (a 4)) 28 (ptr p9 (Nat.add o10 (Nat.mul n13 1)))) 29 v14) 30 (a 6)) 31 (ptr p15 (Nat.add o16 (Nat.mul n19 3)))) 32 (.agg ⟨[v20,v21,v22]⟩)) 7 (ptr p23 0)) 33 (ptr p23 1)) 34 v26) 35 (u64 ((Nat.mod n27 5)))) 36 (u64 ((Nat.mod (Nat.add (Nat.mod n27 5) 1) 18446744073709551616)))) 37 (ptr p23 1)) 8 (snil)) 9 (iN (0))) H28 (fun e => ceP e
 (fun a29 H30 =>
 AsPtr (a29 7) fun p32 o33 =>
 Sc (a29 8) (St H30 p32 (Nat.add o33 2) [(a29 8)] fun H34 =>
 AsPtr (a29 7) fun p35 o36 =>
 Ld H34 p35 (Nat.add o36 0) fun v37 =>
 Ld H34 p35 (Nat.add o36 1) fun v38 =>
 Ld H34 p35 (Nat.add o36 2) fun v39 =>
 Nw H34 (mkRow 26 0 [v37,v38,v39]) fun p40 H41 =>
 App Tryz.prog 94 94 H41 (a29 5) (.slice (some ⟨p40,0,none⟩) 1 1) fun v42 H43 =>
 AsInt .i64 (a29 6) fun z44 =>
 InR (Int.add z44 (Int.ofNat 1)) (
 K .normal (upd (upd (upd (upd (upd (upd (upd (upd (upd (upd a29 59 (a29 8)) 60 (ptr p32 (Nat.add o33 2))) 61 (a29 5)) 62 (.agg ⟨[v37,v38,v39]⟩)) 63 (.slice (some ⟨p40,0,none⟩) 1 1)) 64 v42) 5 v42) 24 (a29 6)) 25 (i64 (Int.add z44 (Int.ofNat 1)))) 6 (i64 (Int.add z44 (Int.ofNat 1)))) H43)))
 (fun i31 => fun a29 H30 =>
 Cd (eqN i31 4) (
 AsPtr (a29 7) fun p45 o46 =>
 Sc (a29 8) (St H30 p45 (Nat.add o46 2) [(a29 8)] fun H47 =>
 AsPtr (a29 7) fun p48 o49 =>
 Ld H47 p48 (Nat.add o49 0) fun v50 =>
 Ld H47 p48 (Nat.add o49 1) fun v51 =>
 Ld H47 p48 (Nat.add o49 2) fun v52 =>
 Nw H47 (mkRow 26 0 [v50,v51,v52]) fun p53 H54 =>
 App Tryz.prog 94 94 H54 (a29 5) (.slice (some ⟨p53,0,none⟩) 1 1) fun v55 H56 =>
 AsInt .i64 (a29 6) fun z57 =>
 InR (Int.add z57 (Int.ofNat 1)) (
 K .normal (upd (upd (upd (upd (upd (upd (upd (upd (upd (upd a29 59 (a29 8)) 60 (ptr p45 (Nat.add o46 2))) 61 (a29 5)) 62 (.agg ⟨[v50,v51,v52]⟩)) 63 (.slice (some ⟨p53,0,none⟩) 1 1)) 64 v55) 5 v55) 24 (a29 6)) 25 (i64 (Int.add z57 (Int.ofNat 1)))) 6 (i64 (Int.add z57 (Int.ofNat 1)))) H56))) (
 Cd (eqN i31 3) (
 AsInt .i64 (a29 6) fun z58 =>
 InR (Int.add z58 (Int.ofNat 1)) (
 K .normal (upd (upd (upd a29 24 (a29 6)) 25 (i64 (Int.add z58 (Int.ofNat 1)))) 6 (i64 (Int.add z58 (Int.ofNat 1)))) H30)) (
 K (.exit i31) a29 H30)))
 (fun a29 H30 =>
 K .ret a29 H30))))) (
 K (.exit 2) (upd (upd (upd (upd (upd (upd (upd a 17 (a 6)) 18 (a 0)) 19 (a 4)) 20 (ptr p1 (Nat.add o2 (Nat.mul n5 1)))) 21 v6) 22 (iN (l7))) 23 (.bool (ltZ z8 (Int.ofNat l7)))) H))) := by kernel_rfl
theorem l29placedC_W (con : CallT) (a : TF) (H : CH) (K : KX) : codeW (lpAt Tryz.prog 21 2) Tryz.prog con a H K =
 (AsPtr (a 7) fun p1 o2 =>
 Ld H p1 (Nat.add o2 2) fun v3 =>
 AsLen v3 fun l4 =>
 AsInt .i64 (a 9) fun z5 =>
 Cd (ltZ z5 (Int.ofNat l4)) (
 AsPtr (a 7) fun p6 o7 =>
 Ld H p6 (Nat.add o7 2) fun v8 =>
 AsSlc v8 fun p9 o10 l11 c12 =>
 AsCnt (a 9) fun n13 =>
 Must (ltN n13 l11) (
 Ld H p9 (Nat.add (Nat.add o10 (Nat.mul n13 3)) 0) fun v14 =>
 Ld H p9 (Nat.add (Nat.add o10 (Nat.mul n13 3)) 1) fun v15 =>
 Ld H p9 (Nat.add (Nat.add o10 (Nat.mul n13 3)) 2) fun v16 =>
 Nw H (mkRow 98 0 [(u64 (0)),(u64 (0)),(u64 (0))]) fun p17 H18 =>
 St H18 p17 0 [v14,v15,v16] fun H19 =>
 Ld H19 p17 0 fun v20 =>
 AsNat .u64 v20 fun n21 =>
 St H19 p17 0 [(u64 ((Nat.mod (Nat.add (Nat.mod n21 5) 1) 18446744073709551616)))] fun H22 =>
 Ld H22 p17 0 fun v23 =>
 Ld H22 p17 1 fun v24 =>
 Ld H22 p17 2 fun v25 =>
 Nw H22 (mkRow 98 0 [v23,v24,v25]) fun p26 H27 =>
 App Tryz.prog 24 24 H27 (a 8) (.slice (some ⟨p26,0,none⟩) 1 1) fun v28 H29 =>
 AsInt .i64 (a 9) fun z30 =>
 InR (Int.add z30 (Int.ofNat 1)) (
 K .normal (upd (upd (upd (upd (upd (upd (upd (upd (upd (upd (upd (upd (upd (upd (upd (upd (upd (upd (upd (upd (upd (upd (upd (upd a 38 (a 9)) 39 (ptr p1 (Nat.add o2 2))) 40 v3) 41 (iN (l4))) 42 (.bool (ltZ z5 (Int.ofNat l4)))) 45 (ptr p6 (Nat.add o7 2))) 46 v8) 47 (a 9)) 48 (ptr p9 (Nat.add o10 (Nat.mul n13 3)))) 49 (.agg ⟨[v14,v15,v16]⟩)) 10 (ptr p17 0)) 50 (ptr p17 0)) 51 v20) 52 (u64 ((Nat.mod n21 5)))) 53 (u64 ((Nat.mod (Nat.add (Nat.mod n21 5) 1) 18446744073709551616)))) 54 (ptr p17 0)) 55 (a 8)) 56 (.agg ⟨[v23,v24,v25]⟩)) 57 (.slice (some ⟨p26,0,none⟩) 1 1)) 58 v28) 8 v28) 43 (a 9)) 44 (i64 (Int.add z30 (Int.ofNat 1)))) 9 (i64 (Int.add z30 (Int.ofNat 1)))) H29))) (
 K (.exit 4) (upd (upd (upd (upd (upd a 38 (a 9)) 39 (ptr p1 (Nat.add o2 2))) 40 v3) 41 (iN (l4))) 42 (.bool (ltZ z5 (Int.ofNat l4)))) H)) := by kernel_rfl
theorem l29run_W (con : CallT) (m : Nat) (v w : Value) (H : CH) (K : KP) : funW Tryz.prog con 22 [ptr m 0,v,w] H K =
 (LoopC Tryz.prog con (lpAt Tryz.prog 22 0) (upd (upd (upd (upd (upd (upd (upd (upd (fun _ => undV) 2 w) 1 v) 0 (ptr m 0)) 6 (snil)) 7 (.pointer none)) 8 (snil)) 9 (snil)) 10 (iN (0))) H (fun e => ceP e
 (fun a1 H2 =>
 Call1 Tryz.prog con 51 [(a1 0),(a1 9)] H2 fun v4 H5 =>
 AsTup v4 fun l6 =>
 Nth l6 0 fun v7 =>
 AsTup v4 fun l8 =>
 Nth l8 1 fun v9 =>
 AsInt .i64 v9 fun z10 =>
 Cd (notB (eqZ z10 (Int.ofNat 0))) (
 K (.tuple ⟨[(snil),(.pointer none)]⟩) H5) (
 Call1 Tryz.prog con 52 [v7,(a1 2)] H5 fun v11 H12 =>
 K (.tuple ⟨[(a1 8),v7]⟩) H12))
 (fun i3 => fun a1 H2 =>
 Cd (eqN i3 0) (
 Call1 Tryz.prog con 51 [(a1 0),(a1 9)] H2 fun v13 H14 =>
 AsTup v13 fun l15 =>
 Nth l15 0 fun v16 =>
 AsTup v13 fun l17 =>
 Nth l17 1 fun v18 =>
 AsInt .i64 v18 fun z19 =>
 Cd (notB (eqZ z19 (Int.ofNat 0))) (
 K (.tuple ⟨[(snil),(.pointer none)]⟩) H14) (
 Call1 Tryz.prog con 52 [v16,(a1 2)] H14 fun v20 H21 =>
 K (.tuple ⟨[(a1 8),v16]⟩) H21)) (
 False))
 (fun a1 H2 =>
 K (.tuple ⟨[(a1 6),(a1 7)]⟩) H2))) := by kernel_rfl
theorem l29runA_W (con : CallT) (a : TF) (H : CH) (K : KX) : codeW (lpAt Tryz.prog 22 0) Tryz.prog con a H K =
 (AsLen (a 1) fun l1 =>
 AsInt .i64 (a 10) fun z2 =>
 Cd (ltZ z2 (Int.ofNat l1)) (
 LoopC Tryz.prog con (lpAt Tryz.prog 22 1) (upd (upd (upd (upd (upd (upd (upd a 18 (a 10)) 19 (a 1)) 20 (iN (l1))) 21 (.bool (ltZ z2 (Int.ofNat l1)))) 11 (snil)) 12 (snil)) 13 (iN (0))) H (fun e => ceP e
 (fun a3 H4 =>
 Sc (a3 11) (Nw H4 (mkRow 84 0 [(a3 11)]) fun p6 H7 =>
 App Tryz.prog 77 77 H7 (a3 8) (.slice (some ⟨p6,0,none⟩) 1 1) fun v8 H9 =>
 Sc (a3 12) (Nw H9 (mkRow 151 0 [(a3 12)]) fun p10 H11 =>
 App Tryz.prog 150 150 H11 (a3 9) (.slice (some ⟨p10,0,none⟩) 1 1) fun v12 H13 =>
 AsInt .i64 (a3 10) fun z14 =>
 InR (Int.add z14 (Int.ofNat 1)) (
 K .normal (upd (upd (upd (upd (upd (upd (upd (upd (upd (upd (upd (upd (upd a3 52 (a3 8)) 53 (a3 11)) 54 (.slice (some ⟨p6,0,none⟩) 1 1)) 55 v8) 8 v8) 56 (a3 9)) 57 (a3 12)) 58 (.slice (some ⟨p10,0,none⟩) 1 1)) 59 v12) 9 v12) 22 (a3 10)) 23 (i64 (Int.add z14 (Int.ofNat 1)))) 10 (i64 (Int.add z14 (Int.ofNat 1)))) H13))))
 (fun i5 => fun a3 H4 =>
 Cd (eqN i5 2) (
 Sc (a3 11) (Nw H4 (mkRow 84 0 [(a3 11)]) fun p15 H16 =>
 App Tryz.prog 77 77 H16 (a3 8) (.slice (some ⟨p15,0,none⟩) 1 1) fun v17 H18 =>
 Sc (a3 12) (Nw H18 (mkRow 151 0 [(a3 12)]) fun p19 H20 =>
 App Tryz.prog 150 150 H20 (a3 9) (.slice (some ⟨p19,0,none⟩) 1 1) fun v21 H22 =>
 AsInt .i64 (a3 10) fun z23 =>
 InR (Int.add z23 (Int.ofNat 1)) (
 K .normal (upd (upd (upd (upd (upd (upd (upd (upd (upd (upd (upd (upd (upd a3 52 (a3 8)) 53 (a3 11)) 54 (.slice (some ⟨p15,0,none⟩) 1 1)) 55 v17) 8 v17) 56 (a3 9)) 57 (a3 12)) 58 (.slice (some ⟨p19,0,none⟩) 1 1)) 59 v21) 9 v21) 22 (a3 10)) 23 (i64 (Int.add z23 (Int.ofNat 1)))) 10 (i64 (Int.add z23 (Int.ofNat 1)))) H22)))) (
 Cd (eqN i5 1) (
 AsInt .i64 (a3 10) fun z24 =>
 InR (Int.add z24 (Int.ofNat 1)) (
 K .normal (upd (upd (upd a3 22 (a3 10)) 23 (i64 (Int.add z24 (Int.ofNat 1)))) 10 (i64 (Int.add z24 (Int.ofNat 1)))) H4)) (
 K (.exit i5) a3 H4)))
 (fun a3 H4 =>
 K .ret a3 H4))) (
 K (.exit 0) (upd (upd (upd (upd a 18 (a 10)) 19 (a 1)) 20 (iN (l1))) 21 (.bool (ltZ z2 (Int.ofNat l1)))) H)) := by kernel_rfl
theorem l29runB_W (con : CallT) (a : TF) (H : CH) (K : KX) : codeW (lpAt Tryz.prog 22 1) Tryz.prog con a H K =
 (AsSlc (a 1) fun p1 o2 l3 c4 =>
 AsCnt (a 10) fun n5 =>
 Must (ltN n5 l3) (
 Ld H p1 (Nat.add o2 (Nat.mul n5 1)) fun v6 =>
 AsLen v6 fun l7 =>
 AsInt .i64 (a 13) fun z8 =>
 Cd (ltZ z8 (Int.ofNat l7)) (
 AsSlc (a 1) fun p9 o10 l11 c12 =>
 AsCnt (a 10) fun n13 =>
 Must (ltN n13 l11) (
 Ld H p9 (Nat.add o10 (Nat.mul n13 1)) fun v14 =>
 AsSlc v14 fun p15 o16 l17 c18 =>
 AsCnt (a 13) fun n19 =>
 Must (ltN n19 l17) (
 Ld H p15 (Nat.add (Nat.add o16 (Nat.mul n19 3)) 0) fun v20 =>
 Ld H p15 (Nat.add (Nat.add o16 (Nat.mul n19 3)) 1) fun v21 =>
 Ld H p15 (Nat.add (Nat.add o16 (Nat.mul n19 3)) 2) fun v22 =>
 Call1 Tryz.prog con 11 [(.agg ⟨[v20,v21,v22]⟩)] H fun v23 H24 =>
 AsTup v23 fun l25 =>
 Nth l25 0 fun v26 =>
 AsTup v23 fun l27 =>
 Nth l27 1 fun v28 =>
 Nw H24 (mkRow 41 0 [(.pointer none),(.pointer none)]) fun p29 H30 =>
 AsAgg v26 fun l31 =>
 Must (eqN (lenF l31) 2) (
 Nth l31 0 fun v32 =>
 Nth l31 1 fun v33 =>
 St H30 p29 0 [v32,v33] fun H34 =>
 Ld H34 p29 0 fun v35 =>
 Ld H34 p29 1 fun v36 =>
 Nw H34 (mkRow 41 0 [v35,v36]) fun p37 H38 =>
 App Tryz.prog 84 84 H38 (a 11) (.slice (some ⟨p37,0,none⟩) 1 1) fun v39 H40 =>
 Sc v28 (Nw H40 (mkRow 43 0 [v28]) fun p41 H42 =>
 App Tryz.prog 151 151 H42 (a 12) (.slice (some ⟨p41,0,none⟩) 1 1) fun v43 H44 =>
 AsInt .i64 (a 13) fun z45 =>
 InR (Int.add z45 (Int.ofNat 1)) (
 K .normal (upd (upd (upd (upd (upd (upd (upd (upd (upd (upd (upd (upd (upd (upd (upd (upd (upd (upd (upd (upd (upd (upd (upd (upd (upd (upd (upd (upd (upd (upd (upd (upd (upd a 24 (a 13)) 25 (a 1)) 26 (a 10)) 27 (ptr p1 (Nat.add o2 (Nat.mul n5 1)))) 28 v6) 29 (iN (l7))) 30 (.bool (ltZ z8 (Int.ofNat l7)))) 34 (a 1)) 35 (a 10)) 36 (ptr p9 (Nat.add o10 (Nat.mul n13 1)))) 37 v14) 38 (a 13)) 39 (ptr p15 (Nat.add o16 (Nat.mul n19 3)))) 40 (.agg ⟨[v20,v21,v22]⟩)) 41 v23) 33 v23) 42 v26) 43 v28) 14 (ptr p29 0)) 15 v28) 44 (a 11)) 45 (.agg ⟨[v35,v36]⟩)) 46 (.slice (some ⟨p37,0,none⟩) 1 1)) 47 v39) 11 v39) 48 (a 12)) 49 v28) 50 (.slice (some ⟨p41,0,none⟩) 1 1)) 51 v43) 12 v43) 31 (a 13)) 32 (i64 (Int.add z45 (Int.ofNat 1)))) 13 (i64 (Int.add z45 (Int.ofNat 1)))) H44)))))) (
 K (.exit 2) (upd (upd (upd (upd (upd (upd (upd a 24 (a 13)) 25 (a 1)) 26 (a 10)) 27 (ptr p1 (Nat.add o2 (Nat.mul n5 1)))) 28 v6) 29 (iN (l7))) 30 (.bool (ltZ z8 (Int.ofNat l7)))) H))) := by kernel_rfl
theorem l29runs_W (con : CallT) (v : Value) (H : CH) (K : KP) : funW Tryz.prog con 23 [v] H K =
 (LoopC Tryz.prog con (lpAt Tryz.prog 23 0) (upd (upd (upd (fun _ => undV) 0 v) 2 (.bool false)) 3 (iN (0))) H (fun e => ceP e
 (fun a1 H2 =>
 AsLen (a1 0) fun l4 =>
 K (.bool (leZ (Int.ofNat l4) (Int.ofNat 64))) H2)
 (fun i3 => fun a1 H2 =>
 Cd (eqN i3 0) (
 AsLen (a1 0) fun l5 =>
 K (.bool (leZ (Int.ofNat l5) (Int.ofNat 64))) H2) (
 False))
 (fun a1 H2 =>
 K (a1 2) H2))) := by kernel_rfl
theorem l29runsL_W (con : CallT) (a : TF) (H : CH) (K : KX) : codeW (lpAt Tryz.prog 23 0) Tryz.prog con a H K =
 (AsLen (a 0) fun l1 =>
 AsInt .i64 (a 3) fun z2 =>
 Cd (ltZ z2 (Int.ofNat l1)) (
 AsSlc (a 0) fun p3 o4 l5 c6 =>
 AsCnt (a 3) fun n7 =>
 Must (ltN n7 l5) (
 Ld H p3 (Nat.add o4 (Nat.mul n7 1)) fun v8 =>
 AsLen v8 fun l9 =>
 Cd (ltZ (Int.ofNat 4096) (Int.ofNat l9)) (
 K .ret (upd (upd (upd (upd (upd (upd (upd (upd (upd (upd (upd a 4 (a 3)) 5 (a 0)) 6 (iN (l1))) 7 (.bool (ltZ z2 (Int.ofNat l1)))) 10 (a 0)) 11 (a 3)) 12 (ptr p3 (Nat.add o4 (Nat.mul n7 1)))) 13 v8) 14 (iN (l9))) 15 (.bool (ltZ (Int.ofNat 4096) (Int.ofNat l9)))) 2 (.bool false)) H) (
 AsInt .i64 (a 3) fun z10 =>
 InR (Int.add z10 (Int.ofNat 1)) (
 K .normal (upd (upd (upd (upd (upd (upd (upd (upd (upd (upd (upd (upd (upd a 4 (a 3)) 5 (a 0)) 6 (iN (l1))) 7 (.bool (ltZ z2 (Int.ofNat l1)))) 10 (a 0)) 11 (a 3)) 12 (ptr p3 (Nat.add o4 (Nat.mul n7 1)))) 13 v8) 14 (iN (l9))) 15 (.bool (ltZ (Int.ofNat 4096) (Int.ofNat l9)))) 8 (a 3)) 9 (i64 (Int.add z10 (Int.ofNat 1)))) 3 (i64 (Int.add z10 (Int.ofNat 1)))) H)))) (
 K (.exit 0) (upd (upd (upd (upd a 4 (a 3)) 5 (a 0)) 6 (iN (l1))) 7 (.bool (ltZ z2 (Int.ofNat l1)))) H)) := by kernel_rfl
theorem l29memory_W (con : CallT) (c : Int) (f0 f1 f2 f3 f4 : Nat) (H : CH) (K : KP) : funW Tryz.prog con 20 [i64 c,.agg ⟨[u64 f0,u64 f1,u64 f2,u64 f3,u64 f4]⟩] H K =
 (Nw H (mkRow 68 0 [(u64 (f0)),(u64 (f1)),(u64 (f2)),(u64 (f3)),(u64 (f4))]) fun p1 H2 =>
 Call1 Tryz.prog con 6 [(i64 c),(.bool false)] H2 fun v3 H4 =>
 AsTup v3 fun l5 =>
 Nth l5 0 fun v6 =>
 AsTup v3 fun l7 =>
 Nth l7 1 fun v8 =>
 AsInt .i64 v8 fun z9 =>
 Cd (notB (eqZ z9 (Int.ofNat 0))) (
 K (.tuple ⟨[(.pointer none),(.pointer none),(.bool false)]⟩) H4) (
 Call1 Tryz.prog con 7 [(i64 c),(.bool false)] H4 fun v10 H11 =>
 AsTup v10 fun l12 =>
 Nth l12 0 fun v13 =>
 AsTup v10 fun l14 =>
 Nth l14 1 fun v15 =>
 LoopC Tryz.prog con (lpAt Tryz.prog 20 0) (upd (upd (upd (upd (upd (upd (upd (upd (upd (upd (upd (upd (upd (upd (upd (upd (upd (upd (upd (upd (upd (upd (upd (upd (fun _ => undV) 1 (.agg ⟨[(u64 (f0)),(u64 (f1)),(u64 (f2)),(u64 (f3)),(u64 (f4))]⟩)) 0 (i64 c)) 3 (ptr p1 0)) 4 (.pointer none)) 5 (.pointer none)) 6 (.bool false)) 17 (i64 c)) 18 v3) 16 v3) 19 v6) 20 v8) 7 v6) 8 v8) 21 v8) 22 (.bool (notB (eqZ z9 (Int.ofNat 0))))) 24 (i64 c)) 25 v10) 23 v10) 26 v13) 27 v15) 9 v13) 10 v15) 11 (snil)) 12 (iN (0))) H11 (fun e => ceP e
 (fun a16 H17 =>
 Call1 Tryz.prog con 8 [(a16 7),(i64 (Int.negSucc 0))] H17 fun v19 H20 =>
 Call1 Tryz.prog con 49 [v19,(a16 11)] H20 fun v21 H22 =>
 AsTup v21 fun l23 =>
 Nth l23 0 fun v24 =>
 AsTup v21 fun l25 =>
 Nth l25 1 fun v26 =>
 Call1 Tryz.prog con 50 [(a16 9),(i64 (Int.negSucc 0)),(a16 11)] H22 fun v27 H28 =>
 AsTup v27 fun l29 =>
 Nth l29 0 fun v30 =>
 AsTup v27 fun l31 =>
 Nth l31 1 fun v32 =>
 AsNat .u64 v24 fun n33 =>
 Cd (eqN n33 1) (
 AsNat .u64 v30 fun n34 =>
 Cd (eqN n34 1) (
 AsInt .i64 v26 fun z35 =>
 Cd (eqZ z35 (Int.ofNat 0)) (
 AsInt .i64 v32 fun z36 =>
 K (.tuple ⟨[(a16 7),(a16 9),(.bool (eqZ z36 (Int.ofNat 0)))]⟩) H28) (
 K (.tuple ⟨[(a16 7),(a16 9),(.bool false)]⟩) H28)) (
 K (.tuple ⟨[(a16 7),(a16 9),(.bool false)]⟩) H28)) (
 K (.tuple ⟨[(a16 7),(a16 9),(.bool false)]⟩) H28))
 (fun i18 => fun a16 H17 =>
 Cd (eqN i18 0) (
 Call1 Tryz.prog con 8 [(a16 7),(i64 (Int.negSucc 0))] H17 fun v37 H38 =>
 Call1 Tryz.prog con 49 [v37,(a16 11)] H38 fun v39 H40 =>
 AsTup v39 fun l41 =>
 Nth l41 0 fun v42 =>
 AsTup v39 fun l43 =>
 Nth l43 1 fun v44 =>
 Call1 Tryz.prog con 50 [(a16 9),(i64 (Int.negSucc 0)),(a16 11)] H40 fun v45 H46 =>
 AsTup v45 fun l47 =>
 Nth l47 0 fun v48 =>
 AsTup v45 fun l49 =>
 Nth l49 1 fun v50 =>
 AsNat .u64 v42 fun n51 =>
 Cd (eqN n51 1) (
 AsNat .u64 v48 fun n52 =>
 Cd (eqN n52 1) (
 AsInt .i64 v44 fun z53 =>
 Cd (eqZ z53 (Int.ofNat 0)) (
 AsInt .i64 v50 fun z54 =>
 K (.tuple ⟨[(a16 7),(a16 9),(.bool (eqZ z54 (Int.ofNat 0)))]⟩) H46) (
 K (.tuple ⟨[(a16 7),(a16 9),(.bool false)]⟩) H46)) (
 K (.tuple ⟨[(a16 7),(a16 9),(.bool false)]⟩) H46)) (
 K (.tuple ⟨[(a16 7),(a16 9),(.bool false)]⟩) H46)) (
 False))
 (fun a16 H17 =>
 K (.tuple ⟨[(a16 4),(a16 5),(a16 6)]⟩) H17)))) := by kernel_rfl
theorem l29memoryL_W (con : CallT) (a : TF) (H : CH) (K : KX) : codeW (lpAt Tryz.prog 20 0) Tryz.prog con a H K =
 (AsInt .i64 (a 12) fun z1 =>
 Cd (ltZ z1 (Int.ofNat 5)) (
 AsPtr (a 3) fun p2 o3 =>
 AsCnt (a 12) fun n4 =>
 Must (ltN n4 5) (
 Ld H p2 (Nat.add o3 (Nat.mul n4 1)) fun v5 =>
 AsNat .u64 v5 fun n6 =>
 Nw H (mkRow 23 0 [(u64 ((Nat.mod n6 4611686018427387904)))]) fun p7 H8 =>
 App Tryz.prog 22 22 H8 (a 11) (.slice (some ⟨p7,0,none⟩) 1 1) fun v9 H10 =>
 AsInt .i64 (a 12) fun z11 =>
 InR (Int.add z11 (Int.ofNat 1)) (
 K .normal (upd (upd (upd (upd (upd (upd (upd (upd (upd (upd (upd (upd (upd a 28 (a 12)) 29 (.bool (ltZ z1 (Int.ofNat 5)))) 32 (a 11)) 33 (a 12)) 34 (ptr p2 (Nat.add o3 (Nat.mul n4 1)))) 35 v5) 36 (u64 ((Nat.mod n6 4611686018427387904)))) 37 (.slice (some ⟨p7,0,none⟩) 1 1)) 38 v9) 11 v9) 30 (a 12)) 31 (i64 (Int.add z11 (Int.ofNat 1)))) 12 (i64 (Int.add z11 (Int.ofNat 1)))) H10))) (
 K (.exit 0) (upd (upd a 28 (a 12)) 29 (.bool (ltZ z1 (Int.ofNat 5)))) H)) := by kernel_rfl
theorem rRun29_W (con : CallT) (m : Nat) (v w : Value) (H : CH) (K : KP) : funW Tryz.prog con 24 [ptr m 0,v,w] H K =
 (AsLen v fun l1 =>
 MkS Tryz.prog H 82 (iN (l1)) (iN (l1)) fun v2 H3 =>
 AsLen v fun l4 =>
 MkS Tryz.prog H3 155 (iN (l4)) (iN (l4)) fun v5 H6 =>
 AsLen v fun l7 =>
 MkS Tryz.prog H6 156 (iN (l7)) (iN (l7)) fun v8 H9 =>
 LoopC Tryz.prog con (lpAt Tryz.prog 24 0) (upd (upd (upd (upd (upd (upd (upd (upd (upd (upd (upd (upd (upd (upd (upd (upd (upd (fun _ => undV) 2 w) 1 v) 0 (ptr m 0)) 6 (snil)) 14 v) 15 (iN (l1))) 16 v2) 7 v2) 17 v) 18 (iN (l4))) 19 v5) 8 v5) 20 v) 21 (iN (l7))) 22 v8) 9 v8) 10 (iN (0))) H9 (fun e => ceP e
 (fun a10 H11 =>
 K (a10 7) H11)
 (fun i12 => fun a10 H11 =>
 Cd (eqN i12 0) (
 K (a10 7) H11) (
 False))
 (fun a10 H11 =>
 K (a10 6) H11))) := by kernel_rfl
theorem multiPlays_W (con : CallT) (c : Int) (f0 f1 f2 f3 f4 : Nat) (v w : Value) (H : CH) (K : KP) : funW Tryz.prog con 4 [i64 c,.agg ⟨[u64 f0,u64 f1,u64 f2,u64 f3,u64 f4,v,w]⟩] H K =
 (Nw H (mkRow 72 0 [(u64 (f0)),(u64 (f1)),(u64 (f2)),(u64 (f3)),(u64 (f4)),v,w]) fun p1 H2 =>
 Must (cvOk .i64 c) (
 InR (Int.add (Int.ofNat 128) (IntKind.wrap .i64 (Int.ofNat (Nat.mod (wrapN .u64 c) 4000)))) (
 Ld H2 p1 0 fun v3 =>
 Ld H2 p1 1 fun v4 =>
 Ld H2 p1 2 fun v5 =>
 Ld H2 p1 3 fun v6 =>
 Ld H2 p1 4 fun v7 =>
 Call1 Tryz.prog con 20 [(i64 (Int.add (Int.ofNat 128) (IntKind.wrap .i64 (Int.ofNat (Nat.mod (wrapN .u64 c) 4000))))),(.agg ⟨[v3,v4,v5,v6,v7]⟩)] H2 fun v8 H9 =>
 AsTup v8 fun l10 =>
 Nth l10 0 fun v11 =>
 AsTup v8 fun l12 =>
 Nth l12 1 fun v13 =>
 AsTup v8 fun l14 =>
 Nth l14 2 fun v15 =>
 Call1 Tryz.prog con 17 [] H9 fun v16 H17 =>
 AsBool v16 fun b18 =>
 Cd (notB b18) (
 K (.bool false) H17) (
 AsBool v15 fun b19 =>
 Cd (notB b19) (
 K (.bool false) H17) (
 Ld H17 p1 5 fun v20 =>
 Call1 Tryz.prog con 21 [v20] H17 fun v21 H22 =>
 Ld H22 p1 6 fun v23 =>
 Call1 Tryz.prog con 22 [v11,v21,v23] H22 fun v24 H25 =>
 AsTup v24 fun l26 =>
 Nth l26 0 fun v27 =>
 AsTup v24 fun l28 =>
 Nth l28 1 fun v29 =>
 IsNil .ptr v29 fun b30 =>
 Cd b30 (
 Call1 Tryz.prog con 23 [v21] H25 fun v31 H32 =>
 AsBool v31 fun b33 =>
 K (.bool (notB b33)) H32) (
 Ld H25 p1 6 fun v34 =>
 Call1 Tryz.prog con 24 [v13,v21,v34] H25 fun v35 H36 =>
 LoopC Tryz.prog con (lpAt Tryz.prog 4 0) (upd (upd (upd (upd (upd (upd (upd (upd (upd (upd (upd (upd (upd (upd (upd (upd (upd (upd (upd (upd (upd (upd (upd (upd (upd (upd (upd (upd (upd (upd (upd (upd (upd (upd (upd (upd (upd (upd (upd (upd (upd (upd (upd (upd (upd (upd (upd (upd (upd (upd (upd (upd (fun _ => undV) 1 (.agg ⟨[(u64 (f0)),(u64 (f1)),(u64 (f2)),(u64 (f3)),(u64 (f4)),v,w]⟩)) 0 (i64 c)) 3 (ptr p1 0)) 4 (.bool false)) 20 (i64 c)) 21 (u64 ((wrapN .u64 c)))) 22 (u64 ((Nat.mod (wrapN .u64 c) 4000)))) 23 (i64 (IntKind.wrap .i64 (Int.ofNat (Nat.mod (wrapN .u64 c) 4000))))) 24 (i64 (Int.add (Int.ofNat 128) (IntKind.wrap .i64 (Int.ofNat (Nat.mod (wrapN .u64 c) 4000)))))) 0 (i64 (Int.add (Int.ofNat 128) (IntKind.wrap .i64 (Int.ofNat (Nat.mod (wrapN .u64 c) 4000)))))) 26 (i64 (Int.add (Int.ofNat 128) (IntKind.wrap .i64 (Int.ofNat (Nat.mod (wrapN .u64 c) 4000)))))) 27 (ptr p1 0)) 28 (.agg ⟨[v3,v4,v5,v6,v7]⟩)) 29 v8) 25 v8) 30 v11) 31 v13) 32 v15) 5 v11) 6 v13) 7 v15) 33 v16) 34 (.bool (notB b18))) 35 (.bool (notB b18))) 35 (.bool false)) 36 v15) 35 (.bool false)) 37 (.bool (notB b19))) 38 (.bool (notB b19))) 39 (ptr p1 5)) 40 v20) 41 v21) 8 v21) 43 v11) 44 v21) 45 (ptr p1 6)) 46 v23) 47 v24) 42 v24) 48 v27) 49 v29) 9 v27) 10 v29) 50 v29) 51 (.bool b30)) 55 v13) 56 v21) 57 (ptr p1 6)) 58 v34) 59 v35) 11 v35) 12 (iN (0))) H36 (fun e => ceP e
 (fun a37 H38 =>
 Call1 Tryz.prog con 25 [(a37 5),(u64 (1)),(iN (5))] H38 fun v40 H41 =>
 AsTup v40 fun l42 =>
 Nth l42 0 fun v43 =>
 AsTup v40 fun l44 =>
 Nth l44 1 fun v45 =>
 Call1 Tryz.prog con 26 [(a37 6),(u64 (1)),(iN (5))] H41 fun v46 H47 =>
 AsTup v46 fun l48 =>
 Nth l48 0 fun v49 =>
 AsTup v46 fun l50 =>
 Nth l50 1 fun v51 =>
 Call1 Tryz.prog con 23 [(a37 8)] H47 fun v52 H53 =>
 AsWant v52 (False) fun b54 =>
 Cd b54 (
 Call1 Tryz.prog con 19 [(a37 5)] H53 fun v55 H56 =>
 NotNil Tryz.prog (a37 6) (
 AsPtr (a37 6) fun p57 o58 =>
 Ld H56 p57 (Nat.add o58 2) fun v59 =>
 Call1 Tryz.prog con 18 [v55,v59] H56 fun v60 H61 =>
 AsWant v60 (False) fun b62 =>
 Cd b62 (
 AsBool v45 fun b63 =>
 AsBool v51 fun b64 =>
 Cd (eqB b63 b64) (
 Call1 Tryz.prog con 27 [v43,v49] H61 fun v65 H66 =>
 Ld H53 p57 (Nat.add o58 2) fun v67 =>
 Same v59 v67 (
 Ld H56 p57 (Nat.add o58 2) fun v68 =>
 Same v59 v68 (
 K v65 H66))) (
 Ld H53 p57 (Nat.add o58 2) fun v69 =>
 Same v59 v69 (
 Ld H56 p57 (Nat.add o58 2) fun v70 =>
 Same v59 v70 (
 K (.bool false) H61)))) (
 Ld H53 p57 (Nat.add o58 2) fun v71 =>
 Same v59 v71 (
 Ld H56 p57 (Nat.add o58 2) fun v72 =>
 Same v59 v72 (
 K (.bool false) H61))))) (
 K (.bool false) H53))
 (fun i39 => fun a37 H38 =>
 Cd (eqN i39 0) (
 Call1 Tryz.prog con 25 [(a37 5),(u64 (1)),(iN (5))] H38 fun v73 H74 =>
 AsTup v73 fun l75 =>
 Nth l75 0 fun v76 =>
 AsTup v73 fun l77 =>
 Nth l77 1 fun v78 =>
 Call1 Tryz.prog con 26 [(a37 6),(u64 (1)),(iN (5))] H74 fun v79 H80 =>
 AsTup v79 fun l81 =>
 Nth l81 0 fun v82 =>
 AsTup v79 fun l83 =>
 Nth l83 1 fun v84 =>
 Call1 Tryz.prog con 23 [(a37 8)] H80 fun v85 H86 =>
 AsWant v85 (False) fun b87 =>
 Cd b87 (
 Call1 Tryz.prog con 19 [(a37 5)] H86 fun v88 H89 =>
 NotNil Tryz.prog (a37 6) (
 AsPtr (a37 6) fun p90 o91 =>
 Ld H89 p90 (Nat.add o91 2) fun v92 =>
 Call1 Tryz.prog con 18 [v88,v92] H89 fun v93 H94 =>
 AsWant v93 (False) fun b95 =>
 Cd b95 (
 AsBool v78 fun b96 =>
 AsBool v84 fun b97 =>
 Cd (eqB b96 b97) (
 Call1 Tryz.prog con 27 [v76,v82] H94 fun v98 H99 =>
 Ld H86 p90 (Nat.add o91 2) fun v100 =>
 Same v92 v100 (
 Ld H89 p90 (Nat.add o91 2) fun v101 =>
 Same v92 v101 (
 K v98 H99))) (
 Ld H86 p90 (Nat.add o91 2) fun v102 =>
 Same v92 v102 (
 Ld H89 p90 (Nat.add o91 2) fun v103 =>
 Same v92 v103 (
 K (.bool false) H94)))) (
 Ld H86 p90 (Nat.add o91 2) fun v104 =>
 Same v92 v104 (
 Ld H89 p90 (Nat.add o91 2) fun v105 =>
 Same v92 v105 (
 K (.bool false) H94))))) (
 K (.bool false) H86)) (
 False))
 (fun a37 H38 =>
 K (a37 4) H38)))))))) := by kernel_rfl
theorem multiPlaysA_W (con : CallT) (a : TF) (H : CH) (K : KX) : codeW (lpAt Tryz.prog 4 0) Tryz.prog con a H K =
 (AsLen (a 9) fun l1 =>
 AsInt .i64 (a 12) fun z2 =>
 Cd (ltZ z2 (Int.ofNat l1)) (
 LoopC Tryz.prog con (lpAt Tryz.prog 4 1) (upd (upd (upd (upd (upd a 60 (a 12)) 61 (a 9)) 62 (iN (l1))) 63 (.bool (ltZ z2 (Int.ofNat l1)))) 13 (iN (0))) H (fun e => ceP e
 (fun a3 H4 =>
 AsInt .i64 (a3 12) fun z6 =>
 InR (Int.add z6 (Int.ofNat 1)) (
 K .normal (upd (upd (upd a3 64 (a3 12)) 65 (i64 (Int.add z6 (Int.ofNat 1)))) 12 (i64 (Int.add z6 (Int.ofNat 1)))) H4))
 (fun i5 => fun a3 H4 =>
 Cd (eqN i5 2) (
 AsInt .i64 (a3 12) fun z7 =>
 InR (Int.add z7 (Int.ofNat 1)) (
 K .normal (upd (upd (upd a3 64 (a3 12)) 65 (i64 (Int.add z7 (Int.ofNat 1)))) 12 (i64 (Int.add z7 (Int.ofNat 1)))) H4)) (
 Cd (eqN i5 1) (
 AsInt .i64 (a3 12) fun z8 =>
 InR (Int.add z8 (Int.ofNat 1)) (
 K .normal (upd (upd (upd a3 64 (a3 12)) 65 (i64 (Int.add z8 (Int.ofNat 1)))) 12 (i64 (Int.add z8 (Int.ofNat 1)))) H4)) (
 K (.exit i5) a3 H4)))
 (fun a3 H4 =>
 K .ret a3 H4))) (
 K (.exit 0) (upd (upd (upd (upd a 60 (a 12)) 61 (a 9)) 62 (iN (l1))) 63 (.bool (ltZ z2 (Int.ofNat l1)))) H)) := by kernel_rfl
end Go.Proofs.YtnkbmaccgifeoaaGreat

/- What some functions' texts ask for,step by step,each checked by the kernel. No conditions. -/
set_option linter.unusedVariables false
set_option maxRecDepth 100000
namespace Go.Proofs.YtnkbmaccgifeoaaGreat
open Go Go.CM
theorem rRunH_W (con : CallT) (a : TF) (H : CH) (K : KX) : codeW (takeC 2 (blkC (lpAt Tryz.prog 24 0))) Tryz.prog con a H K =
 (AsLen (a 2) fun l1 =>
 AsInt .i64 (a 10) fun z2 =>
 Cd (ltZ z2 (Int.ofNat l1)) (
 K .normal (upd (upd (upd (upd a 23 (a 10)) 24 (a 2)) 25 (iN (l1))) 26 (.bool (ltZ z2 (Int.ofNat l1)))) H) (
 K (.exit 0) (upd (upd (upd (upd a 23 (a 10)) 24 (a 2)) 25 (iN (l1))) 26 (.bool (ltZ z2 (Int.ofNat l1)))) H)) := by kernel_rfl
theorem rRunZ_W (con : CallT) (a : TF) (H : CH) (K : KX) : codeW (dropC 3 (blkC (lpAt Tryz.prog 24 0))) Tryz.prog con a H K =
 (AsInt .i64 (a 10) fun z1 =>
 InR (Int.add z1 (Int.ofNat 1)) (
 K .normal (upd (upd (upd a 27 (a 10)) 28 (i64 (Int.add z1 (Int.ofNat 1)))) 10 (i64 (Int.add z1 (Int.ofNat 1)))) H)) := by kernel_rfl
theorem rRunB0_W (con : CallT) (a : TF) (H : CH) (K : KX) : codeW (takeC 3 (blkC ((flatC (blkC (lpAt Tryz.prog 24 0))).getD 2 .skip))) Tryz.prog con a H K =
 (AsSlc (a 2) fun p1 o2 l3 c4 =>
 AsCnt (a 10) fun n5 =>
 Must (ltN n5 l3) (
 Ld H p1 (Nat.add o2 (Nat.mul n5 1)) fun v6 =>
 AsInt .i64 v6 fun z7 =>
 Cd (ltZ z7 (Int.ofNat 0)) (
 K (.exit 1) (upd (upd (upd (upd (upd (upd (upd (upd (upd (upd (upd (upd (upd (upd (upd (upd (upd a 29 (a 2)) 30 (a 10)) 31 (ptr p1 (Nat.add o2 (Nat.mul n5 1)))) 32 v6) 11 v6) 33 v6) 34 (.bool (ltZ z7 (Int.ofNat 0)))) 35 (.bool (ltZ z7 (Int.ofNat 0)))) 35 (.bool true)) 36 unit) 35 (.bool true)) 37 unit) 35 (.bool true)) 38 unit) 35 (.bool true)) 39 unit) 40 (.bool true)) H) (
 AsLen (a 1) fun l8 =>
 AsInt .i64 v6 fun z9 =>
 Cd (leZ (Int.ofNat l8) z9) (
 K (.exit 1) (upd (upd (upd (upd (upd (upd (upd (upd (upd (upd (upd (upd (upd (upd (upd (upd (upd a 29 (a 2)) 30 (a 10)) 31 (ptr p1 (Nat.add o2 (Nat.mul n5 1)))) 32 v6) 11 v6) 33 v6) 34 (.bool (ltZ z7 (Int.ofNat 0)))) 35 (.bool (ltZ z7 (Int.ofNat 0)))) 35 (.bool false)) 36 v6) 35 (.bool false)) 37 (a 1)) 35 (.bool false)) 38 (iN (l8))) 35 (.bool false)) 39 (.bool (leZ (Int.ofNat l8) z9))) 40 (.bool (leZ (Int.ofNat l8) z9))) H) (
 K .normal (upd (upd (upd (upd (upd (upd (upd (upd (upd (upd (upd (upd (upd (upd (upd (upd (upd a 29 (a 2)) 30 (a 10)) 31 (ptr p1 (Nat.add o2 (Nat.mul n5 1)))) 32 v6) 11 v6) 33 v6) 34 (.bool (ltZ z7 (Int.ofNat 0)))) 35 (.bool (ltZ z7 (Int.ofNat 0)))) 35 (.bool false)) 36 v6) 35 (.bool false)) 37 (a 1)) 35 (.bool false)) 38 (iN (l8))) 35 (.bool false)) 39 (.bool (leZ (Int.ofNat l8) z9))) 40 (.bool (leZ (Int.ofNat l8) z9))) H)))) := by kernel_rfl
theorem rRunB1_W (con : CallT) (a : TF) (H : CH) (K : KX) : codeW (sliceC 3 2 (blkC ((flatC (blkC (lpAt Tryz.prog 24 0))).getD 2 .skip))) Tryz.prog con a H K =
 (AsSlc (a 8) fun p1 o2 l3 c4 =>
 AsCnt (a 11) fun n5 =>
 Must (ltN n5 l3) (
 Ld H p1 (Nat.add o2 (Nat.mul n5 1)) fun v6 =>
 IsNil .ptr v6 fun b7 =>
 Cd b7 (
 AsSlc (a 9) fun p8 o9 l10 c11 =>
 AsCnt (a 11) fun n12 =>
 Must (ltN n12 l10) (
 Ld H p8 (Nat.add o9 (Nat.mul n12 1)) fun v13 =>
 IsNil .ptr v13 fun b14 =>
 Cd b14 (
 AsSlc (a 7) fun p15 o16 l17 c18 =>
 AsCnt (a 11) fun n19 =>
 Must (ltN n19 l17) (
 Ld H p15 (Nat.add o16 (Nat.mul n19 1)) fun v20 =>
 AsLen v20 fun l21 =>
 AsSlc (a 1) fun p22 o23 l24 c25 =>
 AsCnt (a 11) fun n26 =>
 Must (ltN n26 l24) (
 Ld H p22 (Nat.add o23 (Nat.mul n26 1)) fun v27 =>
 AsLen v27 fun l28 =>
 Cd (leZ (Int.ofNat l28) (Int.ofNat l21)) (
 K (.exit 1) (upd (upd (upd (upd (upd (upd (upd (upd (upd (upd (upd (upd (upd (upd (upd (upd (upd (upd (upd (upd (upd (upd (upd (upd (upd (upd (upd (upd a 41 (a 8)) 42 (a 11)) 43 (ptr p1 (Nat.add o2 (Nat.mul n5 1)))) 44 v6) 45 (.bool b7)) 46 (.bool b7)) 46 (.bool true)) 47 (a 9)) 46 (.bool true)) 48 (a 11)) 46 (.bool true)) 49 (ptr p8 (Nat.add o9 (Nat.mul n12 1)))) 46 (.bool true)) 50 v13) 46 (.bool true)) 51 (.bool b14)) 52 (.bool b14)) 53 (a 7)) 54 (a 11)) 55 (ptr p15 (Nat.add o16 (Nat.mul n19 1)))) 56 v20) 57 (iN (l21))) 58 (a 1)) 59 (a 11)) 60 (ptr p22 (Nat.add o23 (Nat.mul n26 1)))) 61 v27) 62 (iN (l28))) 63 (.bool (leZ (Int.ofNat l28) (Int.ofNat l21)))) H) (
 Nw H (mkRow 26 0 [(.bool false),(u64 (0)),(snil)]) fun p29 H30 =>
 AsSlc (a 1) fun p31 o32 l33 c34 =>
 AsCnt (a 11) fun n35 =>
 Must (ltN n35 l33) (
 Ld H30 p31 (Nat.add o32 (Nat.mul n35 1)) fun v36 =>
 AsSlc (a 7) fun p37 o38 l39 c40 =>
 AsCnt (a 11) fun n41 =>
 Must (ltN n41 l39) (
 Ld H30 p37 (Nat.add o38 (Nat.mul n41 1)) fun v42 =>
 AsLen v42 fun l43 =>
 AsSlc v36 fun p44 o45 l46 c47 =>
 Must (ltN l43 l46) (
 Ld H30 p44 (Nat.add (Nat.add o45 (Nat.mul l43 3)) 0) fun v48 =>
 Ld H30 p44 (Nat.add (Nat.add o45 (Nat.mul l43 3)) 1) fun v49 =>
 Ld H30 p44 (Nat.add (Nat.add o45 (Nat.mul l43 3)) 2) fun v50 =>
 St H30 p29 0 [v48,v49,v50] fun H51 =>
 Ld H51 p29 0 fun v52 =>
 AsBool v52 fun b53 =>
 Cd b53 (
 Ld H51 p29 1 fun v54 =>
 Sc v54 (Nw H51 (mkRow 56 0 [(iN (0)),v54,(iN (0)),(u64 (0)),(u64 (0)),(u64 (0)),(u64 (0)),(u64 (0)),(snil),(u64 (0))]) fun p55 H56 =>
 AsSlc (a 9) fun p57 o58 l59 c60 =>
 AsCnt (a 11) fun n61 =>
 Must (ltN n61 l59) (
 St H56 p57 (Nat.add o58 (Nat.mul n61 1)) [(ptr p55 0)] fun H62 =>
 AsSlc (a 7) fun p63 o64 l65 c66 =>
 AsCnt (a 11) fun n67 =>
 Must (ltN n67 l65) (
 Ld H62 p63 (Nat.add o64 (Nat.mul n67 1)) fun v68 =>
 Nw H62 (mkRow 86 0 [(.bool false),(u64 (0)),(iN (0)),(.bool false)]) fun p69 H70 =>
 App Tryz.prog 87 87 H70 v68 (.slice (some ⟨p69,0,none⟩) 1 1) fun v71 H72 =>
 AsSlc (a 7) fun p73 o74 l75 c76 =>
 AsCnt (a 11) fun n77 =>
 Must (ltN n77 l75) (
 Sc v71 (St H72 p73 (Nat.add o74 (Nat.mul n77 1)) [v71] fun H78 =>
 K .normal (upd (upd (upd (upd (upd (upd (upd (upd (upd (upd (upd (upd (upd (upd (upd (upd (upd (upd (upd (upd (upd (upd (upd (upd (upd (upd (upd (upd (upd (upd (upd (upd (upd (upd (upd (upd (upd (upd (upd (upd (upd (upd (upd (upd (upd (upd (upd (upd (upd (upd (upd (upd (upd (upd (upd (upd (upd (upd (upd a 41 (a 8)) 42 (a 11)) 43 (ptr p1 (Nat.add o2 (Nat.mul n5 1)))) 44 v6) 45 (.bool b7)) 46 (.bool b7)) 46 (.bool true)) 47 (a 9)) 46 (.bool true)) 48 (a 11)) 46 (.bool true)) 49 (ptr p8 (Nat.add o9 (Nat.mul n12 1)))) 46 (.bool true)) 50 v13) 46 (.bool true)) 51 (.bool b14)) 52 (.bool b14)) 53 (a 7)) 54 (a 11)) 55 (ptr p15 (Nat.add o16 (Nat.mul n19 1)))) 56 v20) 57 (iN (l21))) 58 (a 1)) 59 (a 11)) 60 (ptr p22 (Nat.add o23 (Nat.mul n26 1)))) 61 v27) 62 (iN (l28))) 63 (.bool (leZ (Int.ofNat l28) (Int.ofNat l21)))) 12 (ptr p29 0)) 64 (a 1)) 65 (a 11)) 66 (ptr p31 (Nat.add o32 (Nat.mul n35 1)))) 67 v36) 68 (a 7)) 69 (a 11)) 70 (ptr p37 (Nat.add o38 (Nat.mul n41 1)))) 71 v42) 72 (iN (l43))) 73 (ptr p44 (Nat.add o45 (Nat.mul l43 3)))) 74 (.agg ⟨[v48,v49,v50]⟩)) 75 (ptr p29 0)) 76 v52) 77 (a 9)) 78 (a 11)) 79 (ptr p29 1)) 80 v54) 81 (.agg ⟨[(iN (0)),v54,(iN (0)),(u64 (0)),(u64 (0)),(u64 (0)),(u64 (0)),(u64 (0)),(snil),(u64 (0))]⟩)) 82 (ptr p55 0)) 83 (ptr p57 (Nat.add o58 (Nat.mul n61 1)))) 91 (a 7)) 92 (a 11)) 93 (a 7)) 94 (a 11)) 95 (ptr p63 (Nat.add o64 (Nat.mul n67 1)))) 96 v68) 97 (.agg ⟨[(.bool false),(u64 (0)),(iN (0)),(.bool false)]⟩)) 98 (.slice (some ⟨p69,0,none⟩) 1 1)) 99 v71) 100 (ptr p73 (Nat.add o74 (Nat.mul n77 1)))) H78)))))) (
 Ld H51 p29 2 fun v79 =>
 Sc v79 (Nw H51 (mkRow 51 0 [(iN (0)),v79,(u64 (0)),(snil),(.bool false),(iN (0))]) fun p80 H81 =>
 AsSlc (a 8) fun p82 o83 l84 c85 =>
 AsCnt (a 11) fun n86 =>
 Must (ltN n86 l84) (
 St H81 p82 (Nat.add o83 (Nat.mul n86 1)) [(ptr p80 0)] fun H87 =>
 AsSlc (a 7) fun p88 o89 l90 c91 =>
 AsCnt (a 11) fun n92 =>
 Must (ltN n92 l90) (
 Ld H87 p88 (Nat.add o89 (Nat.mul n92 1)) fun v93 =>
 Nw H87 (mkRow 86 0 [(.bool false),(u64 (0)),(iN (0)),(.bool false)]) fun p94 H95 =>
 App Tryz.prog 87 87 H95 v93 (.slice (some ⟨p94,0,none⟩) 1 1) fun v96 H97 =>
 AsSlc (a 7) fun p98 o99 l100 c101 =>
 AsCnt (a 11) fun n102 =>
 Must (ltN n102 l100) (
 Sc v96 (St H97 p98 (Nat.add o99 (Nat.mul n102 1)) [v96] fun H103 =>
 K .normal (upd (upd (upd (upd (upd (upd (upd (upd (upd (upd (upd (upd (upd (upd (upd (upd (upd (upd (upd (upd (upd (upd (upd (upd (upd (upd (upd (upd (upd (upd (upd (upd (upd (upd (upd (upd (upd (upd (upd (upd (upd (upd (upd (upd (upd (upd (upd (upd (upd (upd (upd (upd (upd (upd (upd (upd (upd (upd (upd a 41 (a 8)) 42 (a 11)) 43 (ptr p1 (Nat.add o2 (Nat.mul n5 1)))) 44 v6) 45 (.bool b7)) 46 (.bool b7)) 46 (.bool true)) 47 (a 9)) 46 (.bool true)) 48 (a 11)) 46 (.bool true)) 49 (ptr p8 (Nat.add o9 (Nat.mul n12 1)))) 46 (.bool true)) 50 v13) 46 (.bool true)) 51 (.bool b14)) 52 (.bool b14)) 53 (a 7)) 54 (a 11)) 55 (ptr p15 (Nat.add o16 (Nat.mul n19 1)))) 56 v20) 57 (iN (l21))) 58 (a 1)) 59 (a 11)) 60 (ptr p22 (Nat.add o23 (Nat.mul n26 1)))) 61 v27) 62 (iN (l28))) 63 (.bool (leZ (Int.ofNat l28) (Int.ofNat l21)))) 12 (ptr p29 0)) 64 (a 1)) 65 (a 11)) 66 (ptr p31 (Nat.add o32 (Nat.mul n35 1)))) 67 v36) 68 (a 7)) 69 (a 11)) 70 (ptr p37 (Nat.add o38 (Nat.mul n41 1)))) 71 v42) 72 (iN (l43))) 73 (ptr p44 (Nat.add o45 (Nat.mul l43 3)))) 74 (.agg ⟨[v48,v49,v50]⟩)) 75 (ptr p29 0)) 76 v52) 84 (a 8)) 85 (a 11)) 86 (ptr p29 2)) 87 v79) 88 (.agg ⟨[(iN (0)),v79,(u64 (0)),(snil),(.bool false),(iN (0))]⟩)) 89 (ptr p80 0)) 90 (ptr p82 (Nat.add o83 (Nat.mul n86 1)))) 91 (a 7)) 92 (a 11)) 93 (a 7)) 94 (a 11)) 95 (ptr p88 (Nat.add o89 (Nat.mul n92 1)))) 96 v93) 97 (.agg ⟨[(.bool false),(u64 (0)),(iN (0)),(.bool false)]⟩)) 98 (.slice (some ⟨p94,0,none⟩) 1 1)) 99 v96) 100 (ptr p98 (Nat.add o99 (Nat.mul n102 1)))) H103))))))))))))) (
 K .normal (upd (upd (upd (upd (upd (upd (upd (upd (upd (upd (upd (upd (upd (upd (upd (upd (upd a 41 (a 8)) 42 (a 11)) 43 (ptr p1 (Nat.add o2 (Nat.mul n5 1)))) 44 v6) 45 (.bool b7)) 46 (.bool b7)) 46 (.bool true)) 47 (a 9)) 46 (.bool true)) 48 (a 11)) 46 (.bool true)) 49 (ptr p8 (Nat.add o9 (Nat.mul n12 1)))) 46 (.bool true)) 50 v13) 46 (.bool true)) 51 (.bool b14)) 52 (.bool b14)) H))) (
 K .normal (upd (upd (upd (upd (upd (upd (upd (upd (upd (upd (upd (upd (upd (upd (upd (upd (upd a 41 (a 8)) 42 (a 11)) 43 (ptr p1 (Nat.add o2 (Nat.mul n5 1)))) 44 v6) 45 (.bool b7)) 46 (.bool b7)) 46 (.bool false)) 47 unit) 46 (.bool false)) 48 unit) 46 (.bool false)) 49 unit) 46 (.bool false)) 50 unit) 46 (.bool false)) 51 unit) 52 (.bool false)) H))) := by kernel_rfl
theorem rRunB2_W (con : CallT) (a : TF) (H : CH) (K : KX) : codeW (sliceC 5 3 (blkC ((flatC (blkC (lpAt Tryz.prog 24 0))).getD 2 .skip))) Tryz.prog con a H K =
 (Nw H (mkRow 86 0 [(.bool false),(u64 (0)),(iN (0)),(.bool false)]) fun p1 H2 =>
 AsSlc (a 9) fun p3 o4 l5 c6 =>
 AsCnt (a 11) fun n7 =>
 Must (ltN n7 l5) (
 Ld H2 p3 (Nat.add o4 (Nat.mul n7 1)) fun v8 =>
 IsNil .ptr v8 fun b9 =>
 Cd (notB b9) (
 AsSlc (a 9) fun p10 o11 l12 c13 =>
 AsCnt (a 11) fun n14 =>
 Must (ltN n14 l12) (
 Ld H2 p10 (Nat.add o11 (Nat.mul n14 1)) fun v15 =>
 Call1 Tryz.prog con 12 [v15,(a 0),(a 11)] H2 fun v16 H17 =>
 Sc v16 (St H17 p1 3 [v16] fun H18 =>
 AsSlc (a 9) fun p19 o20 l21 c22 =>
 AsCnt (a 11) fun n23 =>
 Must (ltN n23 l21) (
 Ld H18 p19 (Nat.add o20 (Nat.mul n23 1)) fun v24 =>
 NotNil Tryz.prog v24 (
 AsPtr v24 fun p25 o26 =>
 Ld H18 p25 (Nat.add o26 9) fun v27 =>
 Sc v27 (St H18 p1 1 [v27] fun H28 =>
 K .normal (upd (upd (upd (upd (upd (upd (upd (upd (upd (upd (upd (upd (upd (upd (upd (upd (upd (upd (upd (upd (upd (upd a 13 (ptr p1 0)) 101 (a 9)) 102 (a 11)) 103 (ptr p3 (Nat.add o4 (Nat.mul n7 1)))) 104 v8) 105 (.bool (notB b9))) 106 (a 9)) 107 (a 11)) 108 (ptr p10 (Nat.add o11 (Nat.mul n14 1)))) 109 v15) 110 (a 0)) 111 (a 11)) 112 v16) 113 (ptr p1 3)) 114 (a 9)) 115 (a 11)) 116 (ptr p19 (Nat.add o20 (Nat.mul n23 1)))) 117 v24) 118 v24) 119 (ptr p25 (Nat.add o26 9))) 120 v27) 121 (ptr p1 1)) H28)))))) (
 AsSlc (a 8) fun p29 o30 l31 c32 =>
 AsCnt (a 11) fun n33 =>
 Must (ltN n33 l31) (
 Ld H2 p29 (Nat.add o30 (Nat.mul n33 1)) fun v34 =>
 Call1 Tryz.prog con 13 [v34,(a 0),(a 11)] H2 fun v35 H36 =>
 Sc v35 (St H36 p1 3 [v35] fun H37 =>
 Ld H37 p1 3 fun v38 =>
 AsBool v38 fun b39 =>
 Cd b39 (
 AsSlc (a 8) fun p40 o41 l42 c43 =>
 AsCnt (a 11) fun n44 =>
 Must (ltN n44 l42) (
 Ld H37 p40 (Nat.add o41 (Nat.mul n44 1)) fun v45 =>
 NotNil Tryz.prog v45 (
 AsPtr v45 fun p46 o47 =>
 Ld H37 p46 (Nat.add o47 4) fun v48 =>
 AsSlc (a 8) fun p49 o50 l51 c52 =>
 AsCnt (a 11) fun n53 =>
 Must (ltN n53 l51) (
 Ld H37 p49 (Nat.add o50 (Nat.mul n53 1)) fun v54 =>
 NotNil Tryz.prog v54 (
 AsPtr v54 fun p55 o56 =>
 Ld H37 p55 (Nat.add o56 5) fun v57 =>
 Sc v48 (St H37 p1 0 [v48] fun H58 =>
 Sc v57 (St H58 p1 2 [v57] fun H59 =>
 Ld H37 p55 (Nat.add o56 5) fun v60 =>
 Same v57 v60 (
 Ld H58 p55 (Nat.add o56 5) fun v61 =>
 Same v57 v61 (
 Ld H37 p49 (Nat.add o50 (Nat.mul n53 1)) fun v62 =>
 Same v54 v62 (
 Ld H58 p49 (Nat.add o50 (Nat.mul n53 1)) fun v63 =>
 Same v54 v63 (
 K .normal (upd (upd (upd (upd (upd (upd (upd (upd (upd (upd (upd (upd (upd (upd (upd (upd (upd (upd (upd (upd (upd (upd (upd (upd (upd (upd (upd (upd (upd (upd (upd (upd a 13 (ptr p1 0)) 101 (a 9)) 102 (a 11)) 103 (ptr p3 (Nat.add o4 (Nat.mul n7 1)))) 104 v8) 105 (.bool (notB b9))) 122 (a 8)) 123 (a 11)) 124 (ptr p29 (Nat.add o30 (Nat.mul n33 1)))) 125 v34) 126 (a 0)) 127 (a 11)) 128 v35) 129 (ptr p1 3)) 130 (ptr p1 3)) 131 v38) 132 (a 8)) 133 (a 11)) 134 (ptr p40 (Nat.add o41 (Nat.mul n44 1)))) 135 v45) 136 v45) 137 (ptr p46 (Nat.add o47 4))) 138 v48) 139 (a 8)) 140 (a 11)) 141 (ptr p49 (Nat.add o50 (Nat.mul n53 1)))) 142 v54) 143 v54) 144 (ptr p55 (Nat.add o56 5))) 145 v57) 146 (ptr p1 0)) 147 (ptr p1 2)) H59))))))))))) (
 K .normal (upd (upd (upd (upd (upd (upd (upd (upd (upd (upd (upd (upd (upd (upd (upd (upd a 13 (ptr p1 0)) 101 (a 9)) 102 (a 11)) 103 (ptr p3 (Nat.add o4 (Nat.mul n7 1)))) 104 v8) 105 (.bool (notB b9))) 122 (a 8)) 123 (a 11)) 124 (ptr p29 (Nat.add o30 (Nat.mul n33 1)))) 125 v34) 126 (a 0)) 127 (a 11)) 128 v35) 129 (ptr p1 3)) 130 (ptr p1 3)) 131 v38) H37)))))) := by kernel_rfl
theorem rRunB3_W (con : CallT) (a : TF) (H : CH) (K : KX) : codeW (dropC 8 (blkC ((flatC (blkC (lpAt Tryz.prog 24 0))).getD 2 .skip))) Tryz.prog con a H K =
 (AsSlc (a 7) fun p1 o2 l3 c4 =>
 AsCnt (a 11) fun n5 =>
 Must (ltN n5 l3) (
 Ld H p1 (Nat.add o2 (Nat.mul n5 1)) fun v6 =>
 AsSlc (a 7) fun p7 o8 l9 c10 =>
 AsCnt (a 11) fun n11 =>
 Must (ltN n11 l9) (
 Ld H p7 (Nat.add o8 (Nat.mul n11 1)) fun v12 =>
 AsLen v12 fun l13 =>
 InR (Int.sub (Int.ofNat l13) (Int.ofNat 1)) (
 AsPtr (a 13) fun p14 o15 =>
 Ld H p14 (Nat.add o15 0) fun v16 =>
 Ld H p14 (Nat.add o15 1) fun v17 =>
 Ld H p14 (Nat.add o15 2) fun v18 =>
 Ld H p14 (Nat.add o15 3) fun v19 =>
 AsSlc v6 fun p20 o21 l22 c23 =>
 AsCnt (i64 (Int.sub (Int.ofNat l13) (Int.ofNat 1))) fun n24 =>
 Must (ltN n24 l22) (
 St H p20 (Nat.add o21 (Nat.mul n24 4)) [v16,v17,v18,v19] fun H25 =>
 AsPtr (a 13) fun p26 o27 =>
 Ld H25 p26 (Nat.add o27 3) fun v28 =>
 AsBool v28 fun b29 =>
 Cd b29 (
 AsSlc (a 8) fun p30 o31 l32 c33 =>
 AsCnt (a 11) fun n34 =>
 Must (ltN n34 l32) (
 St H25 p30 (Nat.add o31 (Nat.mul n34 1)) [(.pointer none)] fun H35 =>
 AsSlc (a 9) fun p36 o37 l38 c39 =>
 AsCnt (a 11) fun n40 =>
 Must (ltN n40 l38) (
 St H35 p36 (Nat.add o37 (Nat.mul n40 1)) [(.pointer none)] fun H41 =>
 K .normal (upd (upd (upd (upd (upd (upd (upd (upd (upd (upd (upd (upd (upd (upd (upd (upd (upd (upd (upd (upd a 148 (a 7)) 149 (a 11)) 150 (ptr p1 (Nat.add o2 (Nat.mul n5 1)))) 151 v6) 152 (a 7)) 153 (a 11)) 154 (ptr p7 (Nat.add o8 (Nat.mul n11 1)))) 155 v12) 156 (iN (l13))) 157 (i64 (Int.sub (Int.ofNat l13) (Int.ofNat 1)))) 158 (.agg ⟨[v16,v17,v18,v19]⟩)) 159 (ptr p20 (Nat.add o21 (Nat.mul n24 4)))) 160 (ptr p26 (Nat.add o27 3))) 161 v28) 162 (a 8)) 163 (a 11)) 164 (a 9)) 165 (a 11)) 166 (ptr p30 (Nat.add o31 (Nat.mul n34 1)))) 167 (ptr p36 (Nat.add o37 (Nat.mul n40 1)))) H41))) (
 K .normal (upd (upd (upd (upd (upd (upd (upd (upd (upd (upd (upd (upd (upd (upd a 148 (a 7)) 149 (a 11)) 150 (ptr p1 (Nat.add o2 (Nat.mul n5 1)))) 151 v6) 152 (a 7)) 153 (a 11)) 154 (ptr p7 (Nat.add o8 (Nat.mul n11 1)))) 155 v12) 156 (iN (l13))) 157 (i64 (Int.sub (Int.ofNat l13) (Int.ofNat 1)))) 158 (.agg ⟨[v16,v17,v18,v19]⟩)) 159 (ptr p20 (Nat.add o21 (Nat.mul n24 4)))) 160 (ptr p26 (Nat.add o27 3))) 161 v28) H25)))))) := by kernel_rfl
end Go.Proofs.YtnkbmaccgifeoaaGreat

/- What some functions' texts ask for,step by step,each checked by the kernel. No conditions. -/
set_option linter.unusedVariables false
set_option maxRecDepth 100000
namespace Go.Proofs.YtnkbmaccgifeoaaGreat
open Go Go.CM
theorem sameU_W (con : CallT) (v w : Value) (H : CH) (K : KP) : funW Tryz.prog con 27 [v,w] H K =
 (AsLen v fun l1 =>
 AsLen w fun l2 =>
 Cd (notB (eqZ (Int.ofNat l1) (Int.ofNat l2))) (
 K (.bool false) H) (
 LoopC Tryz.prog con (lpAt Tryz.prog 27 0) (upd (upd (upd (upd (upd (upd (upd (upd (upd (fun _ => undV) 1 w) 0 v) 4 (.bool false)) 6 v) 7 (iN (l1))) 8 w) 9 (iN (l2))) 10 (.bool (notB (eqZ (Int.ofNat l1) (Int.ofNat l2))))) 5 (iN (0))) H (fun e => ceP e
 (fun a3 H4 =>
 K (.bool true) H4)
 (fun i5 => fun a3 H4 =>
 Cd (eqN i5 0) (
 K (.bool true) H4) (
 False))
 (fun a3 H4 =>
 K (a3 4) H4)))) := by kernel_rfl
theorem sameUL_W (con : CallT) (a : TF) (H : CH) (K : KX) : codeW (lpAt Tryz.prog 27 0) Tryz.prog con a H K =
 (AsLen (a 0) fun l1 =>
 AsInt .i64 (a 5) fun z2 =>
 Cd (ltZ z2 (Int.ofNat l1)) (
 AsSlc (a 0) fun p3 o4 l5 c6 =>
 AsCnt (a 5) fun n7 =>
 Must (ltN n7 l5) (
 Ld H p3 (Nat.add o4 (Nat.mul n7 1)) fun v8 =>
 AsSlc (a 1) fun p9 o10 l11 c12 =>
 AsCnt (a 5) fun n13 =>
 Must (ltN n13 l11) (
 Ld H p9 (Nat.add o10 (Nat.mul n13 1)) fun v14 =>
 AsNat .u64 v8 fun n15 =>
 AsNat .u64 v14 fun n16 =>
 Cd (notB (eqN n15 n16)) (
 K .ret (upd (upd (upd (upd (upd (upd (upd (upd (upd (upd (upd (upd (upd (upd a 11 (a 5)) 12 (a 0)) 13 (iN (l1))) 14 (.bool (ltZ z2 (Int.ofNat l1)))) 17 (a 0)) 18 (a 5)) 19 (ptr p3 (Nat.add o4 (Nat.mul n7 1)))) 20 v8) 21 (a 1)) 22 (a 5)) 23 (ptr p9 (Nat.add o10 (Nat.mul n13 1)))) 24 v14) 25 (.bool (notB (eqN n15 n16)))) 4 (.bool false)) H) (
 AsInt .i64 (a 5) fun z17 =>
 InR (Int.add z17 (Int.ofNat 1)) (
 K .normal (upd (upd (upd (upd (upd (upd (upd (upd (upd (upd (upd (upd (upd (upd (upd (upd a 11 (a 5)) 12 (a 0)) 13 (iN (l1))) 14 (.bool (ltZ z2 (Int.ofNat l1)))) 17 (a 0)) 18 (a 5)) 19 (ptr p3 (Nat.add o4 (Nat.mul n7 1)))) 20 v8) 21 (a 1)) 22 (a 5)) 23 (ptr p9 (Nat.add o10 (Nat.mul n13 1)))) 24 v14) 25 (.bool (notB (eqN n15 n16)))) 15 (a 5)) 16 (i64 (Int.add z17 (Int.ofNat 1)))) 5 (i64 (Int.add z17 (Int.ofNat 1)))) H))))) (
 K (.exit 0) (upd (upd (upd (upd a 11 (a 5)) 12 (a 0)) 13 (iN (l1))) 14 (.bool (ltZ z2 (Int.ofNat l1)))) H)) := by kernel_rfl
theorem mWord_W (con : CallT) (x : Nat) (H : CH) (K : KP) : funW Tryz.prog con 63 [u64 x] H K =
 (Cd (leN 4611686018427387904 x) (
 K (.tuple ⟨[(u64 (0)),(iN (2))]⟩) H) (
 K (.tuple ⟨[(u64 ((Nat.mod (Nat.mul 4 x) 18446744073709551616))),(iN (0))]⟩) H)) := by kernel_rfl
theorem rWord29_W (con : CallT) (x : Nat) (H : CH) (K : KP) : funW Tryz.prog con 65 [u64 x] H K =
 (Cd (leN 4611686018427387904 x) (
 K (.tuple ⟨[(u64 (0)),(iN (2))]⟩) H) (
 K (.tuple ⟨[(u64 ((Nat.mod (Nat.mul 4 x) 18446744073709551616))),(iN (0))]⟩) H)) := by kernel_rfl
theorem mMake_W (con : CallT) (p : Nat) (v : Value) (H : CH) (K : KP) : funW Tryz.prog con 49 [ptr p 0,v] H K =
 (AsLen v fun l1 =>
 LoopC Tryz.prog con (lpAt Tryz.prog 49 0) (upd (upd (upd (upd (upd (upd (upd (upd (upd (upd (fun _ => undV) 1 v) 0 (ptr p 0)) 4 (u64 (0))) 5 (iN (0))) 12 (ptr p 0)) 13 (.bool false)) 6 (snil)) 14 v) 15 (iN (l1))) 16 (iN (0))) H (fun e => ceP e
 (fun a2 H3 =>
 Call1 Tryz.prog con 64 [(a2 0),(a2 6)] H3 fun v5 H6 =>
 AsNat .u64 v5 fun n7 =>
 Cd (eqN n7 0) (
 K (.tuple ⟨[(u64 (0)),(iN (30))]⟩) H6) (
 K (.tuple ⟨[v5,(iN (0))]⟩) H6))
 (fun i4 => fun a2 H3 =>
 Cd (eqN i4 0) (
 Call1 Tryz.prog con 64 [(a2 0),(a2 6)] H3 fun v8 H9 =>
 AsNat .u64 v8 fun n10 =>
 Cd (eqN n10 0) (
 K (.tuple ⟨[(u64 (0)),(iN (30))]⟩) H9) (
 K (.tuple ⟨[v8,(iN (0))]⟩) H9)) (
 False))
 (fun a2 H3 =>
 K (.tuple ⟨[(a2 4),(a2 5)]⟩) H3))) := by kernel_rfl
theorem mMakeL_W (con : CallT) (a : TF) (H : CH) (K : KX) : codeW (lpAt Tryz.prog 49 0) Tryz.prog con a H K =
 (AsInt .i64 (a 16) fun z1 =>
 AsInt .i64 (a 15) fun z2 =>
 Cd (ltZ z1 z2) (
 AsSlc (a 14) fun p3 o4 l5 c6 =>
 AsCnt (a 16) fun n7 =>
 Must (ltN n7 l5) (
 Ld H p3 (Nat.add o4 (Nat.mul n7 1)) fun v8 =>
 Call1 Tryz.prog con 63 [v8] H fun v9 H10 =>
 AsTup v9 fun l11 =>
 Nth l11 0 fun v12 =>
 AsTup v9 fun l13 =>
 Nth l13 1 fun v14 =>
 AsInt .i64 v14 fun z15 =>
 Cd (notB (eqZ z15 (Int.ofNat 0))) (
 K .ret (upd (upd (upd (upd (upd (upd (upd (upd (upd (upd (upd (upd (upd (upd (upd (upd a 17 (.bool (ltZ z1 z2))) 18 (ptr p3 (Nat.add o4 (Nat.mul n7 1)))) 19 v8) 8 v8) 21 v8) 22 v9) 20 v9) 23 v12) 24 v14) 9 v12) 10 v14) 25 v14) 26 (.bool (notB (eqZ z15 (Int.ofNat 0))))) 27 v14) 4 (u64 (0))) 5 v14) H10) (
 Sc v12 (Nw H10 (mkRow 23 0 [v12]) fun p16 H17 =>
 App Tryz.prog 22 22 H17 (a 6) (.slice (some ⟨p16,0,none⟩) 1 1) fun v18 H19 =>
 AsInt .i64 (a 16) fun z20 =>
 InR (Int.add z20 (Int.ofNat 1)) (
 K .normal (upd (upd (upd (upd (upd (upd (upd (upd (upd (upd (upd (upd (upd (upd (upd (upd (upd (upd (upd (upd a 17 (.bool (ltZ z1 z2))) 18 (ptr p3 (Nat.add o4 (Nat.mul n7 1)))) 19 v8) 8 v8) 21 v8) 22 v9) 20 v9) 23 v12) 24 v14) 9 v12) 10 v14) 25 v14) 26 (.bool (notB (eqZ z15 (Int.ofNat 0))))) 28 (a 6)) 29 v12) 30 (.slice (some ⟨p16,0,none⟩) 1 1)) 31 v18) 6 v18) 32 (i64 (Int.add z20 (Int.ofNat 1)))) 16 (i64 (Int.add z20 (Int.ofNat 1)))) H19))))) (
 K (.exit 0) (upd a 17 (.bool (ltZ z1 z2))) H)) := by kernel_rfl
theorem rMake29_W (con : CallT) (p : Nat) (t : Int) (v : Value) (H : CH) (K : KP) : funW Tryz.prog con 50 [ptr p 0,i64 t,v] H K =
 (LoopC Tryz.prog con (lpAt Tryz.prog 50 0) (upd (upd (upd (upd (upd (upd (upd (upd (upd (fun _ => undV) 2 v) 1 (i64 t)) 0 (ptr p 0)) 6 (u64 (0))) 7 (iN (0))) 13 (ptr p 0)) 14 (.bool false)) 8 (snil)) 9 (iN (0))) H (fun e => ceP e
 (fun a1 H2 =>
 Call1 Tryz.prog con 43 [(a1 0),(a1 1),(a1 8)] H2 fun v4 H5 =>
 AsNat .u64 v4 fun n6 =>
 Cd (eqN n6 0) (
 K (.tuple ⟨[(u64 (0)),(iN (30))]⟩) H5) (
 K (.tuple ⟨[v4,(iN (0))]⟩) H5))
 (fun i3 => fun a1 H2 =>
 Cd (eqN i3 0) (
 Call1 Tryz.prog con 43 [(a1 0),(a1 1),(a1 8)] H2 fun v7 H8 =>
 AsNat .u64 v7 fun n9 =>
 Cd (eqN n9 0) (
 K (.tuple ⟨[(u64 (0)),(iN (30))]⟩) H8) (
 K (.tuple ⟨[v7,(iN (0))]⟩) H8)) (
 False))
 (fun a1 H2 =>
 K (.tuple ⟨[(a1 6),(a1 7)]⟩) H2))) := by kernel_rfl
theorem rMake29L_W (con : CallT) (a : TF) (H : CH) (K : KX) : codeW (lpAt Tryz.prog 50 0) Tryz.prog con a H K =
 (AsLen (a 2) fun l1 =>
 AsInt .i64 (a 9) fun z2 =>
 Cd (ltZ z2 (Int.ofNat l1)) (
 AsSlc (a 2) fun p3 o4 l5 c6 =>
 AsCnt (a 9) fun n7 =>
 Must (ltN n7 l5) (
 Ld H p3 (Nat.add o4 (Nat.mul n7 1)) fun v8 =>
 Call1 Tryz.prog con 65 [v8] H fun v9 H10 =>
 AsTup v9 fun l11 =>
 Nth l11 0 fun v12 =>
 AsTup v9 fun l13 =>
 Nth l13 1 fun v14 =>
 AsInt .i64 v14 fun z15 =>
 Cd (notB (eqZ z15 (Int.ofNat 0))) (
 K .ret (upd (upd (upd (upd (upd (upd (upd (upd (upd (upd (upd (upd (upd (upd (upd (upd (upd (upd (upd a 15 (a 9)) 16 (a 2)) 17 (iN (l1))) 18 (.bool (ltZ z2 (Int.ofNat l1)))) 22 (a 2)) 23 (a 9)) 24 (ptr p3 (Nat.add o4 (Nat.mul n7 1)))) 25 v8) 26 v9) 21 v9) 27 v12) 28 v14) 10 v12) 11 v14) 29 v14) 30 (.bool (notB (eqZ z15 (Int.ofNat 0))))) 31 v14) 6 (u64 (0))) 7 v14) H10) (
 Sc v12 (Nw H10 (mkRow 23 0 [v12]) fun p16 H17 =>
 App Tryz.prog 22 22 H17 (a 8) (.slice (some ⟨p16,0,none⟩) 1 1) fun v18 H19 =>
 AsInt .i64 (a 9) fun z20 =>
 InR (Int.add z20 (Int.ofNat 1)) (
 K .normal (upd (upd (upd (upd (upd (upd (upd (upd (upd (upd (upd (upd (upd (upd (upd (upd (upd (upd (upd (upd (upd (upd (upd (upd a 15 (a 9)) 16 (a 2)) 17 (iN (l1))) 18 (.bool (ltZ z2 (Int.ofNat l1)))) 22 (a 2)) 23 (a 9)) 24 (ptr p3 (Nat.add o4 (Nat.mul n7 1)))) 25 v8) 26 v9) 21 v9) 27 v12) 28 v14) 10 v12) 11 v14) 29 v14) 30 (.bool (notB (eqZ z15 (Int.ofNat 0))))) 32 (a 8)) 33 v12) 34 (.slice (some ⟨p16,0,none⟩) 1 1)) 35 v18) 8 v18) 19 (a 9)) 20 (i64 (Int.add z20 (Int.ofNat 1)))) 9 (i64 (Int.add z20 (Int.ofNat 1)))) H19))))) (
 K (.exit 0) (upd (upd (upd (upd a 15 (a 9)) 16 (a 2)) 17 (iN (l1))) 18 (.bool (ltZ z2 (Int.ofNat l1)))) H)) := by kernel_rfl
theorem mValues_W (con : CallT) (p x : Nat) (n : Int) (H : CH) (K : KP) : funW Tryz.prog con 25 [ptr p 0,u64 x,i64 n] H K =
 (Cd (ltZ n (Int.ofNat 0)) (
 K (.tuple ⟨[(snil),(.bool false)]⟩) H) (
 Cd (ltZ (Int.ofNat 16) n) (
 K (.tuple ⟨[(snil),(.bool false)]⟩) H) (
 Must (cvOk .i64 n) (
 LoopC Tryz.prog con (lpAt Tryz.prog 25 0) (upd (upd (upd (upd (upd (upd (upd (upd (upd (upd (upd (upd (upd (upd (upd (upd (upd (upd (upd (upd (upd (upd (upd (fun _ => undV) 2 (i64 n)) 1 (u64 (x))) 0 (ptr p 0)) 6 (snil)) 7 (.bool false)) 11 (ptr p 0)) 12 (.bool false)) 13 (.bool false)) 13 (.bool false)) 14 (i64 n)) 13 (.bool false)) 15 (.bool (ltZ n (Int.ofNat 0)))) 16 (.bool (ltZ n (Int.ofNat 0)))) 17 (.bool (ltZ n (Int.ofNat 0)))) 17 (.bool false)) 18 (i64 n)) 17 (.bool false)) 19 (.bool (ltZ (Int.ofNat 16) n))) 20 (.bool (ltZ (Int.ofNat 16) n))) 8 (snil)) 21 (i64 n)) 22 (u64 ((wrapN .u64 n)))) 23 (u64 (0))) H (fun e => ceP e
 (fun a1 H2 =>
 K (.tuple ⟨[(a1 8),(.bool true)]⟩) H2)
 (fun i3 => fun a1 H2 =>
 Cd (eqN i3 0) (
 K (.tuple ⟨[(a1 8),(.bool true)]⟩) H2) (
 False))
 (fun a1 H2 =>
 K (.tuple ⟨[(a1 6),(a1 7)]⟩) H2)))))) := by kernel_rfl
theorem mValuesL_W (con : CallT) (a : TF) (H : CH) (K : KX) : codeW (lpAt Tryz.prog 25 0) Tryz.prog con a H K =
 (AsNat .u64 (a 23) fun n1 =>
 AsNat .u64 (a 22) fun n2 =>
 Cd (ltN n1 n2) (
 AsNat .u64 (a 1) fun n3 =>
 AsNat .u64 (a 23) fun n4 =>
 Call1 Tryz.prog con 53 [(a 0),(u64 ((Nat.mod (Nat.add n3 n4) 18446744073709551616)))] H fun v5 H6 =>
 AsNat .u64 v5 fun n7 =>
 Cd (eqN (Nat.mod n7 4) 1) (
 K .ret (upd (upd (upd (upd (upd (upd (upd (upd (upd (upd (upd (upd (upd (upd (upd (upd (upd (upd (upd (upd (upd (upd a 24 (.bool (ltN n1 n2))) 25 (a 23)) 9 (a 23)) 26 (a 0)) 27 (a 1)) 28 (a 23)) 29 (u64 ((Nat.mod (Nat.add n3 n4) 18446744073709551616)))) 30 v5) 10 v5) 31 v5) 32 (u64 ((Nat.mod n7 4)))) 33 (.bool (eqN (Nat.mod n7 4) 1))) 34 (.bool (eqN (Nat.mod n7 4) 1))) 34 (.bool true)) 35 unit) 34 (.bool true)) 36 unit) 34 (.bool true)) 37 unit) 38 (.bool true)) 6 (snil)) 7 (.bool false)) H6) (
 AsNat .u64 v5 fun n8 =>
 Cd (eqN (Nat.mod n8 4) 2) (
 K .ret (upd (upd (upd (upd (upd (upd (upd (upd (upd (upd (upd (upd (upd (upd (upd (upd (upd (upd (upd (upd (upd (upd a 24 (.bool (ltN n1 n2))) 25 (a 23)) 9 (a 23)) 26 (a 0)) 27 (a 1)) 28 (a 23)) 29 (u64 ((Nat.mod (Nat.add n3 n4) 18446744073709551616)))) 30 v5) 10 v5) 31 v5) 32 (u64 ((Nat.mod n7 4)))) 33 (.bool (eqN (Nat.mod n7 4) 1))) 34 (.bool (eqN (Nat.mod n7 4) 1))) 34 (.bool false)) 35 v5) 34 (.bool false)) 36 (u64 ((Nat.mod n8 4)))) 34 (.bool false)) 37 (.bool (eqN (Nat.mod n8 4) 2))) 38 (.bool (eqN (Nat.mod n8 4) 2))) 6 (snil)) 7 (.bool false)) H6) (
 AsNat .u64 v5 fun n9 =>
 Nw H6 (mkRow 23 0 [(u64 ((Nat.mod (Nat.div n9 4) 18446744073709551616)))]) fun p10 H11 =>
 App Tryz.prog 22 22 H11 (a 8) (.slice (some ⟨p10,0,none⟩) 1 1) fun v12 H13 =>
 AsNat .u64 (a 23) fun n14 =>
 K .normal (upd (upd (upd (upd (upd (upd (upd (upd (upd (upd (upd (upd (upd (upd (upd (upd (upd (upd (upd (upd (upd (upd (upd (upd (upd (upd (upd (upd a 24 (.bool (ltN n1 n2))) 25 (a 23)) 9 (a 23)) 26 (a 0)) 27 (a 1)) 28 (a 23)) 29 (u64 ((Nat.mod (Nat.add n3 n4) 18446744073709551616)))) 30 v5) 10 v5) 31 v5) 32 (u64 ((Nat.mod n7 4)))) 33 (.bool (eqN (Nat.mod n7 4) 1))) 34 (.bool (eqN (Nat.mod n7 4) 1))) 34 (.bool false)) 35 v5) 34 (.bool false)) 36 (u64 ((Nat.mod n8 4)))) 34 (.bool false)) 37 (.bool (eqN (Nat.mod n8 4) 2))) 38 (.bool (eqN (Nat.mod n8 4) 2))) 39 (a 8)) 40 v5) 41 (u64 ((Nat.mod (Nat.div n9 4) 18446744073709551616)))) 42 (.slice (some ⟨p10,0,none⟩) 1 1)) 43 v12) 8 v12) 44 (u64 ((Nat.mod (Nat.add n14 1) 18446744073709551616)))) 23 (u64 ((Nat.mod (Nat.add n14 1) 18446744073709551616)))) H13))) (
 K (.exit 0) (upd a 24 (.bool (ltN n1 n2))) H)) := by kernel_rfl
theorem rValues29_W (con : CallT) (p x : Nat) (n : Int) (H : CH) (K : KP) : funW Tryz.prog con 26 [ptr p 0,u64 x,i64 n] H K =
 (Cd (ltZ n (Int.ofNat 0)) (
 K (.tuple ⟨[(snil),(.bool false)]⟩) H) (
 Cd (ltZ (Int.ofNat 16) n) (
 K (.tuple ⟨[(snil),(.bool false)]⟩) H) (
 LoopC Tryz.prog con (lpAt Tryz.prog 26 0) (upd (upd (upd (upd (upd (upd (upd (upd (upd (upd (upd (upd (upd (upd (upd (upd (upd (upd (upd (upd (upd (fun _ => undV) 2 (i64 n)) 1 (u64 (x))) 0 (ptr p 0)) 6 (snil)) 7 (.bool false)) 11 (ptr p 0)) 12 (.bool false)) 13 (.bool false)) 13 (.bool false)) 14 (i64 n)) 13 (.bool false)) 15 (.bool (ltZ n (Int.ofNat 0)))) 16 (.bool (ltZ n (Int.ofNat 0)))) 17 (.bool (ltZ n (Int.ofNat 0)))) 17 (.bool false)) 18 (i64 n)) 17 (.bool false)) 19 (.bool (ltZ (Int.ofNat 16) n))) 20 (.bool (ltZ (Int.ofNat 16) n))) 8 (snil)) 9 (iN (0))) H (fun e => ceP e
 (fun a1 H2 =>
 K (.tuple ⟨[(a1 8),(.bool true)]⟩) H2)
 (fun i3 => fun a1 H2 =>
 Cd (eqN i3 0) (
 K (.tuple ⟨[(a1 8),(.bool true)]⟩) H2) (
 False))
 (fun a1 H2 =>
 K (.tuple ⟨[(a1 6),(a1 7)]⟩) H2))))) := by kernel_rfl
theorem rValues29L_W (con : CallT) (a : TF) (H : CH) (K : KX) : codeW (lpAt Tryz.prog 26 0) Tryz.prog con a H K =
 (AsInt .i64 (a 9) fun z1 =>
 AsInt .i64 (a 2) fun z2 =>
 Cd (ltZ z1 z2) (
 AsInt .i64 (a 9) fun z3 =>
 Must (cvOk .i64 z3) (
 AsNat .u64 (a 1) fun n4 =>
 Call1 Tryz.prog con 54 [(a 0),(u64 ((Nat.mod (Nat.add n4 (wrapN .u64 z3)) 18446744073709551616)))] H fun v5 H6 =>
 Call1 Tryz.prog con 38 [v5] H6 fun v7 H8 =>
 AsWant v7 (False) fun b9 =>
 Cd b9 (
 K .ret (upd (upd (upd (upd (upd (upd (upd (upd (upd (upd (upd (upd (upd (upd (upd (upd (upd (upd (upd (upd a 21 (a 9)) 22 (a 2)) 23 (.bool (ltZ z1 z2))) 26 (a 0)) 27 (a 1)) 28 (a 9)) 29 (u64 ((wrapN .u64 z3)))) 30 (u64 ((Nat.mod (Nat.add n4 (wrapN .u64 z3)) 18446744073709551616)))) 31 v5) 10 v5) 32 v5) 33 v7) 34 v7) 34 (.bool true)) 35 unit) 34 (.bool true)) 36 unit) 37 (.bool true)) 6 (snil)) 7 (.bool false)) H8) (
 Call1 Tryz.prog con 39 [v5] H8 fun v10 H11 =>
 AsBool v10 fun b12 =>
 Cd b12 (
 K .ret (upd (upd (upd (upd (upd (upd (upd (upd (upd (upd (upd (upd (upd (upd (upd (upd (upd (upd (upd (upd a 21 (a 9)) 22 (a 2)) 23 (.bool (ltZ z1 z2))) 26 (a 0)) 27 (a 1)) 28 (a 9)) 29 (u64 ((wrapN .u64 z3)))) 30 (u64 ((Nat.mod (Nat.add n4 (wrapN .u64 z3)) 18446744073709551616)))) 31 v5) 10 v5) 32 v5) 33 v7) 34 v7) 34 (.bool false)) 35 v5) 34 (.bool false)) 36 v10) 37 v10) 6 (snil)) 7 (.bool false)) H11) (
 AsNat .u64 v5 fun n13 =>
 Nw H11 (mkRow 23 0 [(u64 ((Nat.mod (Nat.div n13 4) 18446744073709551616)))]) fun p14 H15 =>
 App Tryz.prog 22 22 H15 (a 8) (.slice (some ⟨p14,0,none⟩) 1 1) fun v16 H17 =>
 AsInt .i64 (a 9) fun z18 =>
 InR (Int.add z18 (Int.ofNat 1)) (
 K .normal (upd (upd (upd (upd (upd (upd (upd (upd (upd (upd (upd (upd (upd (upd (upd (upd (upd (upd (upd (upd (upd (upd (upd (upd (upd (upd (upd a 21 (a 9)) 22 (a 2)) 23 (.bool (ltZ z1 z2))) 26 (a 0)) 27 (a 1)) 28 (a 9)) 29 (u64 ((wrapN .u64 z3)))) 30 (u64 ((Nat.mod (Nat.add n4 (wrapN .u64 z3)) 18446744073709551616)))) 31 v5) 10 v5) 32 v5) 33 v7) 34 v7) 34 (.bool false)) 35 v5) 34 (.bool false)) 36 v10) 37 v10) 38 (a 8)) 39 v5) 40 (u64 ((Nat.mod (Nat.div n13 4) 18446744073709551616)))) 41 (.slice (some ⟨p14,0,none⟩) 1 1)) 42 v16) 8 v16) 24 (a 9)) 25 (i64 (Int.add z18 (Int.ofNat 1)))) 9 (i64 (Int.add z18 (Int.ofNat 1)))) H17))))) (
 K (.exit 0) (upd (upd (upd a 21 (a 9)) 22 (a 2)) 23 (.bool (ltZ z1 z2))) H)) := by kernel_rfl
theorem rdValue_W (con : CallT) (p : Nat) (H : CH) (K : KP) : funW Tryz.prog con 14 [ptr p 0] H K =
 (Ld H p 4 fun v1 =>
 K v1 H) := by kernel_rfl
theorem muDone_W (con : CallT) (p : Nat) (H : CH) (K : KP) : funW Tryz.prog con 15 [ptr p 0] H K =
 (Ld H p 4 fun v1 =>
 K v1 H) := by kernel_rfl
theorem muErrno_W (con : CallT) (p : Nat) (H : CH) (K : KP) : funW Tryz.prog con 16 [ptr p 0] H K =
 (Ld H p 5 fun v1 =>
 K v1 H) := by kernel_rfl
end Go.Proofs.YtnkbmaccgifeoaaGreat

/- What some functions' texts ask for,step by step,each checked by the kernel. No conditions. -/
set_option linter.unusedVariables false
set_option maxRecDepth 100000
namespace Go.Proofs.YtnkbmaccgifeoaaGreat
open Go Go.CM
theorem mpB0_W (con : CallT) (a : TF) (H : CH) (K : KX) : codeW (takeC 2 (blkC (lpAt Tryz.prog 4 1))) Tryz.prog con a H K =
 (AsSlc (a 9) fun p1 o2 l3 c4 =>
 AsCnt (a 12) fun n5 =>
 Must (ltN n5 l3) (
 Ld H p1 (Nat.add o2 (Nat.mul n5 1)) fun v6 =>
 AsLen v6 fun l7 =>
 AsInt .i64 (a 13) fun z8 =>
 Cd (ltZ z8 (Int.ofNat l7)) (
 K .normal (upd (upd (upd (upd (upd (upd (upd a 66 (a 13)) 67 (a 9)) 68 (a 12)) 69 (ptr p1 (Nat.add o2 (Nat.mul n5 1)))) 70 v6) 71 (iN (l7))) 72 (.bool (ltZ z8 (Int.ofNat l7)))) H) (
 K (.exit 2) (upd (upd (upd (upd (upd (upd (upd a 66 (a 13)) 67 (a 9)) 68 (a 12)) 69 (ptr p1 (Nat.add o2 (Nat.mul n5 1)))) 70 v6) 71 (iN (l7))) 72 (.bool (ltZ z8 (Int.ofNat l7)))) H))) := by kernel_rfl
theorem mpB1_W (con : CallT) (a : TF) (H : CH) (K : KX) : codeW (takeC 2 (blkC ((flatC (blkC (lpAt Tryz.prog 4 1))).getD 2 .skip))) Tryz.prog con a H K =
 (Nw H (mkRow 86 0 [(.bool false),(u64 (0)),(iN (0)),(.bool false)]) fun p1 H2 =>
 St H2 p1 0 [(.bool false),(u64 (0)),(iN (0)),(.bool false)] fun H3 =>
 AsSlc (a 11) fun p4 o5 l6 c7 =>
 AsCnt (a 12) fun n8 =>
 Must (ltN n8 l6) (
 Ld H3 p4 (Nat.add o5 (Nat.mul n8 1)) fun v9 =>
 AsLen v9 fun l10 =>
 AsInt .i64 (a 13) fun z11 =>
 K .normal (upd (upd (upd (upd (upd (upd (upd (upd (upd a 75 (.agg ⟨[(.bool false),(u64 (0)),(iN (0)),(.bool false)]⟩)) 14 (ptr p1 0)) 76 (a 13)) 77 (a 11)) 78 (a 12)) 79 (ptr p4 (Nat.add o5 (Nat.mul n8 1)))) 80 v9) 81 (iN (l10))) 82 (.bool (ltZ z11 (Int.ofNat l10)))) H3)) := by kernel_rfl
theorem mpB2_W (con : CallT) (a : TF) (H : CH) (K : KX) : codeW (sliceC 2 1 (blkC ((flatC (blkC (lpAt Tryz.prog 4 1))).getD 2 .skip))) Tryz.prog con a H K =
 (AsBool (a 82) fun b1 =>
 Cd b1 (
 AsSlc (a 11) fun p2 o3 l4 c5 =>
 AsCnt (a 12) fun n6 =>
 Must (ltN n6 l4) (
 Ld H p2 (Nat.add o3 (Nat.mul n6 1)) fun v7 =>
 AsSlc v7 fun p8 o9 l10 c11 =>
 AsCnt (a 13) fun n12 =>
 Must (ltN n12 l10) (
 Ld H p8 (Nat.add (Nat.add o9 (Nat.mul n12 4)) 0) fun v13 =>
 Ld H p8 (Nat.add (Nat.add o9 (Nat.mul n12 4)) 1) fun v14 =>
 Ld H p8 (Nat.add (Nat.add o9 (Nat.mul n12 4)) 2) fun v15 =>
 Ld H p8 (Nat.add (Nat.add o9 (Nat.mul n12 4)) 3) fun v16 =>
 AsPtr (a 14) fun p17 o18 =>
 St H p17 o18 [v13,v14,v15,v16] fun H19 =>
 K .normal (upd (upd (upd (upd (upd (upd (upd a 83 (a 11)) 84 (a 12)) 85 (ptr p2 (Nat.add o3 (Nat.mul n6 1)))) 86 v7) 87 (a 13)) 88 (ptr p8 (Nat.add o9 (Nat.mul n12 4)))) 89 (.agg ⟨[v13,v14,v15,v16]⟩)) H19))) (
 K .normal a H)) := by kernel_rfl
theorem mpB3_W (con : CallT) (a : TF) (H : CH) (K : KX) : codeW (dropC 3 (blkC ((flatC (blkC (lpAt Tryz.prog 4 1))).getD 2 .skip))) Tryz.prog con a H K =
 (AsSlc (a 9) fun p1 o2 l3 c4 =>
 AsCnt (a 12) fun n5 =>
 Must (ltN n5 l3) (
 Ld H p1 (Nat.add o2 (Nat.mul n5 1)) fun v6 =>
 AsSlc v6 fun p7 o8 l9 c10 =>
 AsCnt (a 13) fun n11 =>
 Must (ltN n11 l9) (
 Ld H p7 (Nat.add (Nat.add o8 (Nat.mul n11 2)) 0) fun v12 =>
 Ld H p7 (Nat.add (Nat.add o8 (Nat.mul n11 2)) 1) fun v13 =>
 Nw H (mkRow 41 0 [(.pointer none),(.pointer none)]) fun p14 H15 =>
 St H15 p14 0 [v12,v13] fun H16 =>
 Ld H16 p14 1 fun v17 =>
 IsNil .ptr v17 fun b18 =>
 Cd (notB b18) (
 Ld H16 p14 1 fun v19 =>
 Call1 Tryz.prog con 14 [v19] H16 fun v20 H21 =>
 AsPtr (a 14) fun p22 o23 =>
 Ld H21 p22 (Nat.add o23 1) fun v24 =>
 AsNat .u64 v20 fun n25 =>
 AsNat .u64 v24 fun n26 =>
 Cd (notB (eqN n25 n26)) (
 Ld H16 p22 (Nat.add o23 1) fun v27 =>
 Same v24 v27 (
 Ld H21 p22 (Nat.add o23 1) fun v28 =>
 Same v24 v28 (
 K .ret (upd (upd (upd (upd (upd (upd (upd (upd (upd (upd (upd (upd (upd (upd (upd (upd (upd (upd (upd (upd (upd (upd (upd (upd (upd (upd (upd (upd (upd (upd (upd (upd (upd (upd (upd (upd (upd (upd (upd (upd (upd (upd (upd (upd (upd (upd (upd (upd (upd (upd (upd (upd (upd (upd (upd (upd (upd (upd (upd (upd (upd (upd (upd (upd (upd (upd a 90 (a 9)) 91 (a 12)) 92 (ptr p1 (Nat.add o2 (Nat.mul n5 1)))) 93 v6) 94 (a 13)) 95 (ptr p7 (Nat.add o8 (Nat.mul n11 2)))) 96 (.agg ⟨[v12,v13]⟩)) 15 (ptr p14 0)) 97 (ptr p14 1)) 98 v17) 99 (.bool (notB b18))) 100 (.bool (notB b18))) 100 (.bool true)) 101 (ptr p14 1)) 100 (.bool true)) 102 v19) 100 (.bool true)) 103 v20) 100 (.bool true)) 104 (ptr p22 (Nat.add o23 1))) 100 (.bool true)) 105 v24) 100 (.bool true)) 106 (.bool (notB (eqN n25 n26)))) 107 (.bool (notB (eqN n25 n26)))) 108 (.bool (notB (eqN n25 n26)))) 108 (.bool true)) 109 unit) 108 (.bool true)) 110 unit) 108 (.bool true)) 111 unit) 108 (.bool true)) 112 unit) 112 unit) 113 unit) 112 unit) 114 unit) 112 unit) 115 unit) 112 unit) 116 unit) 112 unit) 117 unit) 112 unit) 118 unit) 112 unit) 119 unit) 119 unit) 120 unit) 119 unit) 121 unit) 119 unit) 122 unit) 119 unit) 123 unit) 119 unit) 124 unit) 119 unit) 125 unit) 112 unit) 126 unit) 108 (.bool true)) 127 unit) 128 (.bool true)) 4 (.bool false)) H21))) (
 Ld H21 p14 0 fun v29 =>
 IsNil .ptr v29 fun b30 =>
 Cd (notB b30) (
 Ld H21 p14 0 fun v31 =>
 Call1 Tryz.prog con 15 [v31] H21 fun v32 H33 =>
 AsPtr (a 14) fun p34 o35 =>
 Ld H33 p34 (Nat.add o35 0) fun v36 =>
 AsBool v32 fun b37 =>
 AsBool v36 fun b38 =>
 Cd (notB (eqB b37 b38)) (
 Ld H21 p34 (Nat.add o35 0) fun v39 =>
 Same v36 v39 (
 Ld H33 p34 (Nat.add o35 0) fun v40 =>
 Same v36 v40 (
 Ld H16 p22 (Nat.add o23 1) fun v41 =>
 Same v24 v41 (
 Ld H21 p22 (Nat.add o23 1) fun v42 =>
 Same v24 v42 (
 K .ret (upd (upd (upd (upd (upd (upd (upd (upd (upd (upd (upd (upd (upd (upd (upd (upd (upd (upd (upd (upd (upd (upd (upd (upd (upd (upd (upd (upd (upd (upd (upd (upd (upd (upd (upd (upd (upd (upd (upd (upd (upd (upd (upd (upd (upd (upd (upd (upd (upd (upd (upd (upd (upd (upd (upd (upd (upd (upd (upd (upd (upd (upd (upd (upd (upd (upd a 90 (a 9)) 91 (a 12)) 92 (ptr p1 (Nat.add o2 (Nat.mul n5 1)))) 93 v6) 94 (a 13)) 95 (ptr p7 (Nat.add o8 (Nat.mul n11 2)))) 96 (.agg ⟨[v12,v13]⟩)) 15 (ptr p14 0)) 97 (ptr p14 1)) 98 v17) 99 (.bool (notB b18))) 100 (.bool (notB b18))) 100 (.bool true)) 101 (ptr p14 1)) 100 (.bool true)) 102 v19) 100 (.bool true)) 103 v20) 100 (.bool true)) 104 (ptr p22 (Nat.add o23 1))) 100 (.bool true)) 105 v24) 100 (.bool true)) 106 (.bool (notB (eqN n25 n26)))) 107 (.bool (notB (eqN n25 n26)))) 108 (.bool (notB (eqN n25 n26)))) 108 (.bool false)) 109 (ptr p14 0)) 108 (.bool false)) 110 v29) 108 (.bool false)) 111 (.bool (notB b30))) 108 (.bool false)) 112 (.bool (notB b30))) 112 (.bool true)) 113 (ptr p14 0)) 112 (.bool true)) 114 v31) 112 (.bool true)) 115 v32) 112 (.bool true)) 116 (ptr p34 (Nat.add o35 0))) 112 (.bool true)) 117 v36) 112 (.bool true)) 118 (.bool (notB (eqB b37 b38)))) 112 (.bool true)) 119 (.bool (notB (eqB b37 b38)))) 119 (.bool true)) 120 unit) 119 (.bool true)) 121 unit) 119 (.bool true)) 122 unit) 119 (.bool true)) 123 unit) 119 (.bool true)) 124 unit) 119 (.bool true)) 125 unit) 112 (.bool true)) 126 (.bool true)) 108 (.bool false)) 127 (.bool true)) 128 (.bool true)) 4 (.bool false)) H33))))) (
 Ld H33 p14 0 fun v43 =>
 Call1 Tryz.prog con 16 [v43] H33 fun v44 H45 =>
 AsPtr (a 14) fun p46 o47 =>
 Ld H45 p46 (Nat.add o47 2) fun v48 =>
 AsInt .i64 v44 fun z49 =>
 AsInt .i64 v48 fun z50 =>
 Ld H33 p46 (Nat.add o47 2) fun v51 =>
 Same v48 v51 (
 Ld H45 p46 (Nat.add o47 2) fun v52 =>
 Same v48 v52 (
 Ld H21 p34 (Nat.add o35 0) fun v53 =>
 Same v36 v53 (
 Ld H33 p34 (Nat.add o35 0) fun v54 =>
 Same v36 v54 (
 Ld H16 p22 (Nat.add o23 1) fun v55 =>
 Same v24 v55 (
 Ld H21 p22 (Nat.add o23 1) fun v56 =>
 Same v24 v56 (
 Cd (notB (eqZ z49 z50)) (
 K .ret (upd (upd (upd (upd (upd (upd (upd (upd (upd (upd (upd (upd (upd (upd (upd (upd (upd (upd (upd (upd (upd (upd (upd (upd (upd (upd (upd (upd (upd (upd (upd (upd (upd (upd (upd (upd (upd (upd (upd (upd (upd (upd (upd (upd (upd (upd (upd (upd (upd (upd (upd (upd (upd (upd (upd (upd (upd (upd (upd (upd (upd (upd (upd (upd (upd (upd a 90 (a 9)) 91 (a 12)) 92 (ptr p1 (Nat.add o2 (Nat.mul n5 1)))) 93 v6) 94 (a 13)) 95 (ptr p7 (Nat.add o8 (Nat.mul n11 2)))) 96 (.agg ⟨[v12,v13]⟩)) 15 (ptr p14 0)) 97 (ptr p14 1)) 98 v17) 99 (.bool (notB b18))) 100 (.bool (notB b18))) 100 (.bool true)) 101 (ptr p14 1)) 100 (.bool true)) 102 v19) 100 (.bool true)) 103 v20) 100 (.bool true)) 104 (ptr p22 (Nat.add o23 1))) 100 (.bool true)) 105 v24) 100 (.bool true)) 106 (.bool (notB (eqN n25 n26)))) 107 (.bool (notB (eqN n25 n26)))) 108 (.bool (notB (eqN n25 n26)))) 108 (.bool false)) 109 (ptr p14 0)) 108 (.bool false)) 110 v29) 108 (.bool false)) 111 (.bool (notB b30))) 108 (.bool false)) 112 (.bool (notB b30))) 112 (.bool true)) 113 (ptr p14 0)) 112 (.bool true)) 114 v31) 112 (.bool true)) 115 v32) 112 (.bool true)) 116 (ptr p34 (Nat.add o35 0))) 112 (.bool true)) 117 v36) 112 (.bool true)) 118 (.bool (notB (eqB b37 b38)))) 112 (.bool true)) 119 (.bool (notB (eqB b37 b38)))) 119 (.bool false)) 120 (ptr p14 0)) 119 (.bool false)) 121 v43) 119 (.bool false)) 122 v44) 119 (.bool false)) 123 (ptr p46 (Nat.add o47 2))) 119 (.bool false)) 124 v48) 119 (.bool false)) 125 (.bool (notB (eqZ z49 z50)))) 112 (.bool true)) 126 (.bool (notB (eqZ z49 z50)))) 108 (.bool false)) 127 (.bool (notB (eqZ z49 z50)))) 128 (.bool (notB (eqZ z49 z50)))) 4 (.bool false)) H45) (
 K .normal (upd (upd (upd (upd (upd (upd (upd (upd (upd (upd (upd (upd (upd (upd (upd (upd (upd (upd (upd (upd (upd (upd (upd (upd (upd (upd (upd (upd (upd (upd (upd (upd (upd (upd (upd (upd (upd (upd (upd (upd (upd (upd (upd (upd (upd (upd (upd (upd (upd (upd (upd (upd (upd (upd (upd (upd (upd (upd (upd (upd (upd (upd (upd (upd (upd a 90 (a 9)) 91 (a 12)) 92 (ptr p1 (Nat.add o2 (Nat.mul n5 1)))) 93 v6) 94 (a 13)) 95 (ptr p7 (Nat.add o8 (Nat.mul n11 2)))) 96 (.agg ⟨[v12,v13]⟩)) 15 (ptr p14 0)) 97 (ptr p14 1)) 98 v17) 99 (.bool (notB b18))) 100 (.bool (notB b18))) 100 (.bool true)) 101 (ptr p14 1)) 100 (.bool true)) 102 v19) 100 (.bool true)) 103 v20) 100 (.bool true)) 104 (ptr p22 (Nat.add o23 1))) 100 (.bool true)) 105 v24) 100 (.bool true)) 106 (.bool (notB (eqN n25 n26)))) 107 (.bool (notB (eqN n25 n26)))) 108 (.bool (notB (eqN n25 n26)))) 108 (.bool false)) 109 (ptr p14 0)) 108 (.bool false)) 110 v29) 108 (.bool false)) 111 (.bool (notB b30))) 108 (.bool false)) 112 (.bool (notB b30))) 112 (.bool true)) 113 (ptr p14 0)) 112 (.bool true)) 114 v31) 112 (.bool true)) 115 v32) 112 (.bool true)) 116 (ptr p34 (Nat.add o35 0))) 112 (.bool true)) 117 v36) 112 (.bool true)) 118 (.bool (notB (eqB b37 b38)))) 112 (.bool true)) 119 (.bool (notB (eqB b37 b38)))) 119 (.bool false)) 120 (ptr p14 0)) 119 (.bool false)) 121 v43) 119 (.bool false)) 122 v44) 119 (.bool false)) 123 (ptr p46 (Nat.add o47 2))) 119 (.bool false)) 124 v48) 119 (.bool false)) 125 (.bool (notB (eqZ z49 z50)))) 112 (.bool true)) 126 (.bool (notB (eqZ z49 z50)))) 108 (.bool false)) 127 (.bool (notB (eqZ z49 z50)))) 128 (.bool (notB (eqZ z49 z50)))) H45))))))))) (
 Ld H16 p22 (Nat.add o23 1) fun v57 =>
 Same v24 v57 (
 Ld H21 p22 (Nat.add o23 1) fun v58 =>
 Same v24 v58 (
 K .normal (upd (upd (upd (upd (upd (upd (upd (upd (upd (upd (upd (upd (upd (upd (upd (upd (upd (upd (upd (upd (upd (upd (upd (upd (upd (upd (upd (upd (upd (upd (upd (upd (upd (upd (upd (upd (upd (upd (upd (upd (upd (upd (upd (upd (upd (upd (upd (upd (upd (upd (upd (upd (upd (upd (upd (upd (upd (upd (upd (upd (upd (upd (upd (upd (upd a 90 (a 9)) 91 (a 12)) 92 (ptr p1 (Nat.add o2 (Nat.mul n5 1)))) 93 v6) 94 (a 13)) 95 (ptr p7 (Nat.add o8 (Nat.mul n11 2)))) 96 (.agg ⟨[v12,v13]⟩)) 15 (ptr p14 0)) 97 (ptr p14 1)) 98 v17) 99 (.bool (notB b18))) 100 (.bool (notB b18))) 100 (.bool true)) 101 (ptr p14 1)) 100 (.bool true)) 102 v19) 100 (.bool true)) 103 v20) 100 (.bool true)) 104 (ptr p22 (Nat.add o23 1))) 100 (.bool true)) 105 v24) 100 (.bool true)) 106 (.bool (notB (eqN n25 n26)))) 107 (.bool (notB (eqN n25 n26)))) 108 (.bool (notB (eqN n25 n26)))) 108 (.bool false)) 109 (ptr p14 0)) 108 (.bool false)) 110 v29) 108 (.bool false)) 111 (.bool (notB b30))) 108 (.bool false)) 112 (.bool (notB b30))) 112 (.bool false)) 113 unit) 112 (.bool false)) 114 unit) 112 (.bool false)) 115 unit) 112 (.bool false)) 116 unit) 112 (.bool false)) 117 unit) 112 (.bool false)) 118 unit) 112 (.bool false)) 119 unit) 119 unit) 120 unit) 119 unit) 121 unit) 119 unit) 122 unit) 119 unit) 123 unit) 119 unit) 124 unit) 119 unit) 125 unit) 112 (.bool false)) 126 unit) 108 (.bool false)) 127 (.bool false)) 128 (.bool false)) H21))))) (
 Ld H16 p14 0 fun v59 =>
 IsNil .ptr v59 fun b60 =>
 Cd (notB b60) (
 Ld H16 p14 0 fun v61 =>
 Call1 Tryz.prog con 15 [v61] H16 fun v62 H63 =>
 AsPtr (a 14) fun p64 o65 =>
 Ld H63 p64 (Nat.add o65 0) fun v66 =>
 AsBool v62 fun b67 =>
 AsBool v66 fun b68 =>
 Cd (notB (eqB b67 b68)) (
 Ld H16 p64 (Nat.add o65 0) fun v69 =>
 Same v66 v69 (
 Ld H63 p64 (Nat.add o65 0) fun v70 =>
 Same v66 v70 (
 K .ret (upd (upd (upd (upd (upd (upd (upd (upd (upd (upd (upd (upd (upd (upd (upd (upd (upd (upd (upd (upd (upd (upd (upd (upd (upd (upd (upd (upd (upd (upd (upd (upd (upd (upd (upd (upd (upd (upd (upd (upd (upd (upd (upd (upd (upd (upd (upd (upd (upd (upd (upd (upd (upd (upd (upd (upd (upd (upd (upd (upd (upd (upd (upd (upd (upd (upd a 90 (a 9)) 91 (a 12)) 92 (ptr p1 (Nat.add o2 (Nat.mul n5 1)))) 93 v6) 94 (a 13)) 95 (ptr p7 (Nat.add o8 (Nat.mul n11 2)))) 96 (.agg ⟨[v12,v13]⟩)) 15 (ptr p14 0)) 97 (ptr p14 1)) 98 v17) 99 (.bool (notB b18))) 100 (.bool (notB b18))) 100 (.bool false)) 101 unit) 100 (.bool false)) 102 unit) 100 (.bool false)) 103 unit) 100 (.bool false)) 104 unit) 100 (.bool false)) 105 unit) 100 (.bool false)) 106 unit) 107 (.bool false)) 108 (.bool false)) 108 (.bool false)) 109 (ptr p14 0)) 108 (.bool false)) 110 v59) 108 (.bool false)) 111 (.bool (notB b60))) 108 (.bool false)) 112 (.bool (notB b60))) 112 (.bool true)) 113 (ptr p14 0)) 112 (.bool true)) 114 v61) 112 (.bool true)) 115 v62) 112 (.bool true)) 116 (ptr p64 (Nat.add o65 0))) 112 (.bool true)) 117 v66) 112 (.bool true)) 118 (.bool (notB (eqB b67 b68)))) 112 (.bool true)) 119 (.bool (notB (eqB b67 b68)))) 119 (.bool true)) 120 unit) 119 (.bool true)) 121 unit) 119 (.bool true)) 122 unit) 119 (.bool true)) 123 unit) 119 (.bool true)) 124 unit) 119 (.bool true)) 125 unit) 112 (.bool true)) 126 (.bool true)) 108 (.bool false)) 127 (.bool true)) 128 (.bool true)) 4 (.bool false)) H63))) (
 Ld H63 p14 0 fun v71 =>
 Call1 Tryz.prog con 16 [v71] H63 fun v72 H73 =>
 AsPtr (a 14) fun p74 o75 =>
 Ld H73 p74 (Nat.add o75 2) fun v76 =>
 AsInt .i64 v72 fun z77 =>
 AsInt .i64 v76 fun z78 =>
 Ld H63 p74 (Nat.add o75 2) fun v79 =>
 Same v76 v79 (
 Ld H73 p74 (Nat.add o75 2) fun v80 =>
 Same v76 v80 (
 Ld H16 p64 (Nat.add o65 0) fun v81 =>
 Same v66 v81 (
 Ld H63 p64 (Nat.add o65 0) fun v82 =>
 Same v66 v82 (
 Cd (notB (eqZ z77 z78)) (
 K .ret (upd (upd (upd (upd (upd (upd (upd (upd (upd (upd (upd (upd (upd (upd (upd (upd (upd (upd (upd (upd (upd (upd (upd (upd (upd (upd (upd (upd (upd (upd (upd (upd (upd (upd (upd (upd (upd (upd (upd (upd (upd (upd (upd (upd (upd (upd (upd (upd (upd (upd (upd (upd (upd (upd (upd (upd (upd (upd (upd (upd (upd (upd (upd (upd (upd (upd a 90 (a 9)) 91 (a 12)) 92 (ptr p1 (Nat.add o2 (Nat.mul n5 1)))) 93 v6) 94 (a 13)) 95 (ptr p7 (Nat.add o8 (Nat.mul n11 2)))) 96 (.agg ⟨[v12,v13]⟩)) 15 (ptr p14 0)) 97 (ptr p14 1)) 98 v17) 99 (.bool (notB b18))) 100 (.bool (notB b18))) 100 (.bool false)) 101 unit) 100 (.bool false)) 102 unit) 100 (.bool false)) 103 unit) 100 (.bool false)) 104 unit) 100 (.bool false)) 105 unit) 100 (.bool false)) 106 unit) 107 (.bool false)) 108 (.bool false)) 108 (.bool false)) 109 (ptr p14 0)) 108 (.bool false)) 110 v59) 108 (.bool false)) 111 (.bool (notB b60))) 108 (.bool false)) 112 (.bool (notB b60))) 112 (.bool true)) 113 (ptr p14 0)) 112 (.bool true)) 114 v61) 112 (.bool true)) 115 v62) 112 (.bool true)) 116 (ptr p64 (Nat.add o65 0))) 112 (.bool true)) 117 v66) 112 (.bool true)) 118 (.bool (notB (eqB b67 b68)))) 112 (.bool true)) 119 (.bool (notB (eqB b67 b68)))) 119 (.bool false)) 120 (ptr p14 0)) 119 (.bool false)) 121 v71) 119 (.bool false)) 122 v72) 119 (.bool false)) 123 (ptr p74 (Nat.add o75 2))) 119 (.bool false)) 124 v76) 119 (.bool false)) 125 (.bool (notB (eqZ z77 z78)))) 112 (.bool true)) 126 (.bool (notB (eqZ z77 z78)))) 108 (.bool false)) 127 (.bool (notB (eqZ z77 z78)))) 128 (.bool (notB (eqZ z77 z78)))) 4 (.bool false)) H73) (
 K .normal (upd (upd (upd (upd (upd (upd (upd (upd (upd (upd (upd (upd (upd (upd (upd (upd (upd (upd (upd (upd (upd (upd (upd (upd (upd (upd (upd (upd (upd (upd (upd (upd (upd (upd (upd (upd (upd (upd (upd (upd (upd (upd (upd (upd (upd (upd (upd (upd (upd (upd (upd (upd (upd (upd (upd (upd (upd (upd (upd (upd (upd (upd (upd (upd (upd a 90 (a 9)) 91 (a 12)) 92 (ptr p1 (Nat.add o2 (Nat.mul n5 1)))) 93 v6) 94 (a 13)) 95 (ptr p7 (Nat.add o8 (Nat.mul n11 2)))) 96 (.agg ⟨[v12,v13]⟩)) 15 (ptr p14 0)) 97 (ptr p14 1)) 98 v17) 99 (.bool (notB b18))) 100 (.bool (notB b18))) 100 (.bool false)) 101 unit) 100 (.bool false)) 102 unit) 100 (.bool false)) 103 unit) 100 (.bool false)) 104 unit) 100 (.bool false)) 105 unit) 100 (.bool false)) 106 unit) 107 (.bool false)) 108 (.bool false)) 108 (.bool false)) 109 (ptr p14 0)) 108 (.bool false)) 110 v59) 108 (.bool false)) 111 (.bool (notB b60))) 108 (.bool false)) 112 (.bool (notB b60))) 112 (.bool true)) 113 (ptr p14 0)) 112 (.bool true)) 114 v61) 112 (.bool true)) 115 v62) 112 (.bool true)) 116 (ptr p64 (Nat.add o65 0))) 112 (.bool true)) 117 v66) 112 (.bool true)) 118 (.bool (notB (eqB b67 b68)))) 112 (.bool true)) 119 (.bool (notB (eqB b67 b68)))) 119 (.bool false)) 120 (ptr p14 0)) 119 (.bool false)) 121 v71) 119 (.bool false)) 122 v72) 119 (.bool false)) 123 (ptr p74 (Nat.add o75 2))) 119 (.bool false)) 124 v76) 119 (.bool false)) 125 (.bool (notB (eqZ z77 z78)))) 112 (.bool true)) 126 (.bool (notB (eqZ z77 z78)))) 108 (.bool false)) 127 (.bool (notB (eqZ z77 z78)))) 128 (.bool (notB (eqZ z77 z78)))) H73))))))) (
 K .normal (upd (upd (upd (upd (upd (upd (upd (upd (upd (upd (upd (upd (upd (upd (upd (upd (upd (upd (upd (upd (upd (upd (upd (upd (upd (upd (upd (upd (upd (upd (upd (upd (upd (upd (upd (upd (upd (upd (upd (upd (upd (upd (upd (upd (upd (upd (upd (upd (upd (upd (upd (upd (upd (upd (upd (upd (upd (upd (upd (upd (upd (upd (upd (upd (upd a 90 (a 9)) 91 (a 12)) 92 (ptr p1 (Nat.add o2 (Nat.mul n5 1)))) 93 v6) 94 (a 13)) 95 (ptr p7 (Nat.add o8 (Nat.mul n11 2)))) 96 (.agg ⟨[v12,v13]⟩)) 15 (ptr p14 0)) 97 (ptr p14 1)) 98 v17) 99 (.bool (notB b18))) 100 (.bool (notB b18))) 100 (.bool false)) 101 unit) 100 (.bool false)) 102 unit) 100 (.bool false)) 103 unit) 100 (.bool false)) 104 unit) 100 (.bool false)) 105 unit) 100 (.bool false)) 106 unit) 107 (.bool false)) 108 (.bool false)) 108 (.bool false)) 109 (ptr p14 0)) 108 (.bool false)) 110 v59) 108 (.bool false)) 111 (.bool (notB b60))) 108 (.bool false)) 112 (.bool (notB b60))) 112 (.bool false)) 113 unit) 112 (.bool false)) 114 unit) 112 (.bool false)) 115 unit) 112 (.bool false)) 116 unit) 112 (.bool false)) 117 unit) 112 (.bool false)) 118 unit) 112 (.bool false)) 119 unit) 119 unit) 120 unit) 119 unit) 121 unit) 119 unit) 122 unit) 119 unit) 123 unit) 119 unit) 124 unit) 119 unit) 125 unit) 112 (.bool false)) 126 unit) 108 (.bool false)) 127 (.bool false)) 128 (.bool false)) H16))))) := by kernel_rfl
theorem mpBZ_W (con : CallT) (a : TF) (H : CH) (K : KX) : codeW (dropC 3 (blkC (lpAt Tryz.prog 4 1))) Tryz.prog con a H K =
 (AsInt .i64 (a 13) fun z1 =>
 InR (Int.add z1 (Int.ofNat 1)) (
 K .normal (upd (upd (upd a 73 (a 13)) 74 (i64 (Int.add z1 (Int.ofNat 1)))) 13 (i64 (Int.add z1 (Int.ofNat 1)))) H)) := by kernel_rfl
end Go.Proofs.YtnkbmaccgifeoaaGreat

