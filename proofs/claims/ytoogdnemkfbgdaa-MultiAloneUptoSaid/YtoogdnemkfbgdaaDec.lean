/- What some functions' texts ask for, step by step, each checked by the kernel. No conditions. -/
import Derived.Test.YtoogdnemkfbgdaaProg
import Derived.Test.YtoogdnemkfbgdaaCmE
set_option linter.unusedVariables false
set_option linter.unusedSimpArgs false

/- What some functions' texts ask for,step by step,each checked by the kernel. No conditions. -/
set_option linter.unusedVariables false
set_option maxRecDepth 100000
namespace Go.Proofs.Ytoogdnemkfbgdaa
open Go Go.CM
theorem arenaNew_W (con : CallT) (z : Int) (b : Bool) (H : CH) (K : KP) : funW Try.prog con 15 [i64 z,.bool b] H K =
 (Cd (ltZ z (Int.ofNat 128)) (
 K (.tuple ⟨[(.pointer none),(iN (2))]⟩) H) (
 Cd (ltZ (Int.ofNat 4194304) z) (
 K (.tuple ⟨[(.pointer none),(iN (2))]⟩) H) (
 Cd b (
 MkS Try.prog H 87 (i64 z) (i64 z) fun v1 H2 =>
 Sc v1 (Nw H2 (mkRow 94 0 [v1,(iN (0))]) fun p3 H4 =>
 Call1 Try.prog con 24 [(ptr p3 1),(iN (1))] H4 fun v5 H6 =>
 Nw H6 (mkRow 100 0 [(.iface 86 (ptr p3 0)),(.bool true),(snil)]) fun p7 H8 =>
 K (.tuple ⟨[(ptr p7 0),(iN (0))]⟩) H8)) (
 MkS Try.prog H 57 (i64 z) (i64 z) fun v9 H10 =>
 Sc v9 (Nw H10 (mkRow 103 0 [v9,(iN (1))]) fun p11 H12 =>
 Nw H12 (mkRow 100 0 [(.iface 101 (ptr p11 0)),(.bool false),(snil)]) fun p13 H14 =>
 K (.tuple ⟨[(ptr p13 0),(iN (0))]⟩) H14))))) := by kernel_rfl
theorem memView_W (con : CallT) (m : Nat) (z : Int) (H : CH) (K : KP) : funW Try.prog con 6 [ptr m 0,i64 z] H K =
 (Nw H (mkRow 74 0 [(ptr m 0),(i64 z),(iN (0))]) fun p1 H2 =>
 K (ptr p1 0) H2) := by kernel_rfl
theorem viewLoad_W (con : CallT) (p a : Nat) (H : CH) (K : KP) : funW Try.prog con 58 [ptr p 0,u64 (a)] H K =
 (Ld H p 0 fun v1 =>
 Call1 Try.prog con 23 [v1,(u64 (a))] H fun v2 H3 =>
 Sc v2 (Call1 Try.prog con 32 [(ptr p 0),(.agg ⟨[(iN (0)),(u8 (1)),(u64 (a)),(u64 (0)),(u64 (0)),(snil),v2,(.bool false)]⟩)] H3 fun v4 H5 =>
 K v2 H5)) := by kernel_rfl
theorem memPeek_W (con : CallT) (m a : Nat) (H : CH) (K : KP) : funW Try.prog con 23 [ptr m 0,u64 (a)] H K =
 (Call1 Try.prog con 30 [(ptr m 0),(u64 (a))] H fun v1 H2 =>
 AsBool v1 fun b3 =>
 Cd (notB b3) (
 K (u64 (0)) H2) (
 Ld H2 m 0 fun v4 =>
 Mth Try.prog con v4 "shutter/arena.load" [(u64 (a))] H2 fun v5 H6 =>
 K v5 H6)) := by kernel_rfl
theorem memHas_W (con : CallT) (m a : Nat) (H : CH) (K : KP) : funW Try.prog con 30 [ptr m 0,u64 (a)] H K =
 (Ld H m 0 fun v1 =>
 Mth Try.prog con v1 "shutter/arena.size" [] H fun v2 H3 =>
 AsInt .i64 v2 fun z4 =>
 Must (cvOk .i64 z4) (
 K (.bool (ltN a (wrapN .u64 z4))) H3)) := by kernel_rfl
theorem viewNote_W (con : CallT) (p : Nat) (c0 c1 c2 c3 c4 c5 c6 c7 : Value) (H : CH) (K : KP) : funW Try.prog con 32 [ptr p 0,.agg ⟨[c0,c1,c2,c3,c4,c5,c6,c7]⟩] H K =
 (Nw H (mkRow 118 0 [c0,c1,c2,c3,c4,c5,c6,c7]) fun p1 H2 =>
 Ld H2 p 2 fun v3 =>
 AsInt .i64 v3 fun z4 =>
 InR (Int.add z4 (Int.ofNat 1)) (
 St H2 p 2 [(i64 (Int.add z4 (Int.ofNat 1)))] fun H5 =>
 Ld H5 p 0 fun v6 =>
 NotNil Try.prog v6 (
 AsPtr v6 fun p7 o8 =>
 Ld H5 p7 (Nat.add o8 1) fun v9 =>
 AsBool v9 fun b10 =>
 Cd (notB b10) (
 Ld H5 p 1 fun v11 =>
 Sc v11 (St H5 p1 0 [v11] fun H12 =>
 Ld H12 p 0 fun v13 =>
 Ld H12 p 0 fun v14 =>
 NotNil Try.prog v14 (
 AsPtr v14 fun p15 o16 =>
 Ld H12 p15 (Nat.add o16 2) fun v17 =>
 Ld H12 p1 0 fun v18 =>
 Ld H12 p1 1 fun v19 =>
 Ld H12 p1 2 fun v20 =>
 Ld H12 p1 3 fun v21 =>
 Ld H12 p1 4 fun v22 =>
 Ld H12 p1 5 fun v23 =>
 Ld H12 p1 6 fun v24 =>
 Ld H12 p1 7 fun v25 =>
 Nw H12 (mkRow 118 0 [v18,v19,v20,v21,v22,v23,v24,v25]) fun p26 H27 =>
 App Try.prog 98 98 H27 v17 (.slice (some ⟨p26,0,none⟩) 1 1) fun v28 H29 =>
 NotNil Try.prog v13 (
 AsPtr v13 fun p30 o31 =>
 Sc v28 (St H29 p30 (Nat.add o31 2) [v28] fun H32 =>
 Ld H12 p15 (Nat.add o16 2) fun v33 =>
 Same v17 v33 (
 Ld H27 p15 (Nat.add o16 2) fun v34 =>
 Same v17 v34 (
 Ld H12 p 0 fun v35 =>
 Same v14 v35 (
 Ld H27 p 0 fun v36 =>
 Same v14 v36 (
 Ld H12 p 0 fun v37 =>
 Same v13 v37 (
 Ld H27 p 0 fun v38 =>
 Same v13 v38 (
 Ld H29 p 0 fun v39 =>
 Same v13 v39 (
 K unit H32)))))))))))) (
 K unit H5)))) := by kernel_rfl
theorem viewCas_W (con : CallT) (p a x y : Nat) (H : CH) (K : KP) : funW Try.prog con 69 [ptr p 0,u64 (a),u64 (x),u64 (y)] H K =
 (Ld H p 0 fun v1 =>
 Call1 Try.prog con 30 [v1,(u64 (a))] H fun v2 H3 =>
 AsWant v2 (False) fun b4 =>
 Cd b4 (
 Ld H3 p 0 fun v5 =>
 NotNil Try.prog v5 (
 AsPtr v5 fun p6 o7 =>
 Ld H3 p6 (Nat.add o7 0) fun v8 =>
 Mth Try.prog con v8 "shutter/arena.cas" [(u64 (a)), (u64 (x)), (u64 (y))] H3 fun v9 H10 =>
 Sc v9 (Call1 Try.prog con 32 [(ptr p 0),(.agg ⟨[(iN (0)),(u8 (3)),(u64 (a)),(u64 (x)),(u64 (y)),(snil),(u64 (0)),v9]⟩)] H10 fun v11 H12 =>
 K v9 H12))) (
 Call1 Try.prog con 32 [(ptr p 0),(.agg ⟨[(iN (0)),(u8 (3)),(u64 (a)),(u64 (x)),(u64 (y)),(snil),(u64 (0)),(.bool false)]⟩)] H3 fun v13 H14 =>
 K (.bool false) H14)) := by kernel_rfl
theorem viewAlloc_W (con : CallT) (p : Nat) (v : Value) (H : CH) (K : KP) : funW Try.prog con 26 [ptr p 0,v] H K =
 (AsLen v fun l1 =>
 Cd (ltZ (Int.ofNat 0) (Int.ofNat l1)) (
 Ld H p 0 fun v2 =>
 NotNil Try.prog v2 (
 AsPtr v2 fun p3 o4 =>
 Ld H p3 (Nat.add o4 0) fun v5 =>
 Mth Try.prog con v5 "shutter/arena.alloc" [v] H fun v6 H7 =>
 Call1 Try.prog con 33 [v] H7 fun v8 H9 =>
 Sc v6 (Sc v8 (Call1 Try.prog con 32 [(ptr p 0),(.agg ⟨[(iN (0)),(u8 (5)),v6,(u64 (0)),(u64 (0)),v8,(u64 (0)),(.bool false)]⟩)] H9 fun v10 H11 =>
 K v6 H11)))) (
 Call1 Try.prog con 33 [v] H fun v12 H13 =>
 Sc v12 (Call1 Try.prog con 32 [(ptr p 0),(.agg ⟨[(iN (0)),(u8 (5)),(u64 (0)),(u64 (0)),(u64 (0)),v12,(u64 (0)),(.bool false)]⟩)] H13 fun v14 H15 =>
 K (u64 (0)) H15))) := by kernel_rfl
theorem plainAlloc_W (con : CallT) (p : Nat) (v : Value) (H : CH) (K : KP) : funW Try.prog con 107 [ptr p 0,v] H K =
 (AsLen v fun l1 =>
 Ld H p 0 fun v2 =>
 AsLen v2 fun l3 =>
 Ld H p 1 fun v4 =>
 AsInt .i64 v4 fun z5 =>
 InR (Int.sub (Int.ofNat l3) z5) (
 Cd (ltZ (Int.sub (Int.ofNat l3) z5) (Int.ofNat l1)) (
 K (u64 (0)) H) (
 Ld H p 1 fun v6 =>
 Ld H p 1 fun v7 =>
 Ld H p 0 fun v8 =>
 Slc Try.prog H 57 v8 (some v6) none none fun v9 =>
 Cpy Try.prog 57 H v9 v fun v10 H11 =>
 AsInt .i64 v7 fun z12 =>
 AsInt .i64 v10 fun z13 =>
 InR (Int.add z12 z13) (
 St H11 p 1 [(i64 (Int.add z12 z13))] fun H14 =>
 Ld H p 1 fun v15 =>
 Same v7 v15 (
 Ld H11 p 1 fun v16 =>
 Same v7 v16 (
 AsInt .i64 v6 fun z17 =>
 Must (cvOk .i64 z17) (
 K (u64 ((wrapN .u64 z17))) H14))))))) := by kernel_rfl
theorem plainCas_W (con : CallT) (p a x y : Nat) (H : CH) (K : KP) : funW Try.prog con 108 [ptr p 0,u64 (a),u64 (x),u64 (y)] H K =
 (Ld H p 0 fun v1 =>
 AsSlc v1 fun p2 o3 l4 c5 =>
 Must (ltN a l4) (
 Ld H p2 (Nat.add o3 (Nat.mul a 1)) fun v6 =>
 AsNat .u64 v6 fun n7 =>
 Cd (notB (eqN n7 x)) (
 K (.bool false) H) (
 Ld H p 0 fun v8 =>
 AsSlc v8 fun p9 o10 l11 c12 =>
 Must (ltN a l11) (
 St H p9 (Nat.add o10 (Nat.mul a 1)) [(u64 (y))] fun H13 =>
 K (.bool true) H13)))) := by kernel_rfl
theorem plainLoad_W (con : CallT) (p a : Nat) (H : CH) (K : KP) : funW Try.prog con 110 [ptr p 0,u64 (a)] H K =
 (Ld H p 0 fun v1 =>
 AsSlc v1 fun p2 o3 l4 c5 =>
 Must (ltN a l4) (
 Ld H p2 (Nat.add o3 (Nat.mul a 1)) fun v6 =>
 K v6 H)) := by kernel_rfl
theorem plainSize_W (con : CallT) (p : Nat) (H : CH) (K : KP) : funW Try.prog con 112 [ptr p 0] H K =
 (Ld H p 0 fun v1 =>
 AsLen v1 fun l2 =>
 K (iN (l2)) H) := by kernel_rfl
theorem cloneN_W (con : CallT) (v : Value) (H : CH) (K : KP) : funW Try.prog con 33 [v] H K =
 (IsNil .slc v fun b1 =>
 Cd b1 (
 K (snil) H) (
 Nw H (mkRow 22 0 []) fun p2 H3 =>
 App Try.prog 57 57 H3 (.slice (some ⟨p2,0,none⟩) 0 0) v fun v4 H5 =>
 K v4 H5)) := by kernel_rfl
theorem refNew_W (con : CallT) (z : Int) (b : Bool) (H : CH) (K : KP) : funW Try.prog con 16 [i64 z,.bool b] H K =
 (Cd (ltZ z (Int.ofNat 128)) (
 K (.tuple ⟨[(.pointer none),(iN (2))]⟩) H) (
 Cd (ltZ (Int.ofNat 4194304) z) (
 K (.tuple ⟨[(.pointer none),(iN (2))]⟩) H) (
 MkS Try.prog H 57 (i64 z) (i64 z) fun v1 H2 =>
 Sc v1 (Nw H2 (mkRow 105 0 [v1,(iN (1)),(snil),(.bool b)]) fun p3 H4 =>
 K (.tuple ⟨[(ptr p3 0),(iN (0))]⟩) H4)))) := by kernel_rfl
theorem refNote_W (con : CallT) (p : Nat) (c0 c1 c2 c3 c4 c5 c6 c7 : Value) (H : CH) (K : KP) : funW Try.prog con 35 [ptr p 0,.agg ⟨[c0,c1,c2,c3,c4,c5,c6,c7]⟩] H K =
 (Nw H (mkRow 118 0 [c0,c1,c2,c3,c4,c5,c6,c7]) fun p1 H2 =>
 Ld H2 p 3 fun v3 =>
 AsBool v3 fun b4 =>
 Cd (notB b4) (
 Ld H2 p 2 fun v5 =>
 Ld H2 p1 0 fun v6 =>
 Ld H2 p1 1 fun v7 =>
 Ld H2 p1 2 fun v8 =>
 Ld H2 p1 3 fun v9 =>
 Ld H2 p1 4 fun v10 =>
 Ld H2 p1 5 fun v11 =>
 Ld H2 p1 6 fun v12 =>
 Ld H2 p1 7 fun v13 =>
 Nw H2 (mkRow 118 0 [v6,v7,v8,v9,v10,v11,v12,v13]) fun p14 H15 =>
 App Try.prog 98 98 H15 v5 (.slice (some ⟨p14,0,none⟩) 1 1) fun v16 H17 =>
 Sc v16 (St H17 p 2 [v16] fun H18 =>
 Ld H2 p 2 fun v19 =>
 Same v5 v19 (
 Ld H15 p 2 fun v20 =>
 Same v5 v20 (
 K unit H18)))) (
 K unit H2)) := by kernel_rfl
theorem refAlloc_W (con : CallT) (p : Nat) (t : Int) (v : Value) (H : CH) (K : KP) : funW Try.prog con 28 [ptr p 0,i64 t,v] H K =
 (AsLen v fun l1 =>
 Cd (ltZ (Int.ofNat 0) (Int.ofNat l1)) (
 AsLen v fun l2 =>
 Call1 Try.prog con 34 [(ptr p 0)] H fun v3 H4 =>
 AsInt .i64 v3 fun z5 =>
 Cd (leZ (Int.ofNat l2) z5) (
 Ld H4 p 1 fun v6 =>
 Ld H4 p 1 fun v7 =>
 AsLen v fun l8 =>
 AsInt .i64 v7 fun z9 =>
 InR (Int.add z9 (Int.ofNat l8)) (
 St H4 p 1 [(i64 (Int.add z9 (Int.ofNat l8)))] fun H10 =>
 LoopC Try.prog con (lpAt Try.prog 28 0) (upd (upd (upd (upd (upd (upd (upd (upd (upd (upd (upd (upd (upd (upd (upd (upd (upd (upd (upd (upd (upd (upd (upd (upd (upd (upd (upd (upd (upd (upd (upd (upd (upd (upd (upd (upd (upd (fun _ => undV) 2 v) 1 (i64 t)) 0 (ptr p 0)) 6 (u64 (0))) 10 (ptr p 0)) 11 (.bool false)) 7 (iN (0))) 12 v) 13 (iN (l1))) 14 (.bool (ltZ (Int.ofNat 0) (Int.ofNat l1)))) 15 (.bool (ltZ (Int.ofNat 0) (Int.ofNat l1)))) 15 (.bool true)) 16 v) 15 (.bool true)) 17 (iN (l2))) 15 (.bool true)) 18 (ptr p 0)) 15 (.bool true)) 19 v3) 15 (.bool true)) 20 (.bool (leZ (Int.ofNat l2) z5))) 21 (.bool (leZ (Int.ofNat l2) z5))) 22 (ptr p 0)) 23 (ptr p 0)) 24 (ptr p 1)) 25 v6) 7 v6) 26 (ptr p 0)) 27 (ptr p 0)) 28 (ptr p 1)) 29 v7) 30 v) 31 (iN (l8))) 32 (i64 (Int.add z9 (Int.ofNat l8)))) 33 (ptr p 0)) 34 (ptr p 1)) 8 (iN (0))) H10 (fun e => ceP e
 (fun a11 H12 =>
 App Try.prog 57 57 H12 (snil) (a11 2) fun v14 H15 =>
 AsInt .i64 (a11 7) fun z16 =>
 Must (cvOk .i64 z16) (
 Sc (a11 1) (Sc v14 (Call1 Try.prog con 35 [(a11 0),(.agg ⟨[(a11 1),(u8 (5)),(u64 ((wrapN .u64 z16))),(u64 (0)),(u64 (0)),v14,(u64 (0)),(.bool false)]⟩)] H15 fun v17 H18 =>
 AsInt .i64 (a11 7) fun z19 =>
 Must (cvOk .i64 z19) (
 K (u64 ((wrapN .u64 z19))) H18)))))
 (fun i13 => fun a11 H12 =>
 Cd (eqN i13 0) (
 App Try.prog 57 57 H12 (snil) (a11 2) fun v20 H21 =>
 AsInt .i64 (a11 7) fun z22 =>
 Must (cvOk .i64 z22) (
 Sc (a11 1) (Sc v20 (Call1 Try.prog con 35 [(a11 0),(.agg ⟨[(a11 1),(u8 (5)),(u64 ((wrapN .u64 z22))),(u64 (0)),(u64 (0)),v20,(u64 (0)),(.bool false)]⟩)] H21 fun v23 H24 =>
 AsInt .i64 (a11 7) fun z25 =>
 Must (cvOk .i64 z25) (
 K (u64 ((wrapN .u64 z25))) H24))))) (
 False))
 (fun a11 H12 =>
 K (a11 6) H12)))) (
 App Try.prog 57 57 H4 (snil) v fun v26 H27 =>
 Must (cvOk .i64 (Int.ofNat 0)) (
 Sc v26 (Call1 Try.prog con 35 [(ptr p 0),(.agg ⟨[(i64 t),(u8 (5)),(u64 ((wrapN .u64 (Int.ofNat 0)))),(u64 (0)),(u64 (0)),v26,(u64 (0)),(.bool false)]⟩)] H27 fun v28 H29 =>
 Must (cvOk .i64 (Int.ofNat 0)) (
 K (u64 ((wrapN .u64 (Int.ofNat 0)))) H29))))) (
 App Try.prog 57 57 H (snil) v fun v30 H31 =>
 Must (cvOk .i64 (Int.ofNat 0)) (
 Sc v30 (Call1 Try.prog con 35 [(ptr p 0),(.agg ⟨[(i64 t),(u8 (5)),(u64 ((wrapN .u64 (Int.ofNat 0)))),(u64 (0)),(u64 (0)),v30,(u64 (0)),(.bool false)]⟩)] H31 fun v32 H33 =>
 Must (cvOk .i64 (Int.ofNat 0)) (
 K (u64 ((wrapN .u64 (Int.ofNat 0)))) H33))))) := by kernel_rfl
theorem refLeft_W (con : CallT) (p : Nat) (H : CH) (K : KP) : funW Try.prog con 34 [ptr p 0] H K =
 (Ld H p 0 fun v1 =>
 AsLen v1 fun l2 =>
 Ld H p 1 fun v3 =>
 AsInt .i64 v3 fun z4 =>
 InR (Int.sub (Int.ofNat l2) z4) (
 K (i64 (Int.sub (Int.ofNat l2) z4)) H)) := by kernel_rfl
end Go.Proofs.Ytoogdnemkfbgdaa

/- What some functions' texts ask for,step by step,each checked by the kernel. No conditions. -/
set_option linter.unusedVariables false
set_option maxRecDepth 100000
namespace Go.Proofs.Ytoogdnemkfbgdaa
open Go Go.CM
theorem refAllocL_W (con : CallT) (a : TF) (H : CH) (K : KX) : codeW (lpAt Try.prog 28 0) Try.prog con a H K =
 (AsLen (a 2) fun l1 =>
 AsInt .i64 (a 8) fun z2 =>
 Cd (ltZ z2 (Int.ofNat l1)) (
 NotNil Try.prog (a 0) (
 AsPtr (a 0) fun p3 o4 =>
 Ld H p3 (Nat.add o4 0) fun v5 =>
 AsInt .i64 (a 7) fun z6 =>
 AsInt .i64 (a 8) fun z7 =>
 InR (Int.add z6 z7) (
 AsSlc (a 2) fun p8 o9 l10 c11 =>
 AsCnt (a 8) fun n12 =>
 Must (ltN n12 l10) (
 Ld H p8 (Nat.add o9 (Nat.mul n12 1)) fun v13 =>
 AsSlc v5 fun p14 o15 l16 c17 =>
 AsCnt (i64 (Int.add z6 z7)) fun n18 =>
 Must (ltN n18 l16) (
 Sc v13 (St H p14 (Nat.add o15 (Nat.mul n18 1)) [v13] fun H19 =>
 AsInt .i64 (a 8) fun z20 =>
 InR (Int.add z20 (Int.ofNat 1)) (
 K .normal (upd (upd (upd (upd (upd (upd (upd (upd (upd (upd (upd (upd (upd (upd (upd (upd (upd (upd (upd a 35 (a 8)) 36 (a 2)) 37 (iN (l1))) 38 (.bool (ltZ z2 (Int.ofNat l1)))) 41 (a 0)) 42 (a 0)) 43 (ptr p3 (Nat.add o4 0))) 44 v5) 45 (a 7)) 46 (a 8)) 47 (i64 (Int.add z6 z7))) 48 (a 2)) 49 (a 8)) 50 (ptr p8 (Nat.add o9 (Nat.mul n12 1)))) 51 v13) 52 (ptr p14 (Nat.add o15 (Nat.mul n18 1)))) 39 (a 8)) 40 (i64 (Int.add z20 (Int.ofNat 1)))) 8 (i64 (Int.add z20 (Int.ofNat 1)))) H19))))))) (
 K (.exit 0) (upd (upd (upd (upd a 35 (a 8)) 36 (a 2)) 37 (iN (l1))) 38 (.bool (ltZ z2 (Int.ofNat l1)))) H)) := by kernel_rfl
end Go.Proofs.Ytoogdnemkfbgdaa

/- What some functions' texts ask for,step by step,each checked by the kernel. No conditions. -/
set_option linter.unusedVariables false
set_option maxRecDepth 100000
namespace Go.Proofs.Ytoogdnemkfbgdaa
open Go Go.CM
end Go.Proofs.Ytoogdnemkfbgdaa

/- What some functions' texts ask for,step by step,each checked by the kernel. No conditions. -/
set_option linter.unusedVariables false
set_option maxRecDepth 100000
namespace Go.Proofs.Ytoogdnemkfbgdaa
open Go Go.CM
theorem mWord_W (con : CallT) (x : Nat) (H : CH) (K : KP) : funW Try.prog con 25 [u64 x] H K =
 (Cd (leN 4611686018427387904 x) (
 K (.tuple ⟨[(u64 (0)),(iN (2))]⟩) H) (
 K (.tuple ⟨[(u64 ((Nat.mod (Nat.mul 4 x) 18446744073709551616))),(iN (0))]⟩) H)) := by kernel_rfl
theorem rWord29_W (con : CallT) (x : Nat) (H : CH) (K : KP) : funW Try.prog con 27 [u64 x] H K =
 (Cd (leN 4611686018427387904 x) (
 K (.tuple ⟨[(u64 (0)),(iN (2))]⟩) H) (
 K (.tuple ⟨[(u64 ((Nat.mod (Nat.mul 4 x) 18446744073709551616))),(iN (0))]⟩) H)) := by kernel_rfl
theorem mMake_W (con : CallT) (p : Nat) (v : Value) (H : CH) (K : KP) : funW Try.prog con 17 [ptr p 0,v] H K =
 (AsLen v fun l1 =>
 LoopC Try.prog con (lpAt Try.prog 17 0) (upd (upd (upd (upd (upd (upd (upd (upd (upd (upd (fun _ => undV) 1 v) 0 (ptr p 0)) 4 (u64 (0))) 5 (iN (0))) 12 (ptr p 0)) 13 (.bool false)) 6 (snil)) 14 v) 15 (iN (l1))) 16 (iN (0))) H (fun e => ceP e
 (fun a2 H3 =>
 Call1 Try.prog con 26 [(a2 0),(a2 6)] H3 fun v5 H6 =>
 AsNat .u64 v5 fun n7 =>
 Cd (eqN n7 0) (
 K (.tuple ⟨[(u64 (0)),(iN (30))]⟩) H6) (
 K (.tuple ⟨[v5,(iN (0))]⟩) H6))
 (fun i4 => fun a2 H3 =>
 Cd (eqN i4 0) (
 Call1 Try.prog con 26 [(a2 0),(a2 6)] H3 fun v8 H9 =>
 AsNat .u64 v8 fun n10 =>
 Cd (eqN n10 0) (
 K (.tuple ⟨[(u64 (0)),(iN (30))]⟩) H9) (
 K (.tuple ⟨[v8,(iN (0))]⟩) H9)) (
 False))
 (fun a2 H3 =>
 K (.tuple ⟨[(a2 4),(a2 5)]⟩) H3))) := by kernel_rfl
theorem mMakeL_W (con : CallT) (a : TF) (H : CH) (K : KX) : codeW (lpAt Try.prog 17 0) Try.prog con a H K =
 (AsInt .i64 (a 16) fun z1 =>
 AsInt .i64 (a 15) fun z2 =>
 Cd (ltZ z1 z2) (
 AsSlc (a 14) fun p3 o4 l5 c6 =>
 AsCnt (a 16) fun n7 =>
 Must (ltN n7 l5) (
 Ld H p3 (Nat.add o4 (Nat.mul n7 1)) fun v8 =>
 Call1 Try.prog con 25 [v8] H fun v9 H10 =>
 AsTup v9 fun l11 =>
 Nth l11 0 fun v12 =>
 AsTup v9 fun l13 =>
 Nth l13 1 fun v14 =>
 AsInt .i64 v14 fun z15 =>
 Cd (notB (eqZ z15 (Int.ofNat 0))) (
 K .ret (upd (upd (upd (upd (upd (upd (upd (upd (upd (upd (upd (upd (upd (upd (upd (upd a 17 (.bool (ltZ z1 z2))) 18 (ptr p3 (Nat.add o4 (Nat.mul n7 1)))) 19 v8) 8 v8) 21 v8) 22 v9) 20 v9) 23 v12) 24 v14) 9 v12) 10 v14) 25 v14) 26 (.bool (notB (eqZ z15 (Int.ofNat 0))))) 27 v14) 4 (u64 (0))) 5 v14) H10) (
 Sc v12 (Nw H10 (mkRow 22 0 [v12]) fun p16 H17 =>
 App Try.prog 57 57 H17 (a 6) (.slice (some ⟨p16,0,none⟩) 1 1) fun v18 H19 =>
 AsInt .i64 (a 16) fun z20 =>
 InR (Int.add z20 (Int.ofNat 1)) (
 K .normal (upd (upd (upd (upd (upd (upd (upd (upd (upd (upd (upd (upd (upd (upd (upd (upd (upd (upd (upd (upd a 17 (.bool (ltZ z1 z2))) 18 (ptr p3 (Nat.add o4 (Nat.mul n7 1)))) 19 v8) 8 v8) 21 v8) 22 v9) 20 v9) 23 v12) 24 v14) 9 v12) 10 v14) 25 v14) 26 (.bool (notB (eqZ z15 (Int.ofNat 0))))) 28 (a 6)) 29 v12) 30 (.slice (some ⟨p16,0,none⟩) 1 1)) 31 v18) 6 v18) 32 (i64 (Int.add z20 (Int.ofNat 1)))) 16 (i64 (Int.add z20 (Int.ofNat 1)))) H19))))) (
 K (.exit 0) (upd a 17 (.bool (ltZ z1 z2))) H)) := by kernel_rfl
theorem rMake29_W (con : CallT) (p : Nat) (t : Int) (v : Value) (H : CH) (K : KP) : funW Try.prog con 18 [ptr p 0,i64 t,v] H K =
 (LoopC Try.prog con (lpAt Try.prog 18 0) (upd (upd (upd (upd (upd (upd (upd (upd (upd (fun _ => undV) 2 v) 1 (i64 t)) 0 (ptr p 0)) 6 (u64 (0))) 7 (iN (0))) 13 (ptr p 0)) 14 (.bool false)) 8 (snil)) 9 (iN (0))) H (fun e => ceP e
 (fun a1 H2 =>
 Call1 Try.prog con 28 [(a1 0),(a1 1),(a1 8)] H2 fun v4 H5 =>
 AsNat .u64 v4 fun n6 =>
 Cd (eqN n6 0) (
 K (.tuple ⟨[(u64 (0)),(iN (30))]⟩) H5) (
 K (.tuple ⟨[v4,(iN (0))]⟩) H5))
 (fun i3 => fun a1 H2 =>
 Cd (eqN i3 0) (
 Call1 Try.prog con 28 [(a1 0),(a1 1),(a1 8)] H2 fun v7 H8 =>
 AsNat .u64 v7 fun n9 =>
 Cd (eqN n9 0) (
 K (.tuple ⟨[(u64 (0)),(iN (30))]⟩) H8) (
 K (.tuple ⟨[v7,(iN (0))]⟩) H8)) (
 False))
 (fun a1 H2 =>
 K (.tuple ⟨[(a1 6),(a1 7)]⟩) H2))) := by kernel_rfl
theorem rMake29L_W (con : CallT) (a : TF) (H : CH) (K : KX) : codeW (lpAt Try.prog 18 0) Try.prog con a H K =
 (AsLen (a 2) fun l1 =>
 AsInt .i64 (a 9) fun z2 =>
 Cd (ltZ z2 (Int.ofNat l1)) (
 AsSlc (a 2) fun p3 o4 l5 c6 =>
 AsCnt (a 9) fun n7 =>
 Must (ltN n7 l5) (
 Ld H p3 (Nat.add o4 (Nat.mul n7 1)) fun v8 =>
 Call1 Try.prog con 27 [v8] H fun v9 H10 =>
 AsTup v9 fun l11 =>
 Nth l11 0 fun v12 =>
 AsTup v9 fun l13 =>
 Nth l13 1 fun v14 =>
 AsInt .i64 v14 fun z15 =>
 Cd (notB (eqZ z15 (Int.ofNat 0))) (
 K .ret (upd (upd (upd (upd (upd (upd (upd (upd (upd (upd (upd (upd (upd (upd (upd (upd (upd (upd (upd a 15 (a 9)) 16 (a 2)) 17 (iN (l1))) 18 (.bool (ltZ z2 (Int.ofNat l1)))) 22 (a 2)) 23 (a 9)) 24 (ptr p3 (Nat.add o4 (Nat.mul n7 1)))) 25 v8) 26 v9) 21 v9) 27 v12) 28 v14) 10 v12) 11 v14) 29 v14) 30 (.bool (notB (eqZ z15 (Int.ofNat 0))))) 31 v14) 6 (u64 (0))) 7 v14) H10) (
 Sc v12 (Nw H10 (mkRow 22 0 [v12]) fun p16 H17 =>
 App Try.prog 57 57 H17 (a 8) (.slice (some ⟨p16,0,none⟩) 1 1) fun v18 H19 =>
 AsInt .i64 (a 9) fun z20 =>
 InR (Int.add z20 (Int.ofNat 1)) (
 K .normal (upd (upd (upd (upd (upd (upd (upd (upd (upd (upd (upd (upd (upd (upd (upd (upd (upd (upd (upd (upd (upd (upd (upd (upd a 15 (a 9)) 16 (a 2)) 17 (iN (l1))) 18 (.bool (ltZ z2 (Int.ofNat l1)))) 22 (a 2)) 23 (a 9)) 24 (ptr p3 (Nat.add o4 (Nat.mul n7 1)))) 25 v8) 26 v9) 21 v9) 27 v12) 28 v14) 10 v12) 11 v14) 29 v14) 30 (.bool (notB (eqZ z15 (Int.ofNat 0))))) 32 (a 8)) 33 v12) 34 (.slice (some ⟨p16,0,none⟩) 1 1)) 35 v18) 8 v18) 19 (a 9)) 20 (i64 (Int.add z20 (Int.ofNat 1)))) 9 (i64 (Int.add z20 (Int.ofNat 1)))) H19))))) (
 K (.exit 0) (upd (upd (upd (upd a 15 (a 9)) 16 (a 2)) 17 (iN (l1))) 18 (.bool (ltZ z2 (Int.ofNat l1)))) H)) := by kernel_rfl
theorem mValues_W (con : CallT) (p x : Nat) (n : Int) (H : CH) (K : KP) : funW Try.prog con 14 [ptr p 0,u64 x,i64 n] H K =
 (Cd (ltZ n (Int.ofNat 0)) (
 K (.tuple ⟨[(snil),(.bool false)]⟩) H) (
 Cd (ltZ (Int.ofNat 16) n) (
 K (.tuple ⟨[(snil),(.bool false)]⟩) H) (
 Must (cvOk .i64 n) (
 LoopC Try.prog con (lpAt Try.prog 14 0) (upd (upd (upd (upd (upd (upd (upd (upd (upd (upd (upd (upd (upd (upd (upd (upd (upd (upd (upd (upd (upd (upd (upd (fun _ => undV) 2 (i64 n)) 1 (u64 (x))) 0 (ptr p 0)) 6 (snil)) 7 (.bool false)) 11 (ptr p 0)) 12 (.bool false)) 13 (.bool false)) 13 (.bool false)) 14 (i64 n)) 13 (.bool false)) 15 (.bool (ltZ n (Int.ofNat 0)))) 16 (.bool (ltZ n (Int.ofNat 0)))) 17 (.bool (ltZ n (Int.ofNat 0)))) 17 (.bool false)) 18 (i64 n)) 17 (.bool false)) 19 (.bool (ltZ (Int.ofNat 16) n))) 20 (.bool (ltZ (Int.ofNat 16) n))) 8 (snil)) 21 (i64 n)) 22 (u64 ((wrapN .u64 n)))) 23 (u64 (0))) H (fun e => ceP e
 (fun a1 H2 =>
 K (.tuple ⟨[(a1 8),(.bool true)]⟩) H2)
 (fun i3 => fun a1 H2 =>
 Cd (eqN i3 0) (
 K (.tuple ⟨[(a1 8),(.bool true)]⟩) H2) (
 False))
 (fun a1 H2 =>
 K (.tuple ⟨[(a1 6),(a1 7)]⟩) H2)))))) := by kernel_rfl
theorem mValuesL_W (con : CallT) (a : TF) (H : CH) (K : KX) : codeW (lpAt Try.prog 14 0) Try.prog con a H K =
 (AsNat .u64 (a 23) fun n1 =>
 AsNat .u64 (a 22) fun n2 =>
 Cd (ltN n1 n2) (
 AsNat .u64 (a 1) fun n3 =>
 AsNat .u64 (a 23) fun n4 =>
 Call1 Try.prog con 23 [(a 0),(u64 ((Nat.mod (Nat.add n3 n4) 18446744073709551616)))] H fun v5 H6 =>
 AsNat .u64 v5 fun n7 =>
 Cd (eqN (Nat.mod n7 4) 1) (
 K .ret (upd (upd (upd (upd (upd (upd (upd (upd (upd (upd (upd (upd (upd (upd (upd (upd (upd (upd (upd (upd (upd (upd a 24 (.bool (ltN n1 n2))) 25 (a 23)) 9 (a 23)) 26 (a 0)) 27 (a 1)) 28 (a 23)) 29 (u64 ((Nat.mod (Nat.add n3 n4) 18446744073709551616)))) 30 v5) 10 v5) 31 v5) 32 (u64 ((Nat.mod n7 4)))) 33 (.bool (eqN (Nat.mod n7 4) 1))) 34 (.bool (eqN (Nat.mod n7 4) 1))) 34 (.bool true)) 35 unit) 34 (.bool true)) 36 unit) 34 (.bool true)) 37 unit) 38 (.bool true)) 6 (snil)) 7 (.bool false)) H6) (
 AsNat .u64 v5 fun n8 =>
 Cd (eqN (Nat.mod n8 4) 2) (
 K .ret (upd (upd (upd (upd (upd (upd (upd (upd (upd (upd (upd (upd (upd (upd (upd (upd (upd (upd (upd (upd (upd (upd a 24 (.bool (ltN n1 n2))) 25 (a 23)) 9 (a 23)) 26 (a 0)) 27 (a 1)) 28 (a 23)) 29 (u64 ((Nat.mod (Nat.add n3 n4) 18446744073709551616)))) 30 v5) 10 v5) 31 v5) 32 (u64 ((Nat.mod n7 4)))) 33 (.bool (eqN (Nat.mod n7 4) 1))) 34 (.bool (eqN (Nat.mod n7 4) 1))) 34 (.bool false)) 35 v5) 34 (.bool false)) 36 (u64 ((Nat.mod n8 4)))) 34 (.bool false)) 37 (.bool (eqN (Nat.mod n8 4) 2))) 38 (.bool (eqN (Nat.mod n8 4) 2))) 6 (snil)) 7 (.bool false)) H6) (
 AsNat .u64 v5 fun n9 =>
 Nw H6 (mkRow 22 0 [(u64 ((Nat.mod (Nat.div n9 4) 18446744073709551616)))]) fun p10 H11 =>
 App Try.prog 57 57 H11 (a 8) (.slice (some ⟨p10,0,none⟩) 1 1) fun v12 H13 =>
 AsNat .u64 (a 23) fun n14 =>
 K .normal (upd (upd (upd (upd (upd (upd (upd (upd (upd (upd (upd (upd (upd (upd (upd (upd (upd (upd (upd (upd (upd (upd (upd (upd (upd (upd (upd (upd a 24 (.bool (ltN n1 n2))) 25 (a 23)) 9 (a 23)) 26 (a 0)) 27 (a 1)) 28 (a 23)) 29 (u64 ((Nat.mod (Nat.add n3 n4) 18446744073709551616)))) 30 v5) 10 v5) 31 v5) 32 (u64 ((Nat.mod n7 4)))) 33 (.bool (eqN (Nat.mod n7 4) 1))) 34 (.bool (eqN (Nat.mod n7 4) 1))) 34 (.bool false)) 35 v5) 34 (.bool false)) 36 (u64 ((Nat.mod n8 4)))) 34 (.bool false)) 37 (.bool (eqN (Nat.mod n8 4) 2))) 38 (.bool (eqN (Nat.mod n8 4) 2))) 39 (a 8)) 40 v5) 41 (u64 ((Nat.mod (Nat.div n9 4) 18446744073709551616)))) 42 (.slice (some ⟨p10,0,none⟩) 1 1)) 43 v12) 8 v12) 44 (u64 ((Nat.mod (Nat.add n14 1) 18446744073709551616)))) 23 (u64 ((Nat.mod (Nat.add n14 1) 18446744073709551616)))) H13))) (
 K (.exit 0) (upd a 24 (.bool (ltN n1 n2))) H)) := by kernel_rfl
theorem rdValue_W (con : CallT) (p : Nat) (H : CH) (K : KP) : funW Try.prog con 10 [ptr p 0] H K =
 (Ld H p 4 fun v1 =>
 K v1 H) := by kernel_rfl
theorem muDone_W (con : CallT) (p : Nat) (H : CH) (K : KP) : funW Try.prog con 12 [ptr p 0] H K =
 (Ld H p 4 fun v1 =>
 K v1 H) := by kernel_rfl
theorem muErrno_W (con : CallT) (p : Nat) (H : CH) (K : KP) : funW Try.prog con 11 [ptr p 0] H K =
 (Ld H p 5 fun v1 =>
 K v1 H) := by kernel_rfl
end Go.Proofs.Ytoogdnemkfbgdaa

/- What some functions' texts ask for,step by step,each checked by the kernel. No conditions. -/
set_option linter.unusedVariables false
set_option maxRecDepth 100000
namespace Go.Proofs.Ytoogdnemkfbgdaa
open Go Go.CM
theorem newMulti_W (con : CallT) (v : Value) (H : CH) (K : KP) : funW Try.prog con 19 [v] H K =
 (Call1 Try.prog con 29 [v] H fun v1 H2 =>
 Sc v1 (Nw H2 (mkRow 84 0 [v1,(iN (0)),(u64 (0)),(.pointer none),(.bool false),(iN (0))]) fun p3 H4 =>
 K (ptr p3 0) H4)) := by kernel_rfl
theorem newRead_W (con : CallT) (x : Nat) (H : CH) (K : KP) : funW Try.prog con 21 [u64 x] H K =
 (Nw H (mkRow 82 0 [(u64 (x)),(.pointer none),(.pointer none),(.bool false),(u64 (0))]) fun p1 H2 =>
 K (ptr p1 0) H2) := by kernel_rfl
theorem multiStep_W (con : CallT) (p v : Nat) (H : CH) (K : KP) : funW Try.prog con 53 [ptr p 0,ptr v 0] H K =
 (Ld H p 1 fun v1 =>
 AsInt .i64 v1 fun z2 =>
 Cd (eqZ z2 (Int.ofNat 0)) (
 Call1 Try.prog con 54 [(ptr p 0)] H fun v3 H4 =>
 AsInt .i64 v3 fun z5 =>
 Cd (notB (eqZ z5 (Int.ofNat 0))) (
 AsInt .i64 v3 fun z6 =>
 Call1 Try.prog con 55 [(ptr p 0),(.bool (eqZ z6 (Int.ofNat 0))),v3] H4 fun v7 H8 =>
 K v7 H8) (
 Ld H4 p 0 fun v9 =>
 AsLen v9 fun l10 =>
 Cd (eqZ (Int.ofNat l10) (Int.ofNat 0)) (
 AsInt .i64 v3 fun z11 =>
 Call1 Try.prog con 55 [(ptr p 0),(.bool (eqZ z11 (Int.ofNat 0))),v3] H4 fun v12 H13 =>
 K v12 H13) (
 Ld H4 p 0 fun v14 =>
 AsLen v14 fun l15 =>
 Must (cvOk .i64 (Int.ofNat l15)) (
 Nw H4 (mkRow 22 0 [(u64 (0)),(u64 ((wrapN .u64 (Int.ofNat l15))))]) fun p16 H17 =>
 Ld H17 p 0 fun v18 =>
 AsLen v18 fun l19 =>
 LoopC Try.prog con (lpAt Try.prog 53 0) (upd (upd (upd (upd (upd (upd (upd (upd (upd (upd (upd (upd (upd (upd (upd (upd (upd (upd (upd (upd (upd (upd (upd (upd (upd (upd (upd (upd (upd (upd (upd (upd (upd (upd (upd (upd (upd (upd (upd (upd (upd (upd (upd (upd (fun _ => undV) 1 (ptr v 0)) 0 (ptr p 0)) 4 (.bool false)) 9 (ptr p 0)) 10 (.bool false)) 11 (ptr p 0)) 12 (ptr p 0)) 13 (ptr p 1)) 14 v1) 16 (.bool (eqZ z2 (Int.ofNat 0)))) 15 (.bool (eqZ z2 (Int.ofNat 0)))) 17 (ptr p 0)) 18 v3) 5 v3) 19 v3) 20 (.bool (notB (eqZ z5 (Int.ofNat 0))))) 21 (.bool (notB (eqZ z5 (Int.ofNat 0))))) 21 (.bool false)) 22 (ptr p 0)) 21 (.bool false)) 23 (ptr p 0)) 21 (.bool false)) 24 (ptr p 0)) 21 (.bool false)) 25 v9) 21 (.bool false)) 26 (iN (l10))) 21 (.bool false)) 27 (.bool (eqZ (Int.ofNat l10) (Int.ofNat 0)))) 28 (.bool (eqZ (Int.ofNat l10) (Int.ofNat 0)))) 34 (ptr p 0)) 35 (ptr p 0)) 36 (ptr p 0)) 37 v14) 38 (iN (l15))) 39 (u64 ((wrapN .u64 (Int.ofNat l15))))) 40 (.slice (some ⟨p16,0,none⟩) 2 2)) 6 (.slice (some ⟨p16,0,none⟩) 2 2)) 41 (ptr p 0)) 42 (ptr p 0)) 43 (ptr p 0)) 44 v18) 45 (iN (l19))) 46 (iN (0))) H17 (fun e => ceP e
 (fun a20 H21 =>
 NotNil Try.prog (a20 0) (
 AsPtr (a20 0) fun p23 o24 =>
 St H21 p23 (Nat.add o24 1) [(iN (1))] fun H25 =>
 Call1 Try.prog con 26 [(a20 1),(a20 6)] H25 fun v26 H27 =>
 NotNil Try.prog (a20 0) (
 AsPtr (a20 0) fun p28 o29 =>
 Sc v26 (St H27 p28 (Nat.add o29 2) [v26] fun H30 =>
 NotNil Try.prog (a20 0) (
 AsPtr (a20 0) fun p31 o32 =>
 Ld H30 p31 (Nat.add o32 2) fun v33 =>
 AsNat .u64 v33 fun n34 =>
 Cd (eqN n34 0) (
 Call1 Try.prog con 55 [(a20 0),(.bool false),(iN (30))] H30 fun v35 H36 =>
 K v35 H36) (
 NotNil Try.prog (a20 0) (
 AsPtr (a20 0) fun p37 o38 =>
 Ld H30 p37 (Nat.add o38 2) fun v39 =>
 Call1 Try.prog con 56 [v39] H30 fun v40 H41 =>
 NotNil Try.prog (a20 0) (
 AsPtr (a20 0) fun p42 o43 =>
 Sc v40 (St H41 p42 (Nat.add o43 3) [v40] fun H44 =>
 NotNil Try.prog (a20 0) (
 AsPtr (a20 0) fun p45 o46 =>
 Ld H44 p45 (Nat.add o46 1) fun v47 =>
 AsInt .i64 v47 fun z48 =>
 K (.bool (eqZ z48 (Int.ofNat 3))) H44))))))))))
 (fun i22 => fun a20 H21 =>
 Cd (eqN i22 1) (
 NotNil Try.prog (a20 0) (
 AsPtr (a20 0) fun p49 o50 =>
 St H21 p49 (Nat.add o50 1) [(iN (1))] fun H51 =>
 Call1 Try.prog con 26 [(a20 1),(a20 6)] H51 fun v52 H53 =>
 NotNil Try.prog (a20 0) (
 AsPtr (a20 0) fun p54 o55 =>
 Sc v52 (St H53 p54 (Nat.add o55 2) [v52] fun H56 =>
 NotNil Try.prog (a20 0) (
 AsPtr (a20 0) fun p57 o58 =>
 Ld H56 p57 (Nat.add o58 2) fun v59 =>
 AsNat .u64 v59 fun n60 =>
 Cd (eqN n60 0) (
 Call1 Try.prog con 55 [(a20 0),(.bool false),(iN (30))] H56 fun v61 H62 =>
 K v61 H62) (
 NotNil Try.prog (a20 0) (
 AsPtr (a20 0) fun p63 o64 =>
 Ld H56 p63 (Nat.add o64 2) fun v65 =>
 Call1 Try.prog con 56 [v65] H56 fun v66 H67 =>
 NotNil Try.prog (a20 0) (
 AsPtr (a20 0) fun p68 o69 =>
 Sc v66 (St H67 p68 (Nat.add o69 3) [v66] fun H70 =>
 NotNil Try.prog (a20 0) (
 AsPtr (a20 0) fun p71 o72 =>
 Ld H70 p71 (Nat.add o72 1) fun v73 =>
 AsInt .i64 v73 fun z74 =>
 K (.bool (eqZ z74 (Int.ofNat 3))) H70)))))))))) (
 Cd (eqN i22 0) (
 NotNil Try.prog (a20 0) (
 AsPtr (a20 0) fun p75 o76 =>
 Ld H21 p75 (Nat.add o76 1) fun v77 =>
 AsInt .i64 v77 fun z78 =>
 K (.bool (eqZ z78 (Int.ofNat 3))) H21)) (
 False)))
 (fun a20 H21 =>
 K (a20 4) H21)))))) (
 AsInt .i64 v1 fun z79 =>
 Cd (eqZ z79 (Int.ofNat 1)) (
 Ld H p 3 fun v80 =>
 Call1 Try.prog con 57 [v80,(ptr v 0)] H fun v81 H82 =>
 AsBool v81 fun b83 =>
 Cd b83 (
 St H82 p 1 [(iN (2))] fun H84 =>
 Ld H84 p 1 fun v85 =>
 AsInt .i64 v85 fun z86 =>
 K (.bool (eqZ z86 (Int.ofNat 3))) H84) (
 Ld H82 p 1 fun v87 =>
 AsInt .i64 v87 fun z88 =>
 K (.bool (eqZ z88 (Int.ofNat 3))) H82)) (
 AsInt .i64 v1 fun z89 =>
 Cd (eqZ z89 (Int.ofNat 2)) (
 Ld H p 2 fun v90 =>
 Call1 Try.prog con 58 [(ptr v 0),v90] H fun v91 H92 =>
 AsNat .u64 v91 fun n93 =>
 Cd (eqN n93 1) (
 Call1 Try.prog con 55 [(ptr p 0),(.bool true),(iN (0))] H92 fun v94 H95 =>
 K v94 H95) (
 AsNat .u64 v91 fun n96 =>
 Cd (eqN n96 3) (
 Call1 Try.prog con 55 [(ptr p 0),(.bool false),(iN (30))] H92 fun v97 H98 =>
 K v97 H98) (
 Call1 Try.prog con 55 [(ptr p 0),(.bool false),(iN (0))] H92 fun v99 H100 =>
 K v99 H100))) (
 Ld H p 1 fun v101 =>
 AsInt .i64 v101 fun z102 =>
 K (.bool (eqZ z102 (Int.ofNat 3))) H)))) := by kernel_rfl
theorem multiStepA_W (con : CallT) (a : TF) (H : CH) (K : KX) : codeW (lpAt Try.prog 53 0) Try.prog con a H K =
 (AsInt .i64 (a 46) fun z1 =>
 AsInt .i64 (a 45) fun z2 =>
 Cd (ltZ z1 z2) (
 AsSlc (a 44) fun p3 o4 l5 c6 =>
 AsCnt (a 46) fun n7 =>
 Must (ltN n7 l5) (
 Ld H p3 (Nat.add (Nat.add o4 (Nat.mul n7 3)) 0) fun v8 =>
 Ld H p3 (Nat.add (Nat.add o4 (Nat.mul n7 3)) 1) fun v9 =>
 Ld H p3 (Nat.add (Nat.add o4 (Nat.mul n7 3)) 2) fun v10 =>
 Nw H (mkRow 70 0 [(u64 (0)),(u64 (0)),(u64 (0))]) fun p11 H12 =>
 St H12 p11 0 [v8,v9,v10] fun H13 =>
 Ld H13 p11 0 fun v14 =>
 Ld H13 p11 1 fun v15 =>
 AsNat .u64 v15 fun n16 =>
 Ld H13 p11 2 fun v17 =>
 AsNat .u64 v17 fun n18 =>
 Sc v14 (Nw H13 (mkRow 22 0 [v14,(u64 ((Nat.mod (Nat.mul 4 n16) 18446744073709551616))),(u64 ((Nat.mod (Nat.mul 4 n18) 18446744073709551616)))]) fun p19 H20 =>
 App Try.prog 57 57 H20 (a 6) (.slice (some ⟨p19,0,none⟩) 3 3) fun v21 H22 =>
 AsInt .i64 (a 46) fun z23 =>
 InR (Int.add z23 (Int.ofNat 1)) (
 K .normal (upd (upd (upd (upd (upd (upd (upd (upd (upd (upd (upd (upd (upd (upd (upd (upd (upd (upd a 47 (.bool (ltZ z1 z2))) 48 (ptr p3 (Nat.add o4 (Nat.mul n7 3)))) 49 (.agg ⟨[v8,v9,v10]⟩)) 8 (ptr p11 0)) 50 (a 6)) 51 (ptr p11 0)) 52 v14) 53 (ptr p11 1)) 54 v15) 55 (u64 ((Nat.mod (Nat.mul 4 n16) 18446744073709551616)))) 56 (ptr p11 2)) 57 v17) 58 (u64 ((Nat.mod (Nat.mul 4 n18) 18446744073709551616)))) 59 (.slice (some ⟨p19,0,none⟩) 3 3)) 60 v21) 6 v21) 61 (i64 (Int.add z23 (Int.ofNat 1)))) 46 (i64 (Int.add z23 (Int.ofNat 1)))) H22)))) (
 K (.exit 1) (upd a 47 (.bool (ltZ z1 z2))) H)) := by kernel_rfl
theorem multiWrong_W (con : CallT) (p : Nat) (H : CH) (K : KP) : funW Try.prog con 54 [ptr p 0] H K =
 (Ld H p 0 fun v1 =>
 AsLen v1 fun l2 =>
 Cd (ltZ (Int.ofNat 16) (Int.ofNat l2)) (
 K (iN (6)) H) (
 Ld H p 0 fun v3 =>
 Call1 Try.prog con 61 [v3,(.func (.func 59) ⟨[]⟩ ⟨[]⟩)] H fun v4 H5 =>
 Ld H5 p 0 fun v6 =>
 AsLen v6 fun l7 =>
 LoopC Try.prog con (lpAt Try.prog 54 0) (upd (upd (upd (upd (upd (upd (upd (upd (upd (upd (upd (upd (upd (upd (upd (upd (upd (upd (upd (upd (upd (upd (fun _ => undV) 0 (ptr p 0)) 2 (iN (0))) 7 (ptr p 0)) 8 (ptr p 0)) 9 (ptr p 0)) 10 v1) 11 (iN (l2))) 12 (.bool (ltZ (Int.ofNat 16) (Int.ofNat l2)))) 3 (.func (.func 59) ⟨[]⟩ ⟨[]⟩)) 13 (ptr p 0)) 14 (ptr p 0)) 15 (ptr p 0)) 16 v3) 17 (.func (.func 59) ⟨[]⟩ ⟨[]⟩)) 18 v4) 4 (.bool false)) 19 (ptr p 0)) 20 (ptr p 0)) 21 (ptr p 0)) 22 v6) 23 (iN (l7))) 24 (iN (0))) H5 (fun e => ceP e
 (fun a8 H9 =>
 AsBool (a8 4) fun b11 =>
 Cd b11 (
 K (iN (5)) H9) (
 K (iN (0)) H9))
 (fun i10 => fun a8 H9 =>
 Cd (eqN i10 0) (
 AsBool (a8 4) fun b12 =>
 Cd b12 (
 K (iN (5)) H9) (
 K (iN (0)) H9)) (
 False))
 (fun a8 H9 =>
 K (a8 2) H9)))) := by kernel_rfl
theorem multiWrongL_W (con : CallT) (a : TF) (H : CH) (K : KX) : codeW (lpAt Try.prog 54 0) Try.prog con a H K =
 (AsInt .i64 (a 24) fun z1 =>
 AsInt .i64 (a 23) fun z2 =>
 Cd (ltZ z1 z2) (
 AsSlc (a 22) fun p3 o4 l5 c6 =>
 AsCnt (a 24) fun n7 =>
 Must (ltN n7 l5) (
 Ld H p3 (Nat.add (Nat.add o4 (Nat.mul n7 3)) 0) fun v8 =>
 Ld H p3 (Nat.add (Nat.add o4 (Nat.mul n7 3)) 1) fun v9 =>
 Ld H p3 (Nat.add (Nat.add o4 (Nat.mul n7 3)) 2) fun v10 =>
 Nw H (mkRow 70 0 [(u64 (0)),(u64 (0)),(u64 (0))]) fun p11 H12 =>
 St H12 p11 0 [v8,v9,v10] fun H13 =>
 Ld H13 p11 0 fun v14 =>
 AsNat .u64 v14 fun n15 =>
 Cd (eqN n15 0) (
 K .ret (upd (upd (upd (upd (upd (upd (upd (upd (upd (upd (upd (upd (upd (upd (upd (upd (upd (upd (upd (upd (upd (upd (upd (upd (upd (upd a 25 (.bool (ltZ z1 z2))) 26 (a 24)) 27 (ptr p3 (Nat.add o4 (Nat.mul n7 3)))) 28 (.agg ⟨[v8,v9,v10]⟩)) 6 (ptr p11 0)) 5 (a 24)) 29 (ptr p11 0)) 30 v14) 31 (.bool (eqN n15 0))) 32 (.bool (eqN n15 0))) 32 (.bool true)) 33 unit) 32 (.bool true)) 34 unit) 32 (.bool true)) 35 unit) 36 (.bool true)) 37 (.bool true)) 37 (.bool true)) 38 unit) 37 (.bool true)) 39 unit) 37 (.bool true)) 40 unit) 41 (.bool true)) 2 (iN (2))) H13) (
 Ld H13 p11 1 fun v16 =>
 AsNat .u64 v16 fun n17 =>
 Cd (leN 4611686018427387904 n17) (
 K .ret (upd (upd (upd (upd (upd (upd (upd (upd (upd (upd (upd (upd (upd (upd (upd (upd (upd (upd (upd (upd (upd (upd (upd (upd (upd (upd a 25 (.bool (ltZ z1 z2))) 26 (a 24)) 27 (ptr p3 (Nat.add o4 (Nat.mul n7 3)))) 28 (.agg ⟨[v8,v9,v10]⟩)) 6 (ptr p11 0)) 5 (a 24)) 29 (ptr p11 0)) 30 v14) 31 (.bool (eqN n15 0))) 32 (.bool (eqN n15 0))) 32 (.bool false)) 33 (ptr p11 1)) 32 (.bool false)) 34 v16) 32 (.bool false)) 35 (.bool (leN 4611686018427387904 n17))) 36 (.bool (leN 4611686018427387904 n17))) 37 (.bool (leN 4611686018427387904 n17))) 37 (.bool true)) 38 unit) 37 (.bool true)) 39 unit) 37 (.bool true)) 40 unit) 41 (.bool true)) 2 (iN (2))) H13) (
 Ld H13 p11 2 fun v18 =>
 AsNat .u64 v18 fun n19 =>
 Cd (leN 4611686018427387904 n19) (
 K .ret (upd (upd (upd (upd (upd (upd (upd (upd (upd (upd (upd (upd (upd (upd (upd (upd (upd (upd (upd (upd (upd (upd (upd (upd (upd (upd a 25 (.bool (ltZ z1 z2))) 26 (a 24)) 27 (ptr p3 (Nat.add o4 (Nat.mul n7 3)))) 28 (.agg ⟨[v8,v9,v10]⟩)) 6 (ptr p11 0)) 5 (a 24)) 29 (ptr p11 0)) 30 v14) 31 (.bool (eqN n15 0))) 32 (.bool (eqN n15 0))) 32 (.bool false)) 33 (ptr p11 1)) 32 (.bool false)) 34 v16) 32 (.bool false)) 35 (.bool (leN 4611686018427387904 n17))) 36 (.bool (leN 4611686018427387904 n17))) 37 (.bool (leN 4611686018427387904 n17))) 37 (.bool false)) 38 (ptr p11 2)) 37 (.bool false)) 39 v18) 37 (.bool false)) 40 (.bool (leN 4611686018427387904 n19))) 41 (.bool (leN 4611686018427387904 n19))) 2 (iN (2))) H13) (
 AsWant (a 4) (False) fun b20 =>
 Cd b20 (
 AsInt .i64 (a 24) fun z21 =>
 InR (Int.add z21 (Int.ofNat 1)) (
 K .normal (upd (upd (upd (upd (upd (upd (upd (upd (upd (upd (upd (upd (upd (upd (upd (upd (upd (upd (upd (upd (upd (upd (upd (upd (upd (upd (upd (upd (upd (upd (upd (upd (upd (upd (upd (upd (upd (upd (upd (upd (upd (upd (upd (upd (upd (upd (upd (upd (upd (upd (upd (upd (upd (upd (upd (upd (upd (upd (upd (upd (upd (upd (upd a 25 (.bool (ltZ z1 z2))) 26 (a 24)) 27 (ptr p3 (Nat.add o4 (Nat.mul n7 3)))) 28 (.agg ⟨[v8,v9,v10]⟩)) 6 (ptr p11 0)) 5 (a 24)) 29 (ptr p11 0)) 30 v14) 31 (.bool (eqN n15 0))) 32 (.bool (eqN n15 0))) 32 (.bool false)) 33 (ptr p11 1)) 32 (.bool false)) 34 v16) 32 (.bool false)) 35 (.bool (leN 4611686018427387904 n17))) 36 (.bool (leN 4611686018427387904 n17))) 37 (.bool (leN 4611686018427387904 n17))) 37 (.bool false)) 38 (ptr p11 2)) 37 (.bool false)) 39 v18) 37 (.bool false)) 40 (.bool (leN 4611686018427387904 n19))) 41 (.bool (leN 4611686018427387904 n19))) 42 (a 4)) 43 (a 4)) 43 (.bool true)) 44 unit) 43 (.bool true)) 45 unit) 43 (.bool true)) 46 unit) 46 unit) 47 unit) 46 unit) 48 unit) 46 unit) 49 unit) 46 unit) 50 unit) 46 unit) 51 unit) 46 unit) 52 unit) 46 unit) 53 unit) 46 unit) 54 unit) 46 unit) 55 unit) 46 unit) 56 unit) 46 unit) 57 unit) 46 unit) 58 unit) 43 (.bool true)) 59 unit) 60 (.bool true)) 4 (.bool true)) 61 (i64 (Int.add z21 (Int.ofNat 1)))) 24 (i64 (Int.add z21 (Int.ofNat 1)))) H13)) (
 AsInt .i64 (a 24) fun z22 =>
 Cd (ltZ (Int.ofNat 0) z22) (
 NotNil Try.prog (a 0) (
 AsPtr (a 0) fun p23 o24 =>
 Ld H13 p23 (Nat.add o24 0) fun v25 =>
 AsInt .i64 (a 24) fun z26 =>
 InR (Int.sub z26 (Int.ofNat 1)) (
 AsSlc v25 fun p27 o28 l29 c30 =>
 AsCnt (i64 (Int.sub z26 (Int.ofNat 1))) fun n31 =>
 Must (ltN n31 l29) (
 Ld H13 p27 (Nat.add (Nat.add o28 (Nat.mul n31 3)) 0) fun v32 =>
 Ld H13 p11 0 fun v33 =>
 AsNat .u64 v32 fun n34 =>
 AsNat .u64 v33 fun n35 =>
 AsInt .i64 (a 24) fun z36 =>
 InR (Int.add z36 (Int.ofNat 1)) (
 K .normal (upd (upd (upd (upd (upd (upd (upd (upd (upd (upd (upd (upd (upd (upd (upd (upd (upd (upd (upd (upd (upd (upd (upd (upd (upd (upd (upd (upd (upd (upd (upd (upd (upd (upd (upd (upd (upd (upd (upd (upd (upd (upd (upd (upd (upd (upd (upd (upd (upd (upd (upd (upd (upd (upd (upd (upd (upd (upd (upd (upd (upd (upd (upd a 25 (.bool (ltZ z1 z2))) 26 (a 24)) 27 (ptr p3 (Nat.add o4 (Nat.mul n7 3)))) 28 (.agg ⟨[v8,v9,v10]⟩)) 6 (ptr p11 0)) 5 (a 24)) 29 (ptr p11 0)) 30 v14) 31 (.bool (eqN n15 0))) 32 (.bool (eqN n15 0))) 32 (.bool false)) 33 (ptr p11 1)) 32 (.bool false)) 34 v16) 32 (.bool false)) 35 (.bool (leN 4611686018427387904 n17))) 36 (.bool (leN 4611686018427387904 n17))) 37 (.bool (leN 4611686018427387904 n17))) 37 (.bool false)) 38 (ptr p11 2)) 37 (.bool false)) 39 v18) 37 (.bool false)) 40 (.bool (leN 4611686018427387904 n19))) 41 (.bool (leN 4611686018427387904 n19))) 42 (a 4)) 43 (a 4)) 43 (.bool false)) 44 (a 24)) 43 (.bool false)) 45 (.bool (ltZ (Int.ofNat 0) z22))) 43 (.bool false)) 46 (.bool (ltZ (Int.ofNat 0) z22))) 46 (.bool true)) 47 (a 0)) 46 (.bool true)) 48 (a 0)) 46 (.bool true)) 49 (ptr p23 (Nat.add o24 0))) 46 (.bool true)) 50 v25) 46 (.bool true)) 51 (a 24)) 46 (.bool true)) 52 (i64 (Int.sub z26 (Int.ofNat 1)))) 46 (.bool true)) 53 (ptr p27 (Nat.add o28 (Nat.mul n31 3)))) 46 (.bool true)) 54 (ptr p27 (Nat.add (Nat.add o28 (Nat.mul n31 3)) 0))) 46 (.bool true)) 55 v32) 46 (.bool true)) 56 (ptr p11 0)) 46 (.bool true)) 57 v33) 46 (.bool true)) 58 (.bool (eqN n34 n35))) 43 (.bool false)) 59 (.bool (eqN n34 n35))) 60 (.bool (eqN n34 n35))) 4 (.bool (eqN n34 n35))) 61 (i64 (Int.add z36 (Int.ofNat 1)))) 24 (i64 (Int.add z36 (Int.ofNat 1)))) H13))))) (
 AsInt .i64 (a 24) fun z37 =>
 InR (Int.add z37 (Int.ofNat 1)) (
 K .normal (upd (upd (upd (upd (upd (upd (upd (upd (upd (upd (upd (upd (upd (upd (upd (upd (upd (upd (upd (upd (upd (upd (upd (upd (upd (upd (upd (upd (upd (upd (upd (upd (upd (upd (upd (upd (upd (upd (upd (upd (upd (upd (upd (upd (upd (upd (upd (upd (upd (upd (upd (upd (upd (upd (upd (upd (upd (upd (upd (upd (upd (upd (upd a 25 (.bool (ltZ z1 z2))) 26 (a 24)) 27 (ptr p3 (Nat.add o4 (Nat.mul n7 3)))) 28 (.agg ⟨[v8,v9,v10]⟩)) 6 (ptr p11 0)) 5 (a 24)) 29 (ptr p11 0)) 30 v14) 31 (.bool (eqN n15 0))) 32 (.bool (eqN n15 0))) 32 (.bool false)) 33 (ptr p11 1)) 32 (.bool false)) 34 v16) 32 (.bool false)) 35 (.bool (leN 4611686018427387904 n17))) 36 (.bool (leN 4611686018427387904 n17))) 37 (.bool (leN 4611686018427387904 n17))) 37 (.bool false)) 38 (ptr p11 2)) 37 (.bool false)) 39 v18) 37 (.bool false)) 40 (.bool (leN 4611686018427387904 n19))) 41 (.bool (leN 4611686018427387904 n19))) 42 (a 4)) 43 (a 4)) 43 (.bool false)) 44 (a 24)) 43 (.bool false)) 45 (.bool (ltZ (Int.ofNat 0) z22))) 43 (.bool false)) 46 (.bool (ltZ (Int.ofNat 0) z22))) 46 (.bool false)) 47 unit) 46 (.bool false)) 48 unit) 46 (.bool false)) 49 unit) 46 (.bool false)) 50 unit) 46 (.bool false)) 51 unit) 46 (.bool false)) 52 unit) 46 (.bool false)) 53 unit) 46 (.bool false)) 54 unit) 46 (.bool false)) 55 unit) 46 (.bool false)) 56 unit) 46 (.bool false)) 57 unit) 46 (.bool false)) 58 unit) 43 (.bool false)) 59 (.bool false)) 60 (.bool false)) 4 (.bool false)) 61 (i64 (Int.add z37 (Int.ofNat 1)))) 24 (i64 (Int.add z37 (Int.ofNat 1)))) H13)))))))) (
 K (.exit 0) (upd a 25 (.bool (ltZ z1 z2))) H)) := by kernel_rfl
theorem multiEnd_W (con : CallT) (p : Nat) (b : Bool) (e : Int) (H : CH) (K : KP) : funW Try.prog con 55 [ptr p 0,.bool b,i64 e] H K =
 (St H p 1 [(iN (3))] fun H1 =>
 St H1 p 4 [(.bool b)] fun H2 =>
 St H2 p 5 [(i64 e)] fun H3 =>
 K (.bool true) H3) := by kernel_rfl
theorem multiHelp_W (con : CallT) (d : Nat) (H : CH) (K : KP) : funW Try.prog con 56 [u64 d] H K =
 (Nw H (mkRow 142 0 [(u64 (d)),(iN (0)),(u64 (0)),(u64 (0)),(u64 (0)),(u64 (0)),(u64 (0)),(u64 (0)),(u64 (0)),(u64 (0)),(.pointer none),(.bool false),(u64 (0))]) fun p1 H2 =>
 Nw H2 (mkRow 140 0 [(ptr p1 0)]) fun p3 H4 =>
 Nw H4 (mkRow 145 0 [(.slice (some ⟨p3,0,none⟩) 1 1)]) fun p5 H6 =>
 K (ptr p5 0) H6) := by kernel_rfl
theorem helperStep_W (con : CallT) (p v : Nat) (H : CH) (K : KP) : funW Try.prog con 57 [ptr p 0,ptr v 0] H K =
 (Ld H p 0 fun v1 =>
 AsLen v1 fun l2 =>
 Ld H p 0 fun v3 =>
 InR (Int.sub (Int.ofNat l2) (Int.ofNat 1)) (
 AsSlc v3 fun p4 o5 l6 c7 =>
 AsCnt (i64 (Int.sub (Int.ofNat l2) (Int.ofNat 1))) fun n8 =>
 Must (ltN n8 l6) (
 Ld H p4 (Nat.add o5 (Nat.mul n8 1)) fun v9 =>
 Call1 Try.prog con 62 [v9,(ptr v 0)] H fun v10 H11 =>
 NotNil Try.prog v9 (
 AsPtr v9 fun p12 o13 =>
 Ld H11 p12 (Nat.add o13 11) fun v14 =>
 AsBool v14 fun b15 =>
 Cd b15 (
 Ld H11 p 0 fun v16 =>
 NotNil Try.prog v9 (
 AsPtr v9 fun p17 o18 =>
 Ld H11 p17 (Nat.add o18 12) fun v19 =>
 Sc v19 (Nw H11 (mkRow 142 0 [v19,(iN (0)),(u64 (0)),(u64 (0)),(u64 (0)),(u64 (0)),(u64 (0)),(u64 (0)),(u64 (0)),(u64 (0)),(.pointer none),(.bool false),(u64 (0))]) fun p20 H21 =>
 Nw H21 (mkRow 140 0 [(ptr p20 0)]) fun p22 H23 =>
 App Try.prog 143 143 H23 v16 (.slice (some ⟨p22,0,none⟩) 1 1) fun v24 H25 =>
 Sc v24 (St H25 p 0 [v24] fun H26 =>
 Ld H11 p 0 fun v27 =>
 Same v16 v27 (
 Ld H21 p 0 fun v28 =>
 Same v16 v28 (
 Ld H23 p 0 fun v29 =>
 Same v16 v29 (
 NotNil Try.prog v9 (
 AsPtr v9 fun p30 o31 =>
 St H26 p30 (Nat.add o31 11) [(.bool false)] fun H32 =>
 NotNil Try.prog v9 (
 AsPtr v9 fun p33 o34 =>
 Ld H32 p33 (Nat.add o34 1) fun v35 =>
 AsInt .i64 v35 fun z36 =>
 Cd (eqZ z36 (Int.ofNat 15)) (
 Ld H32 p 0 fun v37 =>
 InR (Int.sub (Int.ofNat l2) (Int.ofNat 1)) (
 InR (Int.sub (Int.ofNat l2) (Int.ofNat 1)) (
 Slc Try.prog H32 143 v37 none (some (i64 (Int.sub (Int.ofNat l2) (Int.ofNat 1)))) (some (i64 (Int.sub (Int.ofNat l2) (Int.ofNat 1)))) fun v38 =>
 Sc v38 (St H32 p 0 [v38] fun H39 =>
 Ld H39 p 0 fun v40 =>
 AsLen v40 fun l41 =>
 K (.bool (eqZ (Int.ofNat l41) (Int.ofNat 0))) H39)))) (
 Ld H32 p 0 fun v42 =>
 AsLen v42 fun l43 =>
 K (.bool (eqZ (Int.ofNat l43) (Int.ofNat 0))) H32)))))))))) (
 NotNil Try.prog v9 (
 AsPtr v9 fun p44 o45 =>
 Ld H11 p44 (Nat.add o45 1) fun v46 =>
 AsInt .i64 v46 fun z47 =>
 Cd (eqZ z47 (Int.ofNat 15)) (
 Ld H11 p 0 fun v48 =>
 InR (Int.sub (Int.ofNat l2) (Int.ofNat 1)) (
 InR (Int.sub (Int.ofNat l2) (Int.ofNat 1)) (
 Slc Try.prog H11 143 v48 none (some (i64 (Int.sub (Int.ofNat l2) (Int.ofNat 1)))) (some (i64 (Int.sub (Int.ofNat l2) (Int.ofNat 1)))) fun v49 =>
 Sc v49 (St H11 p 0 [v49] fun H50 =>
 Ld H50 p 0 fun v51 =>
 AsLen v51 fun l52 =>
 K (.bool (eqZ (Int.ofNat l52) (Int.ofNat 0))) H50)))) (
 Ld H11 p 0 fun v53 =>
 AsLen v53 fun l54 =>
 K (.bool (eqZ (Int.ofNat l54) (Int.ofNat 0))) H11))))))) := by kernel_rfl
theorem mframeStep_W (con : CallT) (p v : Nat) (H : CH) (K : KP) : funW Try.prog con 62 [ptr p 0,ptr v 0] H K =
 (Ld H p 1 fun v1 =>
 AsInt .i64 v1 fun z2 =>
 Cd (eqZ z2 (Int.ofNat 0)) (
 Ld H p 0 fun v3 =>
 Call1 Try.prog con 58 [(ptr v 0),v3] H fun v4 H5 =>
 Sc v4 (St H5 p 2 [v4] fun H6 =>
 St H6 p 1 [(iN (1))] fun H7 =>
 K unit H7)) (
 AsInt .i64 v1 fun z8 =>
 Cd (eqZ z8 (Int.ofNat 1)) (
 Ld H p 0 fun v9 =>
 AsNat .u64 v9 fun n10 =>
 Call1 Try.prog con 58 [(ptr v 0),(u64 ((Nat.mod (Nat.add n10 1) 18446744073709551616)))] H fun v11 H12 =>
 AsNat .u64 v11 fun n13 =>
 St H12 p 3 [(u64 ((Nat.min n13 16)))] fun H14 =>
 St H14 p 1 [(iN (11))] fun H15 =>
 Ld H15 p 2 fun v16 =>
 AsNat .u64 v16 fun n17 =>
 Cd (eqN n17 0) (
 Call1 Try.prog con 66 [(ptr p 0),(u64 (0))] H15 fun v18 H19 =>
 K unit H19) (
 K unit H15)) (
 AsInt .i64 v1 fun z20 =>
 Cd (eqZ z20 (Int.ofNat 2)) (
 Call1 Try.prog con 67 [(ptr p 0),(u64 (0))] H fun v21 H22 =>
 Call1 Try.prog con 58 [(ptr v 0),v21] H22 fun v23 H24 =>
 Sc v23 (St H24 p 5 [v23] fun H25 =>
 St H25 p 1 [(iN (3))] fun H26 =>
 K unit H26)) (
 AsInt .i64 v1 fun z27 =>
 Cd (eqZ z27 (Int.ofNat 3)) (
 Call1 Try.prog con 67 [(ptr p 0),(u64 (1))] H fun v28 H29 =>
 Call1 Try.prog con 58 [(ptr v 0),v28] H29 fun v30 H31 =>
 Sc v30 (St H31 p 6 [v30] fun H32 =>
 St H32 p 1 [(iN (4))] fun H33 =>
 K unit H33)) (
 AsInt .i64 v1 fun z34 =>
 Cd (eqZ z34 (Int.ofNat 4)) (
 St H p 1 [(iN (5))] fun H35 =>
 Ld H35 p 0 fun v36 =>
 Ld H35 p 5 fun v37 =>
 Ld H35 p 6 fun v38 =>
 Ld H35 p 0 fun v39 =>
 Call1 Try.prog con 68 [v39] H35 fun v40 H41 =>
 Sc v36 (Sc v37 (Sc v38 (Sc v40 (Nw H41 (mkRow 22 0 [v36,v37,v38,v40]) fun p42 H43 =>
 Call1 Try.prog con 26 [(ptr v 0),(.slice (some ⟨p42,0,none⟩) 4 4)] H43 fun v44 H45 =>
 Sc v44 (St H45 p 7 [v44] fun H46 =>
 Ld H35 p 6 fun v47 =>
 Same v38 v47 (
 Ld H41 p 6 fun v48 =>
 Same v38 v48 (
 Ld H35 p 5 fun v49 =>
 Same v37 v49 (
 Ld H41 p 5 fun v50 =>
 Same v37 v50 (
 Ld H35 p 0 fun v51 =>
 Same v36 v51 (
 Ld H41 p 0 fun v52 =>
 Same v36 v52 (
 Ld H46 p 7 fun v53 =>
 AsNat .u64 v53 fun n54 =>
 Cd (eqN n54 0) (
 St H46 p 9 [(u64 (3))] fun H55 =>
 St H55 p 1 [(iN (10))] fun H56 =>
 K unit H56) (
 K unit H46))))))))))))) (
 AsInt .i64 v1 fun z57 =>
 Cd (eqZ z57 (Int.ofNat 5)) (
 St H p 1 [(iN (8))] fun H58 =>
 Ld H58 p 5 fun v59 =>
 Ld H58 p 6 fun v60 =>
 Ld H58 p 7 fun v61 =>
 Call1 Try.prog con 70 [v61] H58 fun v62 H63 =>
 Call1 Try.prog con 69 [(ptr v 0),v59,v60,v62] H63 fun v64 H65 =>
 Ld H58 p 6 fun v66 =>
 Same v60 v66 (
 Ld H63 p 6 fun v67 =>
 Same v60 v67 (
 Ld H58 p 5 fun v68 =>
 Same v59 v68 (
 Ld H63 p 5 fun v69 =>
 Same v59 v69 (
 AsBool v64 fun b70 =>
 Cd b70 (
 St H65 p 1 [(iN (6))] fun H71 =>
 K unit H71) (
 K unit H65)))))) (
 AsInt .i64 v1 fun z72 =>
 Cd (eqZ z72 (Int.ofNat 6)) (
 Ld H p 0 fun v73 =>
 Call1 Try.prog con 58 [(ptr v 0),v73] H fun v74 H75 =>
 Sc v74 (St H75 p 2 [v74] fun H76 =>
 St H76 p 1 [(iN (7))] fun H77 =>
 K unit H77)) (
 AsInt .i64 v1 fun z78 =>
 Cd (eqZ z78 (Int.ofNat 7)) (
 Ld H p 6 fun v79 =>
 Ld H p 2 fun v80 =>
 AsNat .u64 v80 fun n81 =>
 Cd (eqN n81 0) (
 Ld H p 0 fun v82 =>
 Call1 Try.prog con 68 [v82] H fun v83 H84 =>
 Ld H84 p 5 fun v85 =>
 Ld H84 p 7 fun v86 =>
 Call1 Try.prog con 70 [v86] H84 fun v87 H88 =>
 Call1 Try.prog con 69 [(ptr v 0),v85,v87,v83] H88 fun v89 H90 =>
 Ld H84 p 5 fun v91 =>
 Same v85 v91 (
 Ld H88 p 5 fun v92 =>
 Same v85 v92 (
 Call1 Try.prog con 66 [(ptr p 0),(u64 (1))] H90 fun v93 H94 =>
 K unit H94))) (
 Ld H p 5 fun v95 =>
 Ld H p 7 fun v96 =>
 Call1 Try.prog con 70 [v96] H fun v97 H98 =>
 Call1 Try.prog con 69 [(ptr v 0),v95,v97,v79] H98 fun v99 H100 =>
 Ld H p 5 fun v101 =>
 Same v95 v101 (
 Ld H98 p 5 fun v102 =>
 Same v95 v102 (
 Call1 Try.prog con 66 [(ptr p 0),(u64 (1))] H100 fun v103 H104 =>
 K unit H104)))) (
 AsInt .i64 v1 fun z105 =>
 Cd (eqZ z105 (Int.ofNat 8)) (
 Ld H p 5 fun v106 =>
 Call1 Try.prog con 58 [(ptr v 0),v106] H fun v107 H108 =>
 Call1 Try.prog con 71 [(ptr p 0),v107] H108 fun v109 H110 =>
 K unit H110) (
 AsInt .i64 v1 fun z111 =>
 Cd (eqZ z111 (Int.ofNat 9)) (
 Ld H p 10 fun v112 =>
 Call1 Try.prog con 72 [v112,(ptr v 0)] H fun v113 H114 =>
 AsBool v113 fun b115 =>
 Cd b115 (
 St H114 p 1 [(iN (5))] fun H116 =>
 K unit H116) (
 K unit H114)) (
 AsInt .i64 v1 fun z117 =>
 Cd (eqZ z117 (Int.ofNat 10)) (
 Ld H p 0 fun v118 =>
 Ld H p 9 fun v119 =>
 Call1 Try.prog con 69 [(ptr v 0),v118,(u64 (0)),v119] H fun v120 H121 =>
 St H121 p 1 [(iN (11))] fun H122 =>
 K unit H122) (
 AsInt .i64 v1 fun z123 =>
 Cd (eqZ z123 (Int.ofNat 11)) (
 Ld H p 0 fun v124 =>
 Call1 Try.prog con 58 [(ptr v 0),v124] H fun v125 H126 =>
 Sc v125 (St H126 p 2 [v125] fun H127 =>
 Call1 Try.prog con 73 [(ptr p 0),(u64 (0))] H127 fun v128 H129 =>
 K unit H129)) (
 AsInt .i64 v1 fun z130 =>
 Cd (eqZ z130 (Int.ofNat 12)) (
 Call1 Try.prog con 67 [(ptr p 0),(u64 (0))] H fun v131 H132 =>
 Call1 Try.prog con 58 [(ptr v 0),v131] H132 fun v133 H134 =>
 Sc v133 (St H134 p 5 [v133] fun H135 =>
 St H135 p 1 [(iN (13))] fun H136 =>
 K unit H136)) (
 AsInt .i64 v1 fun z137 =>
 Cd (eqZ z137 (Int.ofNat 13)) (
 Ld H p 2 fun v138 =>
 AsNat .u64 v138 fun n139 =>
 Cd (eqN n139 1) (
 Call1 Try.prog con 67 [(ptr p 0),(u64 (2))] H fun v140 H141 =>
 Call1 Try.prog con 58 [(ptr v 0),v140] H141 fun v142 H143 =>
 Sc v142 (St H143 p 8 [v142] fun H144 =>
 St H144 p 1 [(iN (14))] fun H145 =>
 K unit H145)) (
 Call1 Try.prog con 67 [(ptr p 0),(u64 (1))] H fun v146 H147 =>
 Call1 Try.prog con 58 [(ptr v 0),v146] H147 fun v148 H149 =>
 Sc v148 (St H149 p 8 [v148] fun H150 =>
 St H150 p 1 [(iN (14))] fun H151 =>
 K unit H151))) (
 AsInt .i64 v1 fun z152 =>
 Cd (eqZ z152 (Int.ofNat 14)) (
 Ld H p 5 fun v153 =>
 Ld H p 0 fun v154 =>
 Call1 Try.prog con 68 [v154] H fun v155 H156 =>
 Ld H156 p 8 fun v157 =>
 Call1 Try.prog con 69 [(ptr v 0),v153,v155,v157] H156 fun v158 H159 =>
 Ld H p 8 fun v160 =>
 Same v157 v160 (
 Ld H156 p 8 fun v161 =>
 Same v157 v161 (
 Ld H p 5 fun v162 =>
 Same v153 v162 (
 Ld H156 p 5 fun v163 =>
 Same v153 v163 (
 Ld H159 p 4 fun v164 =>
 AsNat .u64 v164 fun n165 =>
 Call1 Try.prog con 73 [(ptr p 0),(u64 ((Nat.mod (Nat.add n165 1) 18446744073709551616)))] H159 fun v166 H167 =>
 K unit H167))))) (
 K unit H)))))))))))))))) := by kernel_rfl
theorem mframeLook_W (con : CallT) (p r : Nat) (H : CH) (K : KP) : funW Try.prog con 71 [ptr p 0,u64 r] H K =
 (Cd (eqN (Nat.mod r 4) 1) (
 Nw H (mkRow 162 0 [(u64 (r)),(iN (0)),(u64 (0)),(u64 (0)),(u64 (0)),(u64 (0)),(u64 (0))]) fun p1 H2 =>
 St H2 p 10 [(ptr p1 0)] fun H3 =>
 St H3 p 1 [(iN (9))] fun H4 =>
 K unit H4) (
 Ld H p 6 fun v5 =>
 AsNat .u64 v5 fun n6 =>
 Cd (eqN r n6) (
 St H p 1 [(iN (5))] fun H7 =>
 K unit H7) (
 Ld H p 0 fun v8 =>
 Call1 Try.prog con 68 [v8] H fun v9 H10 =>
 AsNat .u64 v9 fun n11 =>
 Cd (eqN r n11) (
 Call1 Try.prog con 66 [(ptr p 0),(u64 (1))] H10 fun v12 H13 =>
 K unit H13) (
 Cd (eqN (Nat.mod r 4) 2) (
 St H10 p 11 [(.bool true)] fun H14 =>
 St H14 p 12 [(u64 ((Nat.mod (Nat.div r 4) 18446744073709551616)))] fun H15 =>
 St H15 p 1 [(iN (5))] fun H16 =>
 K unit H16) (
 St H10 p 9 [(u64 (2))] fun H17 =>
 St H17 p 1 [(iN (10))] fun H18 =>
 K unit H18))))) := by kernel_rfl
theorem mframeNext_W (con : CallT) (p b : Nat) (H : CH) (K : KP) : funW Try.prog con 66 [ptr p 0,u64 b] H K =
 (Ld H p 4 fun v1 =>
 AsNat .u64 v1 fun n2 =>
 St H p 4 [(u64 ((Nat.mod (Nat.add n2 b) 18446744073709551616)))] fun H3 =>
 St H3 p 1 [(iN (2))] fun H4 =>
 Ld H4 p 4 fun v5 =>
 Ld H4 p 3 fun v6 =>
 AsNat .u64 v5 fun n7 =>
 AsNat .u64 v6 fun n8 =>
 Cd (leN n8 n7) (
 St H4 p 9 [(u64 (1))] fun H9 =>
 St H9 p 1 [(iN (10))] fun H10 =>
 K unit H10) (
 K unit H4)) := by kernel_rfl
theorem mframeClear_W (con : CallT) (p i : Nat) (H : CH) (K : KP) : funW Try.prog con 73 [ptr p 0,u64 i] H K =
 (St H p 4 [(u64 (i))] fun H1 =>
 St H1 p 1 [(iN (12))] fun H2 =>
 Ld H2 p 4 fun v3 =>
 Ld H2 p 3 fun v4 =>
 AsNat .u64 v3 fun n5 =>
 AsNat .u64 v4 fun n6 =>
 Cd (leN n6 n5) (
 St H2 p 1 [(iN (15))] fun H7 =>
 K unit H7) (
 K unit H2)) := by kernel_rfl
theorem mframePart_W (con : CallT) (p n : Nat) (H : CH) (K : KP) : funW Try.prog con 67 [ptr p 0,u64 n] H K =
 (Ld H p 0 fun v1 =>
 AsNat .u64 v1 fun n2 =>
 Ld H p 4 fun v3 =>
 AsNat .u64 v3 fun n4 =>
 K (u64 ((Nat.mod (Nat.add (Nat.mod (Nat.add (Nat.mod (Nat.add n2 2) 18446744073709551616) (Nat.mod (Nat.mul 3 n4) 18446744073709551616)) 18446744073709551616) n) 18446744073709551616))) H) := by kernel_rfl
theorem settlerStep_W (con : CallT) (p v : Nat) (H : CH) (K : KP) : funW Try.prog con 72 [ptr p 0,ptr v 0] H K =
 (Ld H p 0 fun v1 =>
 AsNat .u64 v1 fun n2 =>
 Ld H p 1 fun v3 =>
 AsInt .i64 v3 fun z4 =>
 InR (Int.add z4 (Int.ofNat 1)) (
 St H p 1 [(i64 (Int.add z4 (Int.ofNat 1)))] fun H5 =>
 Ld H5 p 1 fun v6 =>
 AsInt .i64 v6 fun z7 =>
 Cd (eqZ z7 (Int.ofNat 1)) (
 Call1 Try.prog con 58 [(ptr v 0),(u64 ((Nat.mod (Nat.div n2 4) 18446744073709551616)))] H5 fun v8 H9 =>
 Sc v8 (St H9 p 2 [v8] fun H10 =>
 K (.bool false) H10)) (
 AsInt .i64 v6 fun z11 =>
 Cd (eqZ z11 (Int.ofNat 2)) (
 Call1 Try.prog con 58 [(ptr v 0),(u64 ((Nat.mod (Nat.add (Nat.mod (Nat.div n2 4) 18446744073709551616) 1) 18446744073709551616)))] H5 fun v12 H13 =>
 Sc v12 (St H13 p 3 [v12] fun H14 =>
 K (.bool false) H14)) (
 AsInt .i64 v6 fun z15 =>
 Cd (eqZ z15 (Int.ofNat 3)) (
 Call1 Try.prog con 58 [(ptr v 0),(u64 ((Nat.mod (Nat.add (Nat.mod (Nat.div n2 4) 18446744073709551616) 2) 18446744073709551616)))] H5 fun v16 H17 =>
 Sc v16 (St H17 p 4 [v16] fun H18 =>
 K (.bool false) H18)) (
 AsInt .i64 v6 fun z19 =>
 Cd (eqZ z19 (Int.ofNat 4)) (
 Call1 Try.prog con 58 [(ptr v 0),(u64 ((Nat.mod (Nat.add (Nat.mod (Nat.div n2 4) 18446744073709551616) 3) 18446744073709551616)))] H5 fun v20 H21 =>
 Sc v20 (St H21 p 5 [v20] fun H22 =>
 K (.bool false) H22)) (
 AsInt .i64 v6 fun z23 =>
 Cd (eqZ z23 (Int.ofNat 5)) (
 Ld H5 p 2 fun v24 =>
 Call1 Try.prog con 58 [(ptr v 0),v24] H5 fun v25 H26 =>
 Sc v25 (St H26 p 6 [v25] fun H27 =>
 K (.bool false) H27)) (
 Ld H5 p 4 fun v28 =>
 Ld H5 p 6 fun v29 =>
 AsNat .u64 v29 fun n30 =>
 Cd (eqN n30 0) (
 Ld H5 p 5 fun v31 =>
 Ld H5 p 3 fun v32 =>
 Ld H5 p 0 fun v33 =>
 Call1 Try.prog con 69 [(ptr v 0),v32,v33,v31] H5 fun v34 H35 =>
 K (.bool true) H35) (
 Ld H5 p 3 fun v36 =>
 Ld H5 p 0 fun v37 =>
 Call1 Try.prog con 69 [(ptr v 0),v36,v37,v28] H5 fun v38 H39 =>
 K (.bool true) H39)))))))) := by kernel_rfl
theorem lockWord_W (con : CallT) (x : Nat) (H : CH) (K : KP) : funW Try.prog con 70 [u64 x] H K =
 (K (u64 ((Nat.mod (Nat.add (Nat.mod (Nat.mul 4 x) 18446744073709551616) 1) 18446744073709551616))) H) := by kernel_rfl
theorem planWord_W (con : CallT) (x : Nat) (H : CH) (K : KP) : funW Try.prog con 68 [u64 x] H K =
 (K (u64 ((Nat.mod (Nat.add (Nat.mod (Nat.mul 4 x) 18446744073709551616) 2) 18446744073709551616))) H) := by kernel_rfl
theorem readStep_W (con : CallT) (p v : Nat) (H : CH) (K : KP) : funW Try.prog con 90 [ptr p 0,ptr v 0] H K =
 (Ld H p 3 fun v1 =>
 AsBool v1 fun b2 =>
 Cd b2 (
 K (.bool true) H) (
 Ld H p 1 fun v3 =>
 IsNil .ptr v3 fun b4 =>
 Cd (notB b4) (
 Ld H p 1 fun v5 =>
 Call1 Try.prog con 72 [v5,(ptr v 0)] H fun v6 H7 =>
 AsBool v6 fun b8 =>
 Cd b8 (
 St H7 p 1 [(.pointer none)] fun H9 =>
 K (.bool false) H9) (
 K (.bool false) H7)) (
 Ld H p 2 fun v10 =>
 IsNil .ptr v10 fun b11 =>
 Cd (notB b11) (
 Ld H p 2 fun v12 =>
 Call1 Try.prog con 57 [v12,(ptr v 0)] H fun v13 H14 =>
 AsBool v13 fun b15 =>
 Cd b15 (
 St H14 p 2 [(.pointer none)] fun H16 =>
 K (.bool false) H16) (
 K (.bool false) H14)) (
 Ld H p 0 fun v17 =>
 Call1 Try.prog con 58 [(ptr v 0),v17] H fun v18 H19 =>
 AsNat .u64 v18 fun n20 =>
 Cd (eqN (Nat.mod n20 4) 1) (
 Sc v18 (Nw H19 (mkRow 162 0 [v18,(iN (0)),(u64 (0)),(u64 (0)),(u64 (0)),(u64 (0)),(u64 (0))]) fun p21 H22 =>
 St H22 p 1 [(ptr p21 0)] fun H23 =>
 Ld H23 p 3 fun v24 =>
 K v24 H23)) (
 Cd (eqN (Nat.mod n20 4) 2) (
 AsNat .u64 v18 fun n25 =>
 Call1 Try.prog con 56 [(u64 ((Nat.mod (Nat.div n25 4) 18446744073709551616)))] H19 fun v26 H27 =>
 Sc v26 (St H27 p 2 [v26] fun H28 =>
 Ld H28 p 3 fun v29 =>
 K v29 H28)) (
 AsNat .u64 v18 fun n30 =>
 St H19 p 4 [(u64 ((Nat.mod (Nat.div n30 4) 18446744073709551616)))] fun H31 =>
 St H31 p 3 [(.bool true)] fun H32 =>
 Ld H32 p 3 fun v33 =>
 K v33 H32)))))) := by kernel_rfl
end Go.Proofs.Ytoogdnemkfbgdaa

/- What some functions' texts ask for,step by step,each checked by the kernel. No conditions. -/
set_option linter.unusedVariables false
set_option maxRecDepth 100000
namespace Go.Proofs.Ytoogdnemkfbgdaa
open Go Go.CM
theorem byAddr_W (con : CallT) (a1 a2 a3 b1 b2 b3 : Nat) (H : CH) (K : KP) : funW Try.prog con 59 [.agg ⟨[u64 a1,u64 a2,u64 a3]⟩,.agg ⟨[u64 b1,u64 b2,u64 b3]⟩] H K =
 (Nw H (mkRow 70 0 [(u64 (a1)),(u64 (a2)),(u64 (a3))]) fun p1 H2 =>
 Nw H2 (mkRow 70 0 [(u64 (b1)),(u64 (b2)),(u64 (b3))]) fun p3 H4 =>
 Ld H4 p1 0 fun v5 =>
 Ld H4 p3 0 fun v6 =>
 Call1 Try.prog con 60 [v5,v6] H4 fun v7 H8 =>
 K v7 H8) := by kernel_rfl
theorem cmpCompare_W (con : CallT) (x y : Nat) (H : CH) (K : KP) : funW Try.prog con 60 [u64 x,u64 y] H K =
 (Call1 Try.prog con 63 [(u64 (x))] H fun v1 H2 =>
 Call1 Try.prog con 63 [(u64 (y))] H2 fun v3 H4 =>
 AsBool v1 fun b5 =>
 Cd b5 (
 AsBool v3 fun b6 =>
 Cd b6 (
 K (iN (0)) H4) (
 K (i64 (Int.negSucc 0)) H4)) (
 AsBool v3 fun b7 =>
 Cd b7 (
 K (iN (1)) H4) (
 Cd (ltN x y) (
 K (i64 (Int.negSucc 0)) H4) (
 Cd (ltN y x) (
 K (iN (1)) H4) (
 K (iN (0)) H4))))) := by kernel_rfl
theorem cmpNaN_W (con : CallT) (x : Nat) (H : CH) (K : KP) : funW Try.prog con 63 [u64 x] H K =
 (K (.bool (notB (eqN x x))) H) := by kernel_rfl
theorem sortE_W (con : CallT) (v : Value) (H : CH) (K : KP) : funW Try.prog con 61 [v,.func (.func 59) ⟨[]⟩ ⟨[]⟩] H K =
 (AsLen v fun l1 =>
 Must (cvOk .i64 (Int.ofNat l1)) (
 Call1 Try.prog con 65 [(u64 ((wrapN .u64 (Int.ofNat l1))))] H fun v2 H3 =>
 Call1 Try.prog con 64 [v,(iN (0)),(iN (l1)),v2,(.func (.func 59) ⟨[]⟩ ⟨[]⟩)] H3 fun v4 H5 =>
 K unit H5)) := by kernel_rfl
theorem pdqSort_W (con : CallT) (v : Value) (a b l : Int) (H : CH) (K : KP) : funW Try.prog con 64 [v,i64 a,i64 b,i64 l,.func (.func 59) ⟨[]⟩ ⟨[]⟩] H K =
 (LoopC Try.prog con (lpAt Try.prog 64 0) (upd (upd (upd (upd (upd (upd (upd (fun _ => undV) 4 (.func (.func 59) ⟨[]⟩ ⟨[]⟩)) 3 (i64 l)) 2 (i64 b)) 1 (i64 a)) 0 v) 10 (.bool true)) 11 (.bool true)) H (fun e => ceP e
 (fun a1 H2 =>
 K unit H2)
 (fun i3 => fun a1 H2 =>
 Cd (eqN i3 0) (
 K unit H2) (
 False))
 (fun a1 H2 =>
 K unit H2))) := by kernel_rfl
theorem pdqA_W (con : CallT) (a : TF) (H : CH) (K : KX) : codeW (takeC 7 (blkC (lpAt Try.prog 64 0))) Try.prog con a H K =
 (AsInt .i64 (a 2) fun z1 =>
 AsInt .i64 (a 1) fun z2 =>
 InR (Int.sub z1 z2) (
 Cd (leZ (Int.sub z1 z2) (Int.ofNat 12)) (
 Call1 Try.prog con 74 [(a 0),(a 1),(a 2),(a 4)] H fun v3 H4 =>
 K .ret (upd (upd (upd (upd (upd (upd (upd (upd (upd (upd (upd a 21 (a 2)) 22 (a 1)) 23 (i64 (Int.sub z1 z2))) 12 (i64 (Int.sub z1 z2))) 24 (i64 (Int.sub z1 z2))) 25 (.bool (leZ (Int.sub z1 z2) (Int.ofNat 12)))) 26 (a 0)) 27 (a 1)) 28 (a 2)) 29 (a 4)) 30 v3) H4) (
 AsInt .i64 (a 3) fun z5 =>
 Cd (eqZ z5 (Int.ofNat 0)) (
 Call1 Try.prog con 75 [(a 0),(a 1),(a 2),(a 4)] H fun v6 H7 =>
 K .ret (upd (upd (upd (upd (upd (upd (upd (upd (upd (upd (upd (upd (upd a 21 (a 2)) 22 (a 1)) 23 (i64 (Int.sub z1 z2))) 12 (i64 (Int.sub z1 z2))) 24 (i64 (Int.sub z1 z2))) 25 (.bool (leZ (Int.sub z1 z2) (Int.ofNat 12)))) 31 (a 3)) 32 (.bool (eqZ z5 (Int.ofNat 0)))) 33 (a 0)) 34 (a 1)) 35 (a 2)) 36 (a 4)) 37 v6) H7) (
 AsBool (a 10) fun b8 =>
 Cd (notB b8) (
 Call1 Try.prog con 76 [(a 0),(a 1),(a 2),(a 4)] H fun v9 H10 =>
 AsInt .i64 (a 3) fun z11 =>
 InR (Int.sub z11 (Int.ofNat 1)) (
 K .normal (upd (upd (upd (upd (upd (upd (upd (upd (upd (upd (upd (upd (upd (upd (upd (upd (upd (upd a 21 (a 2)) 22 (a 1)) 23 (i64 (Int.sub z1 z2))) 12 (i64 (Int.sub z1 z2))) 24 (i64 (Int.sub z1 z2))) 25 (.bool (leZ (Int.sub z1 z2) (Int.ofNat 12)))) 31 (a 3)) 32 (.bool (eqZ z5 (Int.ofNat 0)))) 38 (a 10)) 39 (.bool (notB b8))) 40 (a 0)) 41 (a 1)) 42 (a 2)) 43 (a 4)) 44 v9) 45 (a 3)) 46 (i64 (Int.sub z11 (Int.ofNat 1)))) 3 (i64 (Int.sub z11 (Int.ofNat 1)))) H10)) (
 K .normal (upd (upd (upd (upd (upd (upd (upd (upd (upd (upd a 21 (a 2)) 22 (a 1)) 23 (i64 (Int.sub z1 z2))) 12 (i64 (Int.sub z1 z2))) 24 (i64 (Int.sub z1 z2))) 25 (.bool (leZ (Int.sub z1 z2) (Int.ofNat 12)))) 31 (a 3)) 32 (.bool (eqZ z5 (Int.ofNat 0)))) 38 (a 10)) 39 (.bool (notB b8))) H))))) := by kernel_rfl
theorem pdqB_W (con : CallT) (a : TF) (H : CH) (K : KX) : codeW (sliceC 7 5 (blkC (lpAt Try.prog 64 0))) Try.prog con a H K =
 (Call1 Try.prog con 77 [(a 0),(a 1),(a 2),(a 4)] H fun v1 H2 =>
 AsTup v1 fun l3 =>
 Nth l3 0 fun v4 =>
 AsTup v1 fun l5 =>
 Nth l5 1 fun v6 =>
 AsInt .i64 v6 fun z7 =>
 Bnd (upd (upd (upd (upd (upd (upd (upd (upd (upd (upd (upd (upd a 48 (a 0)) 49 (a 1)) 50 (a 2)) 51 (a 4)) 52 v1) 47 v1) 53 v4) 54 v6) 13 v4) 14 v6) 55 v6) 56 (.bool (eqZ z7 (Int.ofNat 2)))) fun s1 =>
Cd (eqZ z7 (Int.ofNat 2)) (
 Call1 Try.prog con 78 [(a 0),(a 1),(a 2),(a 4)] H2 fun v8 H9 =>
 AsInt .i64 (a 2) fun z10 =>
 InR (Int.sub z10 (Int.ofNat 1)) (
 AsInt .i64 v4 fun z11 =>
 AsInt .i64 (a 1) fun z12 =>
 InR (Int.sub z11 z12) (
 InR (Int.sub (Int.sub z10 (Int.ofNat 1)) (Int.sub z11 z12)) (
 AsWant (a 10) (False) fun b13 =>
 Bnd (upd (upd (upd (upd (upd (upd (upd (upd (upd (upd (upd (upd (upd (upd (upd s1 57 (a 0)) 58 (a 1)) 59 (a 2)) 60 (a 4)) 61 v8) 62 (a 2)) 63 (i64 (Int.sub z10 (Int.ofNat 1)))) 64 v4) 65 (a 1)) 66 (i64 (Int.sub z11 z12))) 67 (i64 (Int.sub (Int.sub z10 (Int.ofNat 1)) (Int.sub z11 z12)))) 13 (i64 (Int.sub (Int.sub z10 (Int.ofNat 1)) (Int.sub z11 z12)))) 14 (iN (1))) 68 (a 10)) 69 (a 10)) fun s2 =>
Cd b13 (
 AsWant (a 11) (False) fun b14 =>
 Cd b14 (
 Call1 Try.prog con 79 [(a 0),(a 1),(a 2),(a 4)] H9 fun v15 H16 =>
 AsBool v15 fun b17 =>
 Cd b17 (
 K .ret (upd (upd (upd (upd (upd (upd (upd (upd (upd (upd (upd (upd (upd (upd s2 69 (.bool true)) 70 (a 11)) 71 (a 11)) 72 (a 11)) 72 (.bool true)) 73 (iN (1))) 72 (.bool true)) 74 (.bool true)) 75 (.bool true)) 76 (a 0)) 77 (a 1)) 78 (a 2)) 79 (a 4)) 80 v15) H16) (
 K .normal (upd (upd (upd (upd (upd (upd (upd (upd (upd (upd (upd (upd (upd (upd s2 69 (.bool true)) 70 (a 11)) 71 (a 11)) 72 (a 11)) 72 (.bool true)) 73 (iN (1))) 72 (.bool true)) 74 (.bool true)) 75 (.bool true)) 76 (a 0)) 77 (a 1)) 78 (a 2)) 79 (a 4)) 80 v15) H16)) (
 K .normal (upd (Rz false 72 (upd (upd (upd (upd s2 69 (.bool true)) 70 (a 11)) 71 (a 11)) 72 (a 11)) 73 2) 75 (.bool false)) H9)) (
 K .normal (upd (Rz false 72 (upd (upd (upd (upd s2 69 (.bool false)) 70 unit) 71 (.bool false)) 72 (.bool false)) 73 2) 75 (.bool false)) H9))))) (
 AsWant (a 10) (False) fun b18 =>
 Cd b18 (
 AsWant (a 11) (False) fun b19 =>
 Bnd (upd (upd (upd (upd (upd (upd s1 68 (a 10)) 69 (a 10)) 69 (.bool true)) 70 (a 11)) 71 (a 11)) 72 (a 11)) fun s3 =>
Cd b19 (
 AsInt .i64 v6 fun z20 =>
 Cd (eqZ z20 (Int.ofNat 1)) (
 Call1 Try.prog con 79 [(a 0),(a 1),(a 2),(a 4)] H2 fun v21 H22 =>
 AsBool v21 fun b23 =>
 Cd b23 (
 K .ret (upd (upd (upd (upd (upd (upd (upd (upd (upd (upd s3 72 (.bool true)) 73 v6) 72 (.bool true)) 74 (.bool (eqZ z20 (Int.ofNat 1)))) 75 (.bool (eqZ z20 (Int.ofNat 1)))) 76 (a 0)) 77 (a 1)) 78 (a 2)) 79 (a 4)) 80 v21) H22) (
 K .normal (upd (upd (upd (upd (upd (upd (upd (upd (upd (upd s3 72 (.bool true)) 73 v6) 72 (.bool true)) 74 (.bool (eqZ z20 (Int.ofNat 1)))) 75 (.bool (eqZ z20 (Int.ofNat 1)))) 76 (a 0)) 77 (a 1)) 78 (a 2)) 79 (a 4)) 80 v21) H22)) (
 K .normal (upd (upd (upd (upd (upd s3 72 (.bool true)) 73 v6) 72 (.bool true)) 74 (.bool (eqZ z20 (Int.ofNat 1)))) 75 (.bool (eqZ z20 (Int.ofNat 1)))) H2)) (
 K .normal (upd (Rz false 72 s3 73 2) 75 (.bool false)) H2)) (
 K .normal (upd (Rz false 72 (upd (upd (upd (upd (upd (upd s1 68 (a 10)) 69 (a 10)) 69 (.bool false)) 70 unit) 71 (.bool false)) 72 (.bool false)) 73 2) 75 (.bool false)) H2))) := by kernel_rfl
theorem pdqC_W (con : CallT) (a : TF) (H : CH) (K : KX) : codeW (sliceC 12 2 (blkC (lpAt Try.prog 64 0))) Try.prog con a H K =
 (AsInt .i64 (a 1) fun z1 =>
 Bnd (upd (upd (upd a 81 (a 1)) 82 (.bool (ltZ (Int.ofNat 0) z1))) 83 (.bool (ltZ (Int.ofNat 0) z1))) fun s1 =>
Cd (ltZ (Int.ofNat 0) z1) (
 AsInt .i64 (a 1) fun z2 =>
 InR (Int.sub z2 (Int.ofNat 1)) (
 AsSlc (a 0) fun p3 o4 l5 c6 =>
 AsCnt (i64 (Int.sub z2 (Int.ofNat 1))) fun n7 =>
 Must (ltN n7 l5) (
 Ld H p3 (Nat.add (Nat.add o4 (Nat.mul n7 3)) 0) fun v8 =>
 Ld H p3 (Nat.add (Nat.add o4 (Nat.mul n7 3)) 1) fun v9 =>
 Ld H p3 (Nat.add (Nat.add o4 (Nat.mul n7 3)) 2) fun v10 =>
 AsSlc (a 0) fun p11 o12 l13 c14 =>
 AsCnt (a 13) fun n15 =>
 Must (ltN n15 l13) (
 Ld H p11 (Nat.add (Nat.add o12 (Nat.mul n15 3)) 0) fun v16 =>
 Ld H p11 (Nat.add (Nat.add o12 (Nat.mul n15 3)) 1) fun v17 =>
 Ld H p11 (Nat.add (Nat.add o12 (Nat.mul n15 3)) 2) fun v18 =>
 AsFn (a 4) fun g19 l20 l21 =>
 Must (isFunT Try.prog g19) (
 Call1 Try.prog con g19 (appF l20 ((.agg ⟨[v8,v9,v10]⟩)::(.agg ⟨[v16,v17,v18]⟩)::l21)) H fun v22 H23 =>
 AsInt .i64 v22 fun z24 =>
 Bnd (upd (upd (upd (upd (upd (upd (upd (upd (upd (upd (upd (upd (upd (upd (upd (upd (upd (upd (upd (upd (upd (upd (upd (upd (upd (upd (upd s1 83 (.bool true)) 84 (a 4)) 83 (.bool true)) 85 (a 0)) 83 (.bool true)) 86 (a 1)) 83 (.bool true)) 87 (i64 (Int.sub z2 (Int.ofNat 1)))) 83 (.bool true)) 88 (ptr p3 (Nat.add o4 (Nat.mul n7 3)))) 83 (.bool true)) 89 (.agg ⟨[v8,v9,v10]⟩)) 83 (.bool true)) 90 (a 0)) 83 (.bool true)) 91 (a 13)) 83 (.bool true)) 92 (ptr p11 (Nat.add o12 (Nat.mul n15 3)))) 83 (.bool true)) 93 (.agg ⟨[v16,v17,v18]⟩)) 83 (.bool true)) 94 v22) 83 (.bool true)) 95 (.bool (ltZ z24 (Int.ofNat 0)))) 83 (.bool true)) 96 (.bool (notB (ltZ z24 (Int.ofNat 0))))) 97 (.bool (notB (ltZ z24 (Int.ofNat 0))))) fun s2 =>
Cd (notB (ltZ z24 (Int.ofNat 0))) (
 Call1 Try.prog con 80 [(a 0),(a 1),(a 2),(a 13),(a 4)] H23 fun v25 H26 =>
 K (.exit 1) (upd (upd (upd (upd (upd (upd (upd (upd (upd s2 98 (a 0)) 99 (a 1)) 100 (a 2)) 101 (a 13)) 102 (a 4)) 103 v25) 15 v25) 104 v25) 1 v25) H26) (
 K .normal s2 H23)))))) (
 K .normal (upd (Rz false 83 s1 84 13) 97 (.bool false)) H)) := by kernel_rfl
theorem pdqD_W (con : CallT) (a : TF) (H : CH) (K : KX) : codeW (dropC 14 (blkC (lpAt Try.prog 64 0))) Try.prog con a H K =
 (Call1 Try.prog con 81 [(a 0),(a 1),(a 2),(a 13),(a 4)] H fun v1 H2 =>
 AsTup v1 fun l3 =>
 Nth l3 0 fun v4 =>
 AsTup v1 fun l5 =>
 Nth l5 1 fun v6 =>
 AsInt .i64 v4 fun z7 =>
 AsInt .i64 (a 1) fun z8 =>
 InR (Int.sub z7 z8) (
 AsInt .i64 (a 2) fun z9 =>
 AsInt .i64 v4 fun z10 =>
 InR (Int.sub z9 z10) (
 AsInt .i64 (a 12) fun z11 =>
 CInt .quo .i64 z11 (Int.ofNat 8) fun v12 =>
 Cd (ltZ (Int.sub z7 z8) (Int.sub z9 z10)) (
 AsInt .i64 v12 fun z13 =>
 Call1 Try.prog con 64 [(a 0),(a 1),v4,(a 3),(a 4)] H2 fun v14 H15 =>
 AsInt .i64 v4 fun z16 =>
 InR (Int.add z16 (Int.ofNat 1)) (
 K .normal (upd (upd (upd (upd (upd (upd (upd (upd (upd (upd (upd (upd (upd (upd (upd (upd (upd (upd (upd (upd (upd (upd (upd (upd (upd (upd (upd (upd (upd (upd (upd (upd (upd (upd (upd (upd (upd (upd (upd (upd a 106 (a 0)) 107 (a 1)) 108 (a 2)) 109 (a 13)) 110 (a 4)) 111 v1) 105 v1) 112 v4) 113 v6) 16 v4) 17 v6) 114 v6) 11 v6) 115 v4) 116 (a 1)) 117 (i64 (Int.sub z7 z8))) 118 (a 2)) 119 v4) 120 (i64 (Int.sub z9 z10))) 18 (i64 (Int.sub z7 z8))) 19 (i64 (Int.sub z9 z10))) 121 (a 12)) 122 v12) 20 v12) 123 (i64 (Int.sub z7 z8))) 124 (i64 (Int.sub z9 z10))) 125 (.bool (ltZ (Int.sub z7 z8) (Int.sub z9 z10)))) 126 (i64 (Int.sub z7 z8))) 127 v12) 128 (.bool (leZ z13 (Int.sub z7 z8)))) 10 (.bool (leZ z13 (Int.sub z7 z8)))) 129 (a 0)) 130 (a 1)) 131 v4) 132 (a 3)) 133 (a 4)) 134 v14) 135 v4) 136 (i64 (Int.add z16 (Int.ofNat 1)))) 1 (i64 (Int.add z16 (Int.ofNat 1)))) H15)) (
 AsInt .i64 v12 fun z17 =>
 AsInt .i64 v4 fun z18 =>
 InR (Int.add z18 (Int.ofNat 1)) (
 Call1 Try.prog con 64 [(a 0),(i64 (Int.add z18 (Int.ofNat 1))),(a 2),(a 3),(a 4)] H2 fun v19 H20 =>
 K .normal (upd (upd (upd (upd (upd (upd (upd (upd (upd (upd (upd (upd (upd (upd (upd (upd (upd (upd (upd (upd (upd (upd (upd (upd (upd (upd (upd (upd (upd (upd (upd (upd (upd (upd (upd (upd (upd (upd (upd (upd a 106 (a 0)) 107 (a 1)) 108 (a 2)) 109 (a 13)) 110 (a 4)) 111 v1) 105 v1) 112 v4) 113 v6) 16 v4) 17 v6) 114 v6) 11 v6) 115 v4) 116 (a 1)) 117 (i64 (Int.sub z7 z8))) 118 (a 2)) 119 v4) 120 (i64 (Int.sub z9 z10))) 18 (i64 (Int.sub z7 z8))) 19 (i64 (Int.sub z9 z10))) 121 (a 12)) 122 v12) 20 v12) 123 (i64 (Int.sub z7 z8))) 124 (i64 (Int.sub z9 z10))) 125 (.bool (ltZ (Int.sub z7 z8) (Int.sub z9 z10)))) 137 (i64 (Int.sub z9 z10))) 138 v12) 139 (.bool (leZ z17 (Int.sub z9 z10)))) 10 (.bool (leZ z17 (Int.sub z9 z10)))) 140 (a 0)) 141 v4) 142 (i64 (Int.add z18 (Int.ofNat 1)))) 143 (a 2)) 144 (a 3)) 145 (a 4)) 146 v19) 147 v4) 2 v4) H20))))) := by kernel_rfl
theorem bitsLen_W (con : CallT) (n : Nat) (H : CH) (K : KP) : funW Try.prog con 65 [u64 n] H K =
 (Call1 Try.prog con 83 [(u64 (n))] H fun v1 H2 =>
 K v1 H2) := by kernel_rfl
theorem insSort_W (con : CallT) (v : Value) (a b : Int) (H : CH) (K : KP) : funW Try.prog con 74 [v,i64 a,i64 b,.func (.func 59) ⟨[]⟩ ⟨[]⟩] H K =
 (InR (Int.add a (Int.ofNat 1)) (
 LoopC Try.prog con (lpAt Try.prog 74 0) (upd (upd (upd (upd (upd (upd (upd (fun _ => undV) 3 (.func (.func 59) ⟨[]⟩ ⟨[]⟩)) 2 (i64 b)) 1 (i64 a)) 0 v) 10 (i64 a)) 11 (i64 (Int.add a (Int.ofNat 1)))) 8 (i64 (Int.add a (Int.ofNat 1)))) H (fun e => ceP e
 (fun a1 H2 =>
 K unit H2)
 (fun i3 => fun a1 H2 =>
 Cd (eqN i3 0) (
 K unit H2) (
 False))
 (fun a1 H2 =>
 K unit H2)))) := by kernel_rfl
theorem insSortA_W (con : CallT) (a : TF) (H : CH) (K : KX) : codeW (lpAt Try.prog 74 0) Try.prog con a H K =
 (AsInt .i64 (a 8) fun z1 =>
 AsInt .i64 (a 2) fun z2 =>
 Cd (ltZ z1 z2) (
 LoopC Try.prog con (lpAt Try.prog 74 1) (upd (upd (upd (upd (upd a 12 (a 8)) 13 (a 2)) 14 (.bool (ltZ z1 z2))) 17 (a 8)) 9 (a 8)) H (fun e => ceP e
 (fun a3 H4 =>
 AsInt .i64 (a3 8) fun z6 =>
 InR (Int.add z6 (Int.ofNat 1)) (
 K .normal (upd (upd (upd a3 15 (a3 8)) 16 (i64 (Int.add z6 (Int.ofNat 1)))) 8 (i64 (Int.add z6 (Int.ofNat 1)))) H4))
 (fun i5 => fun a3 H4 =>
 Cd (eqN i5 2) (
 AsInt .i64 (a3 8) fun z7 =>
 InR (Int.add z7 (Int.ofNat 1)) (
 K .normal (upd (upd (upd a3 15 (a3 8)) 16 (i64 (Int.add z7 (Int.ofNat 1)))) 8 (i64 (Int.add z7 (Int.ofNat 1)))) H4)) (
 Cd (eqN i5 1) (
 AsInt .i64 (a3 8) fun z8 =>
 InR (Int.add z8 (Int.ofNat 1)) (
 K .normal (upd (upd (upd a3 15 (a3 8)) 16 (i64 (Int.add z8 (Int.ofNat 1)))) 8 (i64 (Int.add z8 (Int.ofNat 1)))) H4)) (
 K (.exit i5) a3 H4)))
 (fun a3 H4 =>
 K .ret a3 H4))) (
 K (.exit 0) (upd (upd (upd a 12 (a 8)) 13 (a 2)) 14 (.bool (ltZ z1 z2))) H)) := by kernel_rfl
theorem insSortB_W (con : CallT) (a : TF) (H : CH) (K : KX) : codeW (lpAt Try.prog 74 1) Try.prog con a H K =
 (AsInt .i64 (a 9) fun z1 =>
 AsInt .i64 (a 1) fun z2 =>
 Bnd (upd (upd (upd (upd a 18 (a 9)) 19 (a 1)) 20 (.bool (ltZ z2 z1))) 21 (.bool (ltZ z2 z1))) fun s1 =>
Cd (ltZ z2 z1) (
 AsSlc (a 0) fun p3 o4 l5 c6 =>
 AsCnt (a 9) fun n7 =>
 Must (ltN n7 l5) (
 Ld H p3 (Nat.add (Nat.add o4 (Nat.mul n7 3)) 0) fun v8 =>
 Ld H p3 (Nat.add (Nat.add o4 (Nat.mul n7 3)) 1) fun v9 =>
 Ld H p3 (Nat.add (Nat.add o4 (Nat.mul n7 3)) 2) fun v10 =>
 AsInt .i64 (a 9) fun z11 =>
 InR (Int.sub z11 (Int.ofNat 1)) (
 AsSlc (a 0) fun p12 o13 l14 c15 =>
 AsCnt (i64 (Int.sub z11 (Int.ofNat 1))) fun n16 =>
 Must (ltN n16 l14) (
 Ld H p12 (Nat.add (Nat.add o13 (Nat.mul n16 3)) 0) fun v17 =>
 Ld H p12 (Nat.add (Nat.add o13 (Nat.mul n16 3)) 1) fun v18 =>
 Ld H p12 (Nat.add (Nat.add o13 (Nat.mul n16 3)) 2) fun v19 =>
 AsFn (a 3) fun g20 l21 l22 =>
 Must (isFunT Try.prog g20) (
 Call1 Try.prog con g20 (appF l21 ((.agg ⟨[v8,v9,v10]⟩)::(.agg ⟨[v17,v18,v19]⟩)::l22)) H fun v23 H24 =>
 AsInt .i64 v23 fun z25 =>
 Bnd (upd (upd (upd (upd (upd (upd (upd (upd (upd (upd (upd (upd (upd (upd (upd (upd (upd (upd (upd (upd (upd (upd (upd (upd (upd s1 21 (.bool true)) 22 (a 3)) 21 (.bool true)) 23 (a 0)) 21 (.bool true)) 24 (a 9)) 21 (.bool true)) 25 (ptr p3 (Nat.add o4 (Nat.mul n7 3)))) 21 (.bool true)) 26 (.agg ⟨[v8,v9,v10]⟩)) 21 (.bool true)) 27 (a 0)) 21 (.bool true)) 28 (a 9)) 21 (.bool true)) 29 (i64 (Int.sub z11 (Int.ofNat 1)))) 21 (.bool true)) 30 (ptr p12 (Nat.add o13 (Nat.mul n16 3)))) 21 (.bool true)) 31 (.agg ⟨[v17,v18,v19]⟩)) 21 (.bool true)) 32 v23) 21 (.bool true)) 33 (.bool (ltZ z25 (Int.ofNat 0)))) 34 (.bool (ltZ z25 (Int.ofNat 0)))) fun s2 =>
Cd (ltZ z25 (Int.ofNat 0)) (
 AsInt .i64 (a 9) fun z26 =>
 InR (Int.sub z26 (Int.ofNat 1)) (
 AsInt .i64 (a 9) fun z27 =>
 InR (Int.sub z27 (Int.ofNat 1)) (
 AsSlc (a 0) fun p28 o29 l30 c31 =>
 AsCnt (i64 (Int.sub z27 (Int.ofNat 1))) fun n32 =>
 Must (ltN n32 l30) (
 Ld H24 p28 (Nat.add (Nat.add o29 (Nat.mul n32 3)) 0) fun v33 =>
 Ld H24 p28 (Nat.add (Nat.add o29 (Nat.mul n32 3)) 1) fun v34 =>
 Ld H24 p28 (Nat.add (Nat.add o29 (Nat.mul n32 3)) 2) fun v35 =>
 AsSlc (a 0) fun p36 o37 l38 c39 =>
 AsCnt (a 9) fun n40 =>
 Must (ltN n40 l38) (
 Ld H24 p36 (Nat.add (Nat.add o37 (Nat.mul n40 3)) 0) fun v41 =>
 Ld H24 p36 (Nat.add (Nat.add o37 (Nat.mul n40 3)) 1) fun v42 =>
 Ld H24 p36 (Nat.add (Nat.add o37 (Nat.mul n40 3)) 2) fun v43 =>
 AsSlc (a 0) fun p44 o45 l46 c47 =>
 AsCnt (a 9) fun n48 =>
 Must (ltN n48 l46) (
 St H24 p44 (Nat.add o45 (Nat.mul n48 3)) [v33,v34,v35] fun H49 =>
 AsSlc (a 0) fun p50 o51 l52 c53 =>
 AsCnt (i64 (Int.sub z26 (Int.ofNat 1))) fun n54 =>
 Must (ltN n54 l52) (
 St H49 p50 (Nat.add o51 (Nat.mul n54 3)) [v41,v42,v43] fun H55 =>
 AsInt .i64 (a 9) fun z56 =>
 InR (Int.sub z56 (Int.ofNat 1)) (
 K .normal (upd (upd (upd (upd (upd (upd (upd (upd (upd (upd (upd (upd (upd (upd (upd (upd (upd (upd (upd s2 37 (a 0)) 38 (a 9)) 39 (a 0)) 40 (a 9)) 41 (i64 (Int.sub z26 (Int.ofNat 1)))) 42 (a 0)) 43 (a 9)) 44 (i64 (Int.sub z27 (Int.ofNat 1)))) 45 (ptr p28 (Nat.add o29 (Nat.mul n32 3)))) 46 (.agg ⟨[v33,v34,v35]⟩)) 47 (a 0)) 48 (a 9)) 49 (ptr p36 (Nat.add o37 (Nat.mul n40 3)))) 50 (.agg ⟨[v41,v42,v43]⟩)) 51 (ptr p44 (Nat.add o45 (Nat.mul n48 3)))) 52 (ptr p50 (Nat.add o51 (Nat.mul n54 3)))) 35 (a 9)) 36 (i64 (Int.sub z56 (Int.ofNat 1)))) 9 (i64 (Int.sub z56 (Int.ofNat 1)))) H55)))))))) (
 K (.exit 2) s2 H24)))))) (
 K (.exit 2) (upd (Rz false 21 s1 22 12) 34 (.bool false)) H)) := by kernel_rfl
theorem breakPat_W (con : CallT) (v : Value) (a b : Int) (H : CH) (K : KP) : funW Try.prog con 76 [v,i64 a,i64 b,.func (.func 59) ⟨[]⟩ ⟨[]⟩] H K =
 (InR (Int.sub b a) (
 Cd (leZ (Int.ofNat 8) (Int.sub b a)) (
 Must (cvOk .i64 (Int.sub b a)) (
 Nw H (mkRow 163 0 [(u64 (0))]) fun p1 H2 =>
 St H2 p1 0 [(u64 ((wrapN .u64 (Int.sub b a))))] fun H3 =>
 Call1 Try.prog con 85 [(i64 (Int.sub b a))] H3 fun v4 H5 =>
 CInt .quo .i64 (Int.sub b a) (Int.ofNat 4) fun v6 =>
 AsInt .i64 v6 fun z7 =>
 CInt .mul .i64 z7 (Int.ofNat 2) fun v8 =>
 AsInt .i64 v8 fun z9 =>
 InR (Int.add a z9) (
 InR (Int.sub (Int.add a z9) (Int.ofNat 1)) (
 LoopC Try.prog con (lpAt Try.prog 76 0) (upd (upd (upd (upd (upd (upd (upd (upd (upd (upd (upd (upd (upd (upd (upd (upd (upd (upd (upd (upd (upd (upd (upd (fun _ => undV) 3 (.func (.func 59) ⟨[]⟩ ⟨[]⟩)) 2 (i64 b)) 1 (i64 a)) 0 v) 13 (i64 b)) 14 (i64 a)) 15 (i64 (Int.sub b a))) 8 (i64 (Int.sub b a))) 16 (i64 (Int.sub b a))) 17 (.bool (leZ (Int.ofNat 8) (Int.sub b a)))) 18 (i64 (Int.sub b a))) 19 (u64 ((wrapN .u64 (Int.sub b a))))) 9 (ptr p1 0)) 20 (i64 (Int.sub b a))) 21 v4) 10 v4) 22 (i64 a)) 23 (i64 (Int.sub b a))) 24 v6) 25 v8) 26 (i64 (Int.add a z9))) 27 (i64 (Int.sub (Int.add a z9) (Int.ofNat 1)))) 11 (i64 (Int.sub (Int.add a z9) (Int.ofNat 1)))) H5 (fun e => ceP e
 (fun a10 H11 =>
 K unit H11)
 (fun i12 => fun a10 H11 =>
 Cd (eqN i12 0) (
 K unit H11) (
 False))
 (fun a10 H11 =>
 K unit H11)))))) (
 K unit H))) := by kernel_rfl
theorem breakPatL_W (con : CallT) (a : TF) (H : CH) (K : KX) : codeW (lpAt Try.prog 76 0) Try.prog con a H K =
 (AsInt .i64 (a 8) fun z1 =>
 CInt .quo .i64 z1 (Int.ofNat 4) fun v2 =>
 AsInt .i64 v2 fun z3 =>
 CInt .mul .i64 z3 (Int.ofNat 2) fun v4 =>
 AsInt .i64 (a 1) fun z5 =>
 AsInt .i64 v4 fun z6 =>
 InR (Int.add z5 z6) (
 InR (Int.add (Int.add z5 z6) (Int.ofNat 1)) (
 AsInt .i64 (a 11) fun z7 =>
 Bnd (upd (upd (upd (upd (upd (upd (upd (upd a 28 (a 11)) 29 (a 1)) 30 (a 8)) 31 v2) 32 v4) 33 (i64 (Int.add z5 z6))) 34 (i64 (Int.add (Int.add z5 z6) (Int.ofNat 1)))) 35 (.bool (leZ z7 (Int.add (Int.add z5 z6) (Int.ofNat 1))))) fun s1 =>
Cd (leZ z7 (Int.add (Int.add z5 z6) (Int.ofNat 1))) (
 Call1 Try.prog con 86 [(a 9)] H fun v8 H9 =>
 AsNat .u64 (a 10) fun n10 =>
 AsNat .u64 v8 fun n11 =>
 CInt .and .u64 (Int.ofNat n11) (Int.ofNat (Go.CM.subM 18446744073709551616 n10 1)) fun v12 =>
 AsNat .u64 v12 fun n13 =>
 AsInt .i64 (a 8) fun z14 =>
 Bnd (upd (upd (upd (upd (upd (upd (upd (upd (upd s1 38 v8) 39 (a 10)) 40 (u64 ((Go.CM.subM 18446744073709551616 n10 1)))) 41 v12) 42 (i64 (IntKind.wrap .i64 (Int.ofNat n13)))) 12 (i64 (IntKind.wrap .i64 (Int.ofNat n13)))) 43 (i64 (IntKind.wrap .i64 (Int.ofNat n13)))) 44 (a 8)) 45 (.bool (leZ z14 (IntKind.wrap .i64 (Int.ofNat n13))))) fun s2 =>
Cd (leZ z14 (IntKind.wrap .i64 (Int.ofNat n13))) (
 AsInt .i64 (a 8) fun z15 =>
 InR (Int.sub (IntKind.wrap .i64 (Int.ofNat n13)) z15) (
 AsInt .i64 (a 1) fun z16 =>
 InR (Int.add z16 (Int.sub (IntKind.wrap .i64 (Int.ofNat n13)) z15)) (
 AsInt .i64 (a 1) fun z17 =>
 InR (Int.add z17 (Int.sub (IntKind.wrap .i64 (Int.ofNat n13)) z15)) (
 AsSlc (a 0) fun p18 o19 l20 c21 =>
 AsCnt (i64 (Int.add z17 (Int.sub (IntKind.wrap .i64 (Int.ofNat n13)) z15))) fun n22 =>
 Must (ltN n22 l20) (
 Ld H9 p18 (Nat.add (Nat.add o19 (Nat.mul n22 3)) 0) fun v23 =>
 Ld H9 p18 (Nat.add (Nat.add o19 (Nat.mul n22 3)) 1) fun v24 =>
 Ld H9 p18 (Nat.add (Nat.add o19 (Nat.mul n22 3)) 2) fun v25 =>
 AsSlc (a 0) fun p26 o27 l28 c29 =>
 AsCnt (a 11) fun n30 =>
 Must (ltN n30 l28) (
 Ld H9 p26 (Nat.add (Nat.add o27 (Nat.mul n30 3)) 0) fun v31 =>
 Ld H9 p26 (Nat.add (Nat.add o27 (Nat.mul n30 3)) 1) fun v32 =>
 Ld H9 p26 (Nat.add (Nat.add o27 (Nat.mul n30 3)) 2) fun v33 =>
 AsSlc (a 0) fun p34 o35 l36 c37 =>
 AsCnt (a 11) fun n38 =>
 Must (ltN n38 l36) (
 St H9 p34 (Nat.add o35 (Nat.mul n38 3)) [v23,v24,v25] fun H39 =>
 AsSlc (a 0) fun p40 o41 l42 c43 =>
 AsCnt (i64 (Int.add z16 (Int.sub (IntKind.wrap .i64 (Int.ofNat n13)) z15))) fun n44 =>
 Must (ltN n44 l42) (
 St H39 p40 (Nat.add o41 (Nat.mul n44 3)) [v31,v32,v33] fun H45 =>
 AsInt .i64 (a 11) fun z46 =>
 InR (Int.add z46 (Int.ofNat 1)) (
 K .normal (upd (upd (upd (upd (upd (upd (upd (upd (upd (upd (upd (upd (upd (upd (upd (upd (upd (upd (upd (upd (upd (upd (upd (upd (upd s2 46 (i64 (IntKind.wrap .i64 (Int.ofNat n13)))) 47 (a 8)) 48 (i64 (Int.sub (IntKind.wrap .i64 (Int.ofNat n13)) z15))) 12 (i64 (Int.sub (IntKind.wrap .i64 (Int.ofNat n13)) z15))) 49 (a 0)) 50 (a 11)) 51 (a 0)) 52 (a 1)) 53 (i64 (Int.sub (IntKind.wrap .i64 (Int.ofNat n13)) z15))) 54 (i64 (Int.add z16 (Int.sub (IntKind.wrap .i64 (Int.ofNat n13)) z15)))) 55 (a 0)) 56 (a 1)) 57 (i64 (Int.sub (IntKind.wrap .i64 (Int.ofNat n13)) z15))) 58 (i64 (Int.add z17 (Int.sub (IntKind.wrap .i64 (Int.ofNat n13)) z15)))) 59 (ptr p18 (Nat.add o19 (Nat.mul n22 3)))) 60 (.agg ⟨[v23,v24,v25]⟩)) 61 (a 0)) 62 (a 11)) 63 (ptr p26 (Nat.add o27 (Nat.mul n30 3)))) 64 (.agg ⟨[v31,v32,v33]⟩)) 65 (ptr p34 (Nat.add o35 (Nat.mul n38 3)))) 66 (ptr p40 (Nat.add o41 (Nat.mul n44 3)))) 36 (a 11)) 37 (i64 (Int.add z46 (Int.ofNat 1)))) 11 (i64 (Int.add z46 (Int.ofNat 1)))) H45))))))))) (
 AsInt .i64 (a 1) fun z47 =>
 InR (Int.add z47 (IntKind.wrap .i64 (Int.ofNat n13))) (
 AsInt .i64 (a 1) fun z48 =>
 InR (Int.add z48 (IntKind.wrap .i64 (Int.ofNat n13))) (
 AsSlc (a 0) fun p49 o50 l51 c52 =>
 AsCnt (i64 (Int.add z48 (IntKind.wrap .i64 (Int.ofNat n13)))) fun n53 =>
 Must (ltN n53 l51) (
 Ld H9 p49 (Nat.add (Nat.add o50 (Nat.mul n53 3)) 0) fun v54 =>
 Ld H9 p49 (Nat.add (Nat.add o50 (Nat.mul n53 3)) 1) fun v55 =>
 Ld H9 p49 (Nat.add (Nat.add o50 (Nat.mul n53 3)) 2) fun v56 =>
 AsSlc (a 0) fun p57 o58 l59 c60 =>
 AsCnt (a 11) fun n61 =>
 Must (ltN n61 l59) (
 Ld H9 p57 (Nat.add (Nat.add o58 (Nat.mul n61 3)) 0) fun v62 =>
 Ld H9 p57 (Nat.add (Nat.add o58 (Nat.mul n61 3)) 1) fun v63 =>
 Ld H9 p57 (Nat.add (Nat.add o58 (Nat.mul n61 3)) 2) fun v64 =>
 AsSlc (a 0) fun p65 o66 l67 c68 =>
 AsCnt (a 11) fun n69 =>
 Must (ltN n69 l67) (
 St H9 p65 (Nat.add o66 (Nat.mul n69 3)) [v54,v55,v56] fun H70 =>
 AsSlc (a 0) fun p71 o72 l73 c74 =>
 AsCnt (i64 (Int.add z47 (IntKind.wrap .i64 (Int.ofNat n13)))) fun n75 =>
 Must (ltN n75 l73) (
 St H70 p71 (Nat.add o72 (Nat.mul n75 3)) [v62,v63,v64] fun H76 =>
 AsInt .i64 (a 11) fun z77 =>
 InR (Int.add z77 (Int.ofNat 1)) (
 K .normal (upd (upd (upd (upd (upd (upd (upd (upd (upd (upd (upd (upd (upd (upd (upd (upd (upd (upd (upd (upd (upd s2 49 (a 0)) 50 (a 11)) 51 (a 0)) 52 (a 1)) 53 (i64 (IntKind.wrap .i64 (Int.ofNat n13)))) 54 (i64 (Int.add z47 (IntKind.wrap .i64 (Int.ofNat n13))))) 55 (a 0)) 56 (a 1)) 57 (i64 (IntKind.wrap .i64 (Int.ofNat n13)))) 58 (i64 (Int.add z48 (IntKind.wrap .i64 (Int.ofNat n13))))) 59 (ptr p49 (Nat.add o50 (Nat.mul n53 3)))) 60 (.agg ⟨[v54,v55,v56]⟩)) 61 (a 0)) 62 (a 11)) 63 (ptr p57 (Nat.add o58 (Nat.mul n61 3)))) 64 (.agg ⟨[v62,v63,v64]⟩)) 65 (ptr p65 (Nat.add o66 (Nat.mul n69 3)))) 66 (ptr p71 (Nat.add o72 (Nat.mul n75 3)))) 36 (a 11)) 37 (i64 (Int.add z77 (Int.ofNat 1)))) 11 (i64 (Int.add z77 (Int.ofNat 1)))) H76))))))))) (
 K (.exit 0) s1 H)))) := by kernel_rfl
theorem choosePiv_W (con : CallT) (v : Value) (a b : Int) (H : CH) (K : KP) : funW Try.prog con 77 [v,i64 a,i64 b,.func (.func 59) ⟨[]⟩ ⟨[]⟩] H K =
 (InR (Int.sub b a) (
 Nw H (mkRow 3 0 [(iN (0))]) fun p1 H2 =>
 CInt .quo .i64 (Int.sub b a) (Int.ofNat 4) fun v3 =>
 AsInt .i64 v3 fun z4 =>
 CInt .mul .i64 z4 (Int.ofNat 1) fun v5 =>
 AsInt .i64 v5 fun z6 =>
 InR (Int.add a z6) (
 CInt .quo .i64 (Int.sub b a) (Int.ofNat 4) fun v7 =>
 AsInt .i64 v7 fun z8 =>
 CInt .mul .i64 z8 (Int.ofNat 2) fun v9 =>
 AsInt .i64 v9 fun z10 =>
 InR (Int.add a z10) (
 CInt .quo .i64 (Int.sub b a) (Int.ofNat 4) fun v11 =>
 AsInt .i64 v11 fun z12 =>
 CInt .mul .i64 z12 (Int.ofNat 3) fun v13 =>
 AsInt .i64 v13 fun z14 =>
 InR (Int.add a z14) (
 Cd (leZ (Int.ofNat 8) (Int.sub b a)) (
 Cd (leZ (Int.ofNat 50) (Int.sub b a)) (
 Call1 Try.prog con 87 [v,(i64 (Int.add a z6)),(ptr p1 0),(.func (.func 59) ⟨[]⟩ ⟨[]⟩)] H2 fun v15 H16 =>
 Call1 Try.prog con 87 [v,(i64 (Int.add a z10)),(ptr p1 0),(.func (.func 59) ⟨[]⟩ ⟨[]⟩)] H16 fun v17 H18 =>
 Call1 Try.prog con 87 [v,(i64 (Int.add a z14)),(ptr p1 0),(.func (.func 59) ⟨[]⟩ ⟨[]⟩)] H18 fun v19 H20 =>
 Call1 Try.prog con 88 [v,v15,v17,v19,(ptr p1 0),(.func (.func 59) ⟨[]⟩ ⟨[]⟩)] H20 fun v21 H22 =>
 Ld H22 p1 0 fun v23 =>
 AsInt .i64 v23 fun z24 =>
 Cd (eqZ z24 (Int.ofNat 0)) (
 K (.tuple ⟨[v21,(iN (1))]⟩) H22) (
 AsInt .i64 v23 fun z25 =>
 Cd (eqZ z25 (Int.ofNat 12)) (
 K (.tuple ⟨[v21,(iN (2))]⟩) H22) (
 K (.tuple ⟨[v21,(iN (0))]⟩) H22))) (
 Call1 Try.prog con 88 [v,(i64 (Int.add a z6)),(i64 (Int.add a z10)),(i64 (Int.add a z14)),(ptr p1 0),(.func (.func 59) ⟨[]⟩ ⟨[]⟩)] H2 fun v26 H27 =>
 Ld H27 p1 0 fun v28 =>
 AsInt .i64 v28 fun z29 =>
 Cd (eqZ z29 (Int.ofNat 0)) (
 K (.tuple ⟨[v26,(iN (1))]⟩) H27) (
 AsInt .i64 v28 fun z30 =>
 Cd (eqZ z30 (Int.ofNat 12)) (
 K (.tuple ⟨[v26,(iN (2))]⟩) H27) (
 K (.tuple ⟨[v26,(iN (0))]⟩) H27)))) (
 Ld H2 p1 0 fun v31 =>
 AsInt .i64 v31 fun z32 =>
 Cd (eqZ z32 (Int.ofNat 0)) (
 K (.tuple ⟨[(i64 (Int.add a z10)),(iN (1))]⟩) H2) (
 AsInt .i64 v31 fun z33 =>
 Cd (eqZ z33 (Int.ofNat 12)) (
 K (.tuple ⟨[(i64 (Int.add a z10)),(iN (2))]⟩) H2) (
 K (.tuple ⟨[(i64 (Int.add a z10)),(iN (0))]⟩) H2)))))))) := by kernel_rfl
theorem revRange_W (con : CallT) (v : Value) (a b : Int) (H : CH) (K : KP) : funW Try.prog con 78 [v,i64 a,i64 b,.func (.func 59) ⟨[]⟩ ⟨[]⟩] H K =
 (InR (Int.sub b (Int.ofNat 1)) (
 LoopC Try.prog con (lpAt Try.prog 78 0) (upd (upd (upd (upd (upd (upd (upd (upd (upd (fun _ => undV) 3 (.func (.func 59) ⟨[]⟩ ⟨[]⟩)) 2 (i64 b)) 1 (i64 a)) 0 v) 10 (i64 a)) 8 (i64 a)) 11 (i64 b)) 12 (i64 (Int.sub b (Int.ofNat 1)))) 9 (i64 (Int.sub b (Int.ofNat 1)))) H (fun e => ceP e
 (fun a1 H2 =>
 K unit H2)
 (fun i3 => fun a1 H2 =>
 Cd (eqN i3 0) (
 K unit H2) (
 False))
 (fun a1 H2 =>
 K unit H2)))) := by kernel_rfl
theorem revRangeL_W (con : CallT) (a : TF) (H : CH) (K : KX) : codeW (lpAt Try.prog 78 0) Try.prog con a H K =
 (AsInt .i64 (a 8) fun z1 =>
 AsInt .i64 (a 9) fun z2 =>
 Cd (ltZ z1 z2) (
 AsSlc (a 0) fun p3 o4 l5 c6 =>
 AsCnt (a 9) fun n7 =>
 Must (ltN n7 l5) (
 Ld H p3 (Nat.add (Nat.add o4 (Nat.mul n7 3)) 0) fun v8 =>
 Ld H p3 (Nat.add (Nat.add o4 (Nat.mul n7 3)) 1) fun v9 =>
 Ld H p3 (Nat.add (Nat.add o4 (Nat.mul n7 3)) 2) fun v10 =>
 AsSlc (a 0) fun p11 o12 l13 c14 =>
 AsCnt (a 8) fun n15 =>
 Must (ltN n15 l13) (
 Ld H p11 (Nat.add (Nat.add o12 (Nat.mul n15 3)) 0) fun v16 =>
 Ld H p11 (Nat.add (Nat.add o12 (Nat.mul n15 3)) 1) fun v17 =>
 Ld H p11 (Nat.add (Nat.add o12 (Nat.mul n15 3)) 2) fun v18 =>
 AsSlc (a 0) fun p19 o20 l21 c22 =>
 AsCnt (a 8) fun n23 =>
 Must (ltN n23 l21) (
 St H p19 (Nat.add o20 (Nat.mul n23 3)) [v8,v9,v10] fun H24 =>
 AsSlc (a 0) fun p25 o26 l27 c28 =>
 AsCnt (a 9) fun n29 =>
 Must (ltN n29 l27) (
 St H24 p25 (Nat.add o26 (Nat.mul n29 3)) [v16,v17,v18] fun H30 =>
 AsInt .i64 (a 8) fun z31 =>
 InR (Int.add z31 (Int.ofNat 1)) (
 AsInt .i64 (a 9) fun z32 =>
 InR (Int.sub z32 (Int.ofNat 1)) (
 K .normal (upd (upd (upd (upd (upd (upd (upd (upd (upd (upd (upd (upd (upd (upd (upd (upd (upd (upd (upd (upd (upd (upd (upd a 13 (a 8)) 14 (a 9)) 15 (.bool (ltZ z1 z2))) 16 (a 0)) 17 (a 8)) 18 (a 0)) 19 (a 9)) 20 (a 0)) 21 (a 9)) 22 (ptr p3 (Nat.add o4 (Nat.mul n7 3)))) 23 (.agg ⟨[v8,v9,v10]⟩)) 24 (a 0)) 25 (a 8)) 26 (ptr p11 (Nat.add o12 (Nat.mul n15 3)))) 27 (.agg ⟨[v16,v17,v18]⟩)) 28 (ptr p19 (Nat.add o20 (Nat.mul n23 3)))) 29 (ptr p25 (Nat.add o26 (Nat.mul n29 3)))) 30 (a 8)) 31 (i64 (Int.add z31 (Int.ofNat 1)))) 8 (i64 (Int.add z31 (Int.ofNat 1)))) 32 (a 9)) 33 (i64 (Int.sub z32 (Int.ofNat 1)))) 9 (i64 (Int.sub z32 (Int.ofNat 1)))) H30))))))) (
 K (.exit 0) (upd (upd (upd a 13 (a 8)) 14 (a 9)) 15 (.bool (ltZ z1 z2))) H)) := by kernel_rfl
theorem partIns_W (con : CallT) (v : Value) (a b : Int) (H : CH) (K : KP) : funW Try.prog con 79 [v,i64 a,i64 b,.func (.func 59) ⟨[]⟩ ⟨[]⟩] H K =
 (InR (Int.add a (Int.ofNat 1)) (
 LoopC Try.prog con (lpAt Try.prog 79 0) (upd (upd (upd (upd (upd (upd (upd (upd (upd (fun _ => undV) 3 (.func (.func 59) ⟨[]⟩ ⟨[]⟩)) 2 (i64 b)) 1 (i64 a)) 0 v) 8 (.bool false)) 13 (i64 a)) 14 (i64 (Int.add a (Int.ofNat 1)))) 9 (i64 (Int.add a (Int.ofNat 1)))) 10 (iN (0))) H (fun e => ceP e
 (fun a1 H2 =>
 K (.bool false) H2)
 (fun i3 => fun a1 H2 =>
 Cd (eqN i3 0) (
 K (.bool false) H2) (
 False))
 (fun a1 H2 =>
 K (a1 8) H2)))) := by kernel_rfl
theorem partInsA_W (con : CallT) (a : TF) (H : CH) (K : KX) : codeW (lpAt Try.prog 79 0) Try.prog con a H K =
 (AsInt .i64 (a 10) fun z1 =>
 Cd (ltZ z1 (Int.ofNat 5)) (
 LoopC Try.prog con (lpAt Try.prog 79 1) (upd (upd a 15 (a 10)) 16 (.bool (ltZ z1 (Int.ofNat 5)))) H (fun e => ceP e
 (fun a2 H3 =>
 AsInt .i64 (a2 9) fun z5 =>
 AsInt .i64 (a2 2) fun z6 =>
 Cd (eqZ z5 z6) (
 K .ret (upd (upd (upd (upd a2 39 (a2 9)) 40 (a2 2)) 41 (.bool (eqZ z5 z6))) 8 (.bool true)) H3) (
 AsInt .i64 (a2 2) fun z7 =>
 AsInt .i64 (a2 1) fun z8 =>
 InR (Int.sub z7 z8) (
 Bnd (upd (upd (upd (upd (upd (upd (upd a2 39 (a2 9)) 40 (a2 2)) 41 (.bool (eqZ z5 z6))) 42 (a2 2)) 43 (a2 1)) 44 (i64 (Int.sub z7 z8))) 45 (.bool (ltZ (Int.sub z7 z8) (Int.ofNat 50)))) fun s1 =>
Cd (ltZ (Int.sub z7 z8) (Int.ofNat 50)) (
 K .ret (upd s1 8 (.bool false)) H3) (
 AsInt .i64 (a2 9) fun z9 =>
 InR (Int.sub z9 (Int.ofNat 1)) (
 AsInt .i64 (a2 9) fun z10 =>
 InR (Int.sub z10 (Int.ofNat 1)) (
 AsSlc (a2 0) fun p11 o12 l13 c14 =>
 AsCnt (i64 (Int.sub z10 (Int.ofNat 1))) fun n15 =>
 Must (ltN n15 l13) (
 Ld H3 p11 (Nat.add (Nat.add o12 (Nat.mul n15 3)) 0) fun v16 =>
 Ld H3 p11 (Nat.add (Nat.add o12 (Nat.mul n15 3)) 1) fun v17 =>
 Ld H3 p11 (Nat.add (Nat.add o12 (Nat.mul n15 3)) 2) fun v18 =>
 AsSlc (a2 0) fun p19 o20 l21 c22 =>
 AsCnt (a2 9) fun n23 =>
 Must (ltN n23 l21) (
 Ld H3 p19 (Nat.add (Nat.add o20 (Nat.mul n23 3)) 0) fun v24 =>
 Ld H3 p19 (Nat.add (Nat.add o20 (Nat.mul n23 3)) 1) fun v25 =>
 Ld H3 p19 (Nat.add (Nat.add o20 (Nat.mul n23 3)) 2) fun v26 =>
 AsSlc (a2 0) fun p27 o28 l29 c30 =>
 AsCnt (a2 9) fun n31 =>
 Must (ltN n31 l29) (
 St H3 p27 (Nat.add o28 (Nat.mul n31 3)) [v16,v17,v18] fun H32 =>
 AsSlc (a2 0) fun p33 o34 l35 c36 =>
 AsCnt (i64 (Int.sub z9 (Int.ofNat 1))) fun n37 =>
 Must (ltN n37 l35) (
 St H32 p33 (Nat.add o34 (Nat.mul n37 3)) [v24,v25,v26] fun H38 =>
 AsInt .i64 (a2 9) fun z39 =>
 AsInt .i64 (a2 1) fun z40 =>
 InR (Int.sub z39 z40) (
 Bnd (upd (upd (upd (upd (upd (upd (upd (upd (upd (upd (upd (upd (upd (upd (upd (upd (upd (upd (upd (upd s1 46 (a2 0)) 47 (a2 9)) 48 (a2 0)) 49 (a2 9)) 50 (i64 (Int.sub z9 (Int.ofNat 1)))) 51 (a2 0)) 52 (a2 9)) 53 (i64 (Int.sub z10 (Int.ofNat 1)))) 54 (ptr p11 (Nat.add o12 (Nat.mul n15 3)))) 55 (.agg ⟨[v16,v17,v18]⟩)) 56 (a2 0)) 57 (a2 9)) 58 (ptr p19 (Nat.add o20 (Nat.mul n23 3)))) 59 (.agg ⟨[v24,v25,v26]⟩)) 60 (ptr p27 (Nat.add o28 (Nat.mul n31 3)))) 61 (ptr p33 (Nat.add o34 (Nat.mul n37 3)))) 62 (a2 9)) 63 (a2 1)) 64 (i64 (Int.sub z39 z40))) 65 (.bool (leZ (Int.ofNat 2) (Int.sub z39 z40)))) fun s2 =>
Cd (leZ (Int.ofNat 2) (Int.sub z39 z40)) (
 AsInt .i64 (a2 9) fun z41 =>
 InR (Int.sub z41 (Int.ofNat 1)) (
 LoopC Try.prog con (lpAt Try.prog 79 2) (upd (upd (upd s2 66 (a2 9)) 67 (i64 (Int.sub z41 (Int.ofNat 1)))) 11 (i64 (Int.sub z41 (Int.ofNat 1)))) H38 (fun e => ceP e
 (fun a42 H43 =>
 AsInt .i64 (a42 2) fun z45 =>
 AsInt .i64 (a42 9) fun z46 =>
 InR (Int.sub z45 z46) (
 Cd (leZ (Int.ofNat 2) (Int.sub z45 z46)) (
 AsInt .i64 (a42 9) fun z47 =>
 InR (Int.add z47 (Int.ofNat 1)) (
 LoopC Try.prog con (lpAt Try.prog 79 3) (upd (upd (upd (upd (upd (upd (upd a42 101 (a42 2)) 102 (a42 9)) 103 (i64 (Int.sub z45 z46))) 104 (.bool (leZ (Int.ofNat 2) (Int.sub z45 z46)))) 105 (a42 9)) 106 (i64 (Int.add z47 (Int.ofNat 1)))) 12 (i64 (Int.add z47 (Int.ofNat 1)))) H43 (fun e => ceP e
 (fun a48 H49 =>
 AsInt .i64 (a48 10) fun z51 =>
 InR (Int.add z51 (Int.ofNat 1)) (
 K .normal (upd (upd (upd a48 17 (a48 10)) 18 (i64 (Int.add z51 (Int.ofNat 1)))) 10 (i64 (Int.add z51 (Int.ofNat 1)))) H49))
 (fun i50 => fun a48 H49 =>
 Cd (eqN i50 6) (
 AsInt .i64 (a48 10) fun z52 =>
 InR (Int.add z52 (Int.ofNat 1)) (
 K .normal (upd (upd (upd a48 17 (a48 10)) 18 (i64 (Int.add z52 (Int.ofNat 1)))) 10 (i64 (Int.add z52 (Int.ofNat 1)))) H49)) (
 Cd (eqN i50 1) (
 AsInt .i64 (a48 10) fun z53 =>
 InR (Int.add z53 (Int.ofNat 1)) (
 K .normal (upd (upd (upd a48 17 (a48 10)) 18 (i64 (Int.add z53 (Int.ofNat 1)))) 10 (i64 (Int.add z53 (Int.ofNat 1)))) H49)) (
 K (.exit i50) a48 H49)))
 (fun a48 H49 =>
 K .ret a48 H49)))) (
 AsInt .i64 (a42 10) fun z54 =>
 InR (Int.add z54 (Int.ofNat 1)) (
 K .normal (upd (upd (upd (upd (upd (upd (upd a42 101 (a42 2)) 102 (a42 9)) 103 (i64 (Int.sub z45 z46))) 104 (.bool (leZ (Int.ofNat 2) (Int.sub z45 z46)))) 17 (a42 10)) 18 (i64 (Int.add z54 (Int.ofNat 1)))) 10 (i64 (Int.add z54 (Int.ofNat 1)))) H43))))
 (fun i44 => fun a42 H43 =>
 Cd (eqN i44 4) (
 AsInt .i64 (a42 2) fun z55 =>
 AsInt .i64 (a42 9) fun z56 =>
 InR (Int.sub z55 z56) (
 Cd (leZ (Int.ofNat 2) (Int.sub z55 z56)) (
 AsInt .i64 (a42 9) fun z57 =>
 InR (Int.add z57 (Int.ofNat 1)) (
 LoopC Try.prog con (lpAt Try.prog 79 3) (upd (upd (upd (upd (upd (upd (upd a42 101 (a42 2)) 102 (a42 9)) 103 (i64 (Int.sub z55 z56))) 104 (.bool (leZ (Int.ofNat 2) (Int.sub z55 z56)))) 105 (a42 9)) 106 (i64 (Int.add z57 (Int.ofNat 1)))) 12 (i64 (Int.add z57 (Int.ofNat 1)))) H43 (fun e => ceP e
 (fun a58 H59 =>
 AsInt .i64 (a58 10) fun z61 =>
 InR (Int.add z61 (Int.ofNat 1)) (
 K .normal (upd (upd (upd a58 17 (a58 10)) 18 (i64 (Int.add z61 (Int.ofNat 1)))) 10 (i64 (Int.add z61 (Int.ofNat 1)))) H59))
 (fun i60 => fun a58 H59 =>
 Cd (eqN i60 6) (
 AsInt .i64 (a58 10) fun z62 =>
 InR (Int.add z62 (Int.ofNat 1)) (
 K .normal (upd (upd (upd a58 17 (a58 10)) 18 (i64 (Int.add z62 (Int.ofNat 1)))) 10 (i64 (Int.add z62 (Int.ofNat 1)))) H59)) (
 Cd (eqN i60 1) (
 AsInt .i64 (a58 10) fun z63 =>
 InR (Int.add z63 (Int.ofNat 1)) (
 K .normal (upd (upd (upd a58 17 (a58 10)) 18 (i64 (Int.add z63 (Int.ofNat 1)))) 10 (i64 (Int.add z63 (Int.ofNat 1)))) H59)) (
 K (.exit i60) a58 H59)))
 (fun a58 H59 =>
 K .ret a58 H59)))) (
 AsInt .i64 (a42 10) fun z64 =>
 InR (Int.add z64 (Int.ofNat 1)) (
 K .normal (upd (upd (upd (upd (upd (upd (upd a42 101 (a42 2)) 102 (a42 9)) 103 (i64 (Int.sub z55 z56))) 104 (.bool (leZ (Int.ofNat 2) (Int.sub z55 z56)))) 17 (a42 10)) 18 (i64 (Int.add z64 (Int.ofNat 1)))) 10 (i64 (Int.add z64 (Int.ofNat 1)))) H43)))) (
 Cd (eqN i44 1) (
 AsInt .i64 (a42 10) fun z65 =>
 InR (Int.add z65 (Int.ofNat 1)) (
 K .normal (upd (upd (upd a42 17 (a42 10)) 18 (i64 (Int.add z65 (Int.ofNat 1)))) 10 (i64 (Int.add z65 (Int.ofNat 1)))) H43)) (
 K (.exit i44) a42 H43)))
 (fun a42 H43 =>
 K .ret a42 H43)))) (
 AsInt .i64 (a2 2) fun z66 =>
 AsInt .i64 (a2 9) fun z67 =>
 InR (Int.sub z66 z67) (
 Cd (leZ (Int.ofNat 2) (Int.sub z66 z67)) (
 AsInt .i64 (a2 9) fun z68 =>
 InR (Int.add z68 (Int.ofNat 1)) (
 LoopC Try.prog con (lpAt Try.prog 79 3) (upd (upd (upd (upd (upd (upd (upd s2 101 (a2 2)) 102 (a2 9)) 103 (i64 (Int.sub z66 z67))) 104 (.bool (leZ (Int.ofNat 2) (Int.sub z66 z67)))) 105 (a2 9)) 106 (i64 (Int.add z68 (Int.ofNat 1)))) 12 (i64 (Int.add z68 (Int.ofNat 1)))) H38 (fun e => ceP e
 (fun a69 H70 =>
 AsInt .i64 (a69 10) fun z72 =>
 InR (Int.add z72 (Int.ofNat 1)) (
 K .normal (upd (upd (upd a69 17 (a69 10)) 18 (i64 (Int.add z72 (Int.ofNat 1)))) 10 (i64 (Int.add z72 (Int.ofNat 1)))) H70))
 (fun i71 => fun a69 H70 =>
 Cd (eqN i71 6) (
 AsInt .i64 (a69 10) fun z73 =>
 InR (Int.add z73 (Int.ofNat 1)) (
 K .normal (upd (upd (upd a69 17 (a69 10)) 18 (i64 (Int.add z73 (Int.ofNat 1)))) 10 (i64 (Int.add z73 (Int.ofNat 1)))) H70)) (
 Cd (eqN i71 1) (
 AsInt .i64 (a69 10) fun z74 =>
 InR (Int.add z74 (Int.ofNat 1)) (
 K .normal (upd (upd (upd a69 17 (a69 10)) 18 (i64 (Int.add z74 (Int.ofNat 1)))) 10 (i64 (Int.add z74 (Int.ofNat 1)))) H70)) (
 K (.exit i71) a69 H70)))
 (fun a69 H70 =>
 K .ret a69 H70)))) (
 AsInt .i64 (a2 10) fun z75 =>
 InR (Int.add z75 (Int.ofNat 1)) (
 K .normal (upd (upd (upd (upd (upd (upd (upd s2 101 (a2 2)) 102 (a2 9)) 103 (i64 (Int.sub z66 z67))) 104 (.bool (leZ (Int.ofNat 2) (Int.sub z66 z67)))) 17 (a2 10)) 18 (i64 (Int.add z75 (Int.ofNat 1)))) 10 (i64 (Int.add z75 (Int.ofNat 1)))) H38)))))))))))))))
 (fun i4 => fun a2 H3 =>
 Cd (eqN i4 2) (
 AsInt .i64 (a2 9) fun z76 =>
 AsInt .i64 (a2 2) fun z77 =>
 Cd (eqZ z76 z77) (
 K .ret (upd (upd (upd (upd a2 39 (a2 9)) 40 (a2 2)) 41 (.bool (eqZ z76 z77))) 8 (.bool true)) H3) (
 AsInt .i64 (a2 2) fun z78 =>
 AsInt .i64 (a2 1) fun z79 =>
 InR (Int.sub z78 z79) (
 Bnd (upd (upd (upd (upd (upd (upd (upd a2 39 (a2 9)) 40 (a2 2)) 41 (.bool (eqZ z76 z77))) 42 (a2 2)) 43 (a2 1)) 44 (i64 (Int.sub z78 z79))) 45 (.bool (ltZ (Int.sub z78 z79) (Int.ofNat 50)))) fun s3 =>
Cd (ltZ (Int.sub z78 z79) (Int.ofNat 50)) (
 K .ret (upd s3 8 (.bool false)) H3) (
 AsInt .i64 (a2 9) fun z80 =>
 InR (Int.sub z80 (Int.ofNat 1)) (
 AsInt .i64 (a2 9) fun z81 =>
 InR (Int.sub z81 (Int.ofNat 1)) (
 AsSlc (a2 0) fun p82 o83 l84 c85 =>
 AsCnt (i64 (Int.sub z81 (Int.ofNat 1))) fun n86 =>
 Must (ltN n86 l84) (
 Ld H3 p82 (Nat.add (Nat.add o83 (Nat.mul n86 3)) 0) fun v87 =>
 Ld H3 p82 (Nat.add (Nat.add o83 (Nat.mul n86 3)) 1) fun v88 =>
 Ld H3 p82 (Nat.add (Nat.add o83 (Nat.mul n86 3)) 2) fun v89 =>
 AsSlc (a2 0) fun p90 o91 l92 c93 =>
 AsCnt (a2 9) fun n94 =>
 Must (ltN n94 l92) (
 Ld H3 p90 (Nat.add (Nat.add o91 (Nat.mul n94 3)) 0) fun v95 =>
 Ld H3 p90 (Nat.add (Nat.add o91 (Nat.mul n94 3)) 1) fun v96 =>
 Ld H3 p90 (Nat.add (Nat.add o91 (Nat.mul n94 3)) 2) fun v97 =>
 AsSlc (a2 0) fun p98 o99 l100 c101 =>
 AsCnt (a2 9) fun n102 =>
 Must (ltN n102 l100) (
 St H3 p98 (Nat.add o99 (Nat.mul n102 3)) [v87,v88,v89] fun H103 =>
 AsSlc (a2 0) fun p104 o105 l106 c107 =>
 AsCnt (i64 (Int.sub z80 (Int.ofNat 1))) fun n108 =>
 Must (ltN n108 l106) (
 St H103 p104 (Nat.add o105 (Nat.mul n108 3)) [v95,v96,v97] fun H109 =>
 AsInt .i64 (a2 9) fun z110 =>
 AsInt .i64 (a2 1) fun z111 =>
 InR (Int.sub z110 z111) (
 Bnd (upd (upd (upd (upd (upd (upd (upd (upd (upd (upd (upd (upd (upd (upd (upd (upd (upd (upd (upd (upd s3 46 (a2 0)) 47 (a2 9)) 48 (a2 0)) 49 (a2 9)) 50 (i64 (Int.sub z80 (Int.ofNat 1)))) 51 (a2 0)) 52 (a2 9)) 53 (i64 (Int.sub z81 (Int.ofNat 1)))) 54 (ptr p82 (Nat.add o83 (Nat.mul n86 3)))) 55 (.agg ⟨[v87,v88,v89]⟩)) 56 (a2 0)) 57 (a2 9)) 58 (ptr p90 (Nat.add o91 (Nat.mul n94 3)))) 59 (.agg ⟨[v95,v96,v97]⟩)) 60 (ptr p98 (Nat.add o99 (Nat.mul n102 3)))) 61 (ptr p104 (Nat.add o105 (Nat.mul n108 3)))) 62 (a2 9)) 63 (a2 1)) 64 (i64 (Int.sub z110 z111))) 65 (.bool (leZ (Int.ofNat 2) (Int.sub z110 z111)))) fun s4 =>
Cd (leZ (Int.ofNat 2) (Int.sub z110 z111)) (
 AsInt .i64 (a2 9) fun z112 =>
 InR (Int.sub z112 (Int.ofNat 1)) (
 LoopC Try.prog con (lpAt Try.prog 79 2) (upd (upd (upd s4 66 (a2 9)) 67 (i64 (Int.sub z112 (Int.ofNat 1)))) 11 (i64 (Int.sub z112 (Int.ofNat 1)))) H109 (fun e => ceP e
 (fun a113 H114 =>
 AsInt .i64 (a113 2) fun z116 =>
 AsInt .i64 (a113 9) fun z117 =>
 InR (Int.sub z116 z117) (
 Cd (leZ (Int.ofNat 2) (Int.sub z116 z117)) (
 AsInt .i64 (a113 9) fun z118 =>
 InR (Int.add z118 (Int.ofNat 1)) (
 LoopC Try.prog con (lpAt Try.prog 79 3) (upd (upd (upd (upd (upd (upd (upd a113 101 (a113 2)) 102 (a113 9)) 103 (i64 (Int.sub z116 z117))) 104 (.bool (leZ (Int.ofNat 2) (Int.sub z116 z117)))) 105 (a113 9)) 106 (i64 (Int.add z118 (Int.ofNat 1)))) 12 (i64 (Int.add z118 (Int.ofNat 1)))) H114 (fun e => ceP e
 (fun a119 H120 =>
 AsInt .i64 (a119 10) fun z122 =>
 InR (Int.add z122 (Int.ofNat 1)) (
 K .normal (upd (upd (upd a119 17 (a119 10)) 18 (i64 (Int.add z122 (Int.ofNat 1)))) 10 (i64 (Int.add z122 (Int.ofNat 1)))) H120))
 (fun i121 => fun a119 H120 =>
 Cd (eqN i121 6) (
 AsInt .i64 (a119 10) fun z123 =>
 InR (Int.add z123 (Int.ofNat 1)) (
 K .normal (upd (upd (upd a119 17 (a119 10)) 18 (i64 (Int.add z123 (Int.ofNat 1)))) 10 (i64 (Int.add z123 (Int.ofNat 1)))) H120)) (
 Cd (eqN i121 1) (
 AsInt .i64 (a119 10) fun z124 =>
 InR (Int.add z124 (Int.ofNat 1)) (
 K .normal (upd (upd (upd a119 17 (a119 10)) 18 (i64 (Int.add z124 (Int.ofNat 1)))) 10 (i64 (Int.add z124 (Int.ofNat 1)))) H120)) (
 K (.exit i121) a119 H120)))
 (fun a119 H120 =>
 K .ret a119 H120)))) (
 AsInt .i64 (a113 10) fun z125 =>
 InR (Int.add z125 (Int.ofNat 1)) (
 K .normal (upd (upd (upd (upd (upd (upd (upd a113 101 (a113 2)) 102 (a113 9)) 103 (i64 (Int.sub z116 z117))) 104 (.bool (leZ (Int.ofNat 2) (Int.sub z116 z117)))) 17 (a113 10)) 18 (i64 (Int.add z125 (Int.ofNat 1)))) 10 (i64 (Int.add z125 (Int.ofNat 1)))) H114))))
 (fun i115 => fun a113 H114 =>
 Cd (eqN i115 4) (
 AsInt .i64 (a113 2) fun z126 =>
 AsInt .i64 (a113 9) fun z127 =>
 InR (Int.sub z126 z127) (
 Cd (leZ (Int.ofNat 2) (Int.sub z126 z127)) (
 AsInt .i64 (a113 9) fun z128 =>
 InR (Int.add z128 (Int.ofNat 1)) (
 LoopC Try.prog con (lpAt Try.prog 79 3) (upd (upd (upd (upd (upd (upd (upd a113 101 (a113 2)) 102 (a113 9)) 103 (i64 (Int.sub z126 z127))) 104 (.bool (leZ (Int.ofNat 2) (Int.sub z126 z127)))) 105 (a113 9)) 106 (i64 (Int.add z128 (Int.ofNat 1)))) 12 (i64 (Int.add z128 (Int.ofNat 1)))) H114 (fun e => ceP e
 (fun a129 H130 =>
 AsInt .i64 (a129 10) fun z132 =>
 InR (Int.add z132 (Int.ofNat 1)) (
 K .normal (upd (upd (upd a129 17 (a129 10)) 18 (i64 (Int.add z132 (Int.ofNat 1)))) 10 (i64 (Int.add z132 (Int.ofNat 1)))) H130))
 (fun i131 => fun a129 H130 =>
 Cd (eqN i131 6) (
 AsInt .i64 (a129 10) fun z133 =>
 InR (Int.add z133 (Int.ofNat 1)) (
 K .normal (upd (upd (upd a129 17 (a129 10)) 18 (i64 (Int.add z133 (Int.ofNat 1)))) 10 (i64 (Int.add z133 (Int.ofNat 1)))) H130)) (
 Cd (eqN i131 1) (
 AsInt .i64 (a129 10) fun z134 =>
 InR (Int.add z134 (Int.ofNat 1)) (
 K .normal (upd (upd (upd a129 17 (a129 10)) 18 (i64 (Int.add z134 (Int.ofNat 1)))) 10 (i64 (Int.add z134 (Int.ofNat 1)))) H130)) (
 K (.exit i131) a129 H130)))
 (fun a129 H130 =>
 K .ret a129 H130)))) (
 AsInt .i64 (a113 10) fun z135 =>
 InR (Int.add z135 (Int.ofNat 1)) (
 K .normal (upd (upd (upd (upd (upd (upd (upd a113 101 (a113 2)) 102 (a113 9)) 103 (i64 (Int.sub z126 z127))) 104 (.bool (leZ (Int.ofNat 2) (Int.sub z126 z127)))) 17 (a113 10)) 18 (i64 (Int.add z135 (Int.ofNat 1)))) 10 (i64 (Int.add z135 (Int.ofNat 1)))) H114)))) (
 Cd (eqN i115 1) (
 AsInt .i64 (a113 10) fun z136 =>
 InR (Int.add z136 (Int.ofNat 1)) (
 K .normal (upd (upd (upd a113 17 (a113 10)) 18 (i64 (Int.add z136 (Int.ofNat 1)))) 10 (i64 (Int.add z136 (Int.ofNat 1)))) H114)) (
 K (.exit i115) a113 H114)))
 (fun a113 H114 =>
 K .ret a113 H114)))) (
 AsInt .i64 (a2 2) fun z137 =>
 AsInt .i64 (a2 9) fun z138 =>
 InR (Int.sub z137 z138) (
 Cd (leZ (Int.ofNat 2) (Int.sub z137 z138)) (
 AsInt .i64 (a2 9) fun z139 =>
 InR (Int.add z139 (Int.ofNat 1)) (
 LoopC Try.prog con (lpAt Try.prog 79 3) (upd (upd (upd (upd (upd (upd (upd s4 101 (a2 2)) 102 (a2 9)) 103 (i64 (Int.sub z137 z138))) 104 (.bool (leZ (Int.ofNat 2) (Int.sub z137 z138)))) 105 (a2 9)) 106 (i64 (Int.add z139 (Int.ofNat 1)))) 12 (i64 (Int.add z139 (Int.ofNat 1)))) H109 (fun e => ceP e
 (fun a140 H141 =>
 AsInt .i64 (a140 10) fun z143 =>
 InR (Int.add z143 (Int.ofNat 1)) (
 K .normal (upd (upd (upd a140 17 (a140 10)) 18 (i64 (Int.add z143 (Int.ofNat 1)))) 10 (i64 (Int.add z143 (Int.ofNat 1)))) H141))
 (fun i142 => fun a140 H141 =>
 Cd (eqN i142 6) (
 AsInt .i64 (a140 10) fun z144 =>
 InR (Int.add z144 (Int.ofNat 1)) (
 K .normal (upd (upd (upd a140 17 (a140 10)) 18 (i64 (Int.add z144 (Int.ofNat 1)))) 10 (i64 (Int.add z144 (Int.ofNat 1)))) H141)) (
 Cd (eqN i142 1) (
 AsInt .i64 (a140 10) fun z145 =>
 InR (Int.add z145 (Int.ofNat 1)) (
 K .normal (upd (upd (upd a140 17 (a140 10)) 18 (i64 (Int.add z145 (Int.ofNat 1)))) 10 (i64 (Int.add z145 (Int.ofNat 1)))) H141)) (
 K (.exit i142) a140 H141)))
 (fun a140 H141 =>
 K .ret a140 H141)))) (
 AsInt .i64 (a2 10) fun z146 =>
 InR (Int.add z146 (Int.ofNat 1)) (
 K .normal (upd (upd (upd (upd (upd (upd (upd s4 101 (a2 2)) 102 (a2 9)) 103 (i64 (Int.sub z137 z138))) 104 (.bool (leZ (Int.ofNat 2) (Int.sub z137 z138)))) 17 (a2 10)) 18 (i64 (Int.add z146 (Int.ofNat 1)))) 10 (i64 (Int.add z146 (Int.ofNat 1)))) H109))))))))))))))) (
 Cd (eqN i4 1) (
 AsInt .i64 (a2 10) fun z147 =>
 InR (Int.add z147 (Int.ofNat 1)) (
 K .normal (upd (upd (upd a2 17 (a2 10)) 18 (i64 (Int.add z147 (Int.ofNat 1)))) 10 (i64 (Int.add z147 (Int.ofNat 1)))) H3)) (
 K (.exit i4) a2 H3)))
 (fun a2 H3 =>
 K .ret a2 H3))) (
 K (.exit 0) (upd (upd a 15 (a 10)) 16 (.bool (ltZ z1 (Int.ofNat 5)))) H)) := by kernel_rfl
theorem partInsB_W (con : CallT) (a : TF) (H : CH) (K : KX) : codeW (lpAt Try.prog 79 1) Try.prog con a H K =
 (AsInt .i64 (a 9) fun z1 =>
 AsInt .i64 (a 2) fun z2 =>
 Bnd (upd (upd (upd (upd a 19 (a 9)) 20 (a 2)) 21 (.bool (ltZ z1 z2))) 22 (.bool (ltZ z1 z2))) fun s1 =>
Cd (ltZ z1 z2) (
 AsSlc (a 0) fun p3 o4 l5 c6 =>
 AsCnt (a 9) fun n7 =>
 Must (ltN n7 l5) (
 Ld H p3 (Nat.add (Nat.add o4 (Nat.mul n7 3)) 0) fun v8 =>
 Ld H p3 (Nat.add (Nat.add o4 (Nat.mul n7 3)) 1) fun v9 =>
 Ld H p3 (Nat.add (Nat.add o4 (Nat.mul n7 3)) 2) fun v10 =>
 AsInt .i64 (a 9) fun z11 =>
 InR (Int.sub z11 (Int.ofNat 1)) (
 AsSlc (a 0) fun p12 o13 l14 c15 =>
 AsCnt (i64 (Int.sub z11 (Int.ofNat 1))) fun n16 =>
 Must (ltN n16 l14) (
 Ld H p12 (Nat.add (Nat.add o13 (Nat.mul n16 3)) 0) fun v17 =>
 Ld H p12 (Nat.add (Nat.add o13 (Nat.mul n16 3)) 1) fun v18 =>
 Ld H p12 (Nat.add (Nat.add o13 (Nat.mul n16 3)) 2) fun v19 =>
 AsFn (a 3) fun g20 l21 l22 =>
 Must (isFunT Try.prog g20) (
 Call1 Try.prog con g20 (appF l21 ((.agg ⟨[v8,v9,v10]⟩)::(.agg ⟨[v17,v18,v19]⟩)::l22)) H fun v23 H24 =>
 AsInt .i64 v23 fun z25 =>
 Bnd (upd (upd (upd (upd (upd (upd (upd (upd (upd (upd (upd (upd (upd (upd (upd (upd (upd (upd (upd (upd (upd (upd (upd (upd (upd (upd (upd s1 22 (.bool true)) 23 (a 3)) 22 (.bool true)) 24 (a 0)) 22 (.bool true)) 25 (a 9)) 22 (.bool true)) 26 (ptr p3 (Nat.add o4 (Nat.mul n7 3)))) 22 (.bool true)) 27 (.agg ⟨[v8,v9,v10]⟩)) 22 (.bool true)) 28 (a 0)) 22 (.bool true)) 29 (a 9)) 22 (.bool true)) 30 (i64 (Int.sub z11 (Int.ofNat 1)))) 22 (.bool true)) 31 (ptr p12 (Nat.add o13 (Nat.mul n16 3)))) 22 (.bool true)) 32 (.agg ⟨[v17,v18,v19]⟩)) 22 (.bool true)) 33 v23) 22 (.bool true)) 34 (.bool (ltZ z25 (Int.ofNat 0)))) 22 (.bool true)) 35 (.bool (notB (ltZ z25 (Int.ofNat 0))))) 36 (.bool (notB (ltZ z25 (Int.ofNat 0))))) fun s2 =>
Cd (notB (ltZ z25 (Int.ofNat 0))) (
 AsInt .i64 (a 9) fun z26 =>
 InR (Int.add z26 (Int.ofNat 1)) (
 K .normal (upd (upd (upd s2 37 (a 9)) 38 (i64 (Int.add z26 (Int.ofNat 1)))) 9 (i64 (Int.add z26 (Int.ofNat 1)))) H24)) (
 K (.exit 2) s2 H24)))))) (
 K (.exit 2) (upd (Rz false 22 s1 23 13) 36 (.bool false)) H)) := by kernel_rfl
theorem partEq_W (con : CallT) (v : Value) (a b c : Int) (H : CH) (K : KP) : funW Try.prog con 80 [v,i64 a,i64 b,i64 c,.func (.func 59) ⟨[]⟩ ⟨[]⟩] H K =
 (AsSlc v fun p1 o2 l3 c4 =>
 AsCnt (i64 c) fun n5 =>
 Must (ltN n5 l3) (
 Ld H p1 (Nat.add (Nat.add o2 (Nat.mul n5 3)) 0) fun v6 =>
 Ld H p1 (Nat.add (Nat.add o2 (Nat.mul n5 3)) 1) fun v7 =>
 Ld H p1 (Nat.add (Nat.add o2 (Nat.mul n5 3)) 2) fun v8 =>
 AsSlc v fun p9 o10 l11 c12 =>
 AsCnt (i64 a) fun n13 =>
 Must (ltN n13 l11) (
 Ld H p9 (Nat.add (Nat.add o10 (Nat.mul n13 3)) 0) fun v14 =>
 Ld H p9 (Nat.add (Nat.add o10 (Nat.mul n13 3)) 1) fun v15 =>
 Ld H p9 (Nat.add (Nat.add o10 (Nat.mul n13 3)) 2) fun v16 =>
 AsSlc v fun p17 o18 l19 c20 =>
 AsCnt (i64 a) fun n21 =>
 Must (ltN n21 l19) (
 St H p17 (Nat.add o18 (Nat.mul n21 3)) [v6,v7,v8] fun H22 =>
 AsSlc v fun p23 o24 l25 c26 =>
 AsCnt (i64 c) fun n27 =>
 Must (ltN n27 l25) (
 St H22 p23 (Nat.add o24 (Nat.mul n27 3)) [v14,v15,v16] fun H28 =>
 InR (Int.add a (Int.ofNat 1)) (
 InR (Int.sub b (Int.ofNat 1)) (
 LoopC Try.prog con (lpAt Try.prog 80 0) (upd (upd (upd (upd (upd (upd (upd (upd (upd (upd (upd (upd (upd (upd (upd (upd (upd (upd (upd (upd (upd (upd (upd (upd (upd (upd (fun _ => undV) 4 (.func (.func 59) ⟨[]⟩ ⟨[]⟩)) 3 (i64 c)) 2 (i64 b)) 1 (i64 a)) 0 v) 10 (iN (0))) 13 v) 14 (i64 a)) 15 v) 16 (i64 c)) 17 v) 18 (i64 c)) 19 (ptr p1 (Nat.add o2 (Nat.mul n5 3)))) 20 (.agg ⟨[v6,v7,v8]⟩)) 21 v) 22 (i64 a)) 23 (ptr p9 (Nat.add o10 (Nat.mul n13 3)))) 24 (.agg ⟨[v14,v15,v16]⟩)) 25 (ptr p17 (Nat.add o18 (Nat.mul n21 3)))) 26 (ptr p23 (Nat.add o24 (Nat.mul n27 3)))) 27 (i64 a)) 28 (i64 (Int.add a (Int.ofNat 1)))) 29 (i64 b)) 30 (i64 (Int.sub b (Int.ofNat 1)))) 11 (i64 (Int.add a (Int.ofNat 1)))) 12 (i64 (Int.sub b (Int.ofNat 1)))) H28 (fun e => ceP e
 (fun a29 H30 =>
 K (a29 11) H30)
 (fun i31 => fun a29 H30 =>
 Cd (eqN i31 0) (
 K (a29 11) H30) (
 False))
 (fun a29 H30 =>
 K (a29 10) H30))))))))) := by kernel_rfl
theorem partEqA_W (con : CallT) (a : TF) (H : CH) (K : KX) : codeW (lpAt Try.prog 80 0) Try.prog con a H K =
 (LoopC Try.prog con (lpAt Try.prog 80 1) a H (fun e => ceP e
 (fun a1 H2 =>
 LoopC Try.prog con (lpAt Try.prog 80 2) a1 H2 (fun e => ceP e
 (fun a4 H5 =>
 AsInt .i64 (a4 11) fun z7 =>
 AsInt .i64 (a4 12) fun z8 =>
 Cd (ltZ z8 z7) (
 K (.exit 0) (upd (upd (upd a4 68 (a4 11)) 69 (a4 12)) 70 (.bool (ltZ z8 z7))) H5) (
 AsSlc (a4 0) fun p9 o10 l11 c12 =>
 AsCnt (a4 12) fun n13 =>
 Must (ltN n13 l11) (
 Ld H5 p9 (Nat.add (Nat.add o10 (Nat.mul n13 3)) 0) fun v14 =>
 Ld H5 p9 (Nat.add (Nat.add o10 (Nat.mul n13 3)) 1) fun v15 =>
 Ld H5 p9 (Nat.add (Nat.add o10 (Nat.mul n13 3)) 2) fun v16 =>
 AsSlc (a4 0) fun p17 o18 l19 c20 =>
 AsCnt (a4 11) fun n21 =>
 Must (ltN n21 l19) (
 Ld H5 p17 (Nat.add (Nat.add o18 (Nat.mul n21 3)) 0) fun v22 =>
 Ld H5 p17 (Nat.add (Nat.add o18 (Nat.mul n21 3)) 1) fun v23 =>
 Ld H5 p17 (Nat.add (Nat.add o18 (Nat.mul n21 3)) 2) fun v24 =>
 AsSlc (a4 0) fun p25 o26 l27 c28 =>
 AsCnt (a4 11) fun n29 =>
 Must (ltN n29 l27) (
 St H5 p25 (Nat.add o26 (Nat.mul n29 3)) [v14,v15,v16] fun H30 =>
 AsSlc (a4 0) fun p31 o32 l33 c34 =>
 AsCnt (a4 12) fun n35 =>
 Must (ltN n35 l33) (
 St H30 p31 (Nat.add o32 (Nat.mul n35 3)) [v22,v23,v24] fun H36 =>
 AsInt .i64 (a4 11) fun z37 =>
 InR (Int.add z37 (Int.ofNat 1)) (
 AsInt .i64 (a4 12) fun z38 =>
 InR (Int.sub z38 (Int.ofNat 1)) (
 K .normal (upd (upd (upd (upd (upd (upd (upd (upd (upd (upd (upd (upd (upd (upd (upd (upd (upd (upd (upd (upd (upd (upd (upd a4 68 (a4 11)) 69 (a4 12)) 70 (.bool (ltZ z8 z7))) 71 (a4 0)) 72 (a4 11)) 73 (a4 0)) 74 (a4 12)) 75 (a4 0)) 76 (a4 12)) 77 (ptr p9 (Nat.add o10 (Nat.mul n13 3)))) 78 (.agg ⟨[v14,v15,v16]⟩)) 79 (a4 0)) 80 (a4 11)) 81 (ptr p17 (Nat.add o18 (Nat.mul n21 3)))) 82 (.agg ⟨[v22,v23,v24]⟩)) 83 (ptr p25 (Nat.add o26 (Nat.mul n29 3)))) 84 (ptr p31 (Nat.add o32 (Nat.mul n35 3)))) 85 (a4 11)) 86 (i64 (Int.add z37 (Int.ofNat 1)))) 11 (i64 (Int.add z37 (Int.ofNat 1)))) 87 (a4 12)) 88 (i64 (Int.sub z38 (Int.ofNat 1)))) 12 (i64 (Int.sub z38 (Int.ofNat 1)))) H36))))))))
 (fun i6 => fun a4 H5 =>
 Cd (eqN i6 4) (
 AsInt .i64 (a4 11) fun z39 =>
 AsInt .i64 (a4 12) fun z40 =>
 Cd (ltZ z40 z39) (
 K (.exit 0) (upd (upd (upd a4 68 (a4 11)) 69 (a4 12)) 70 (.bool (ltZ z40 z39))) H5) (
 AsSlc (a4 0) fun p41 o42 l43 c44 =>
 AsCnt (a4 12) fun n45 =>
 Must (ltN n45 l43) (
 Ld H5 p41 (Nat.add (Nat.add o42 (Nat.mul n45 3)) 0) fun v46 =>
 Ld H5 p41 (Nat.add (Nat.add o42 (Nat.mul n45 3)) 1) fun v47 =>
 Ld H5 p41 (Nat.add (Nat.add o42 (Nat.mul n45 3)) 2) fun v48 =>
 AsSlc (a4 0) fun p49 o50 l51 c52 =>
 AsCnt (a4 11) fun n53 =>
 Must (ltN n53 l51) (
 Ld H5 p49 (Nat.add (Nat.add o50 (Nat.mul n53 3)) 0) fun v54 =>
 Ld H5 p49 (Nat.add (Nat.add o50 (Nat.mul n53 3)) 1) fun v55 =>
 Ld H5 p49 (Nat.add (Nat.add o50 (Nat.mul n53 3)) 2) fun v56 =>
 AsSlc (a4 0) fun p57 o58 l59 c60 =>
 AsCnt (a4 11) fun n61 =>
 Must (ltN n61 l59) (
 St H5 p57 (Nat.add o58 (Nat.mul n61 3)) [v46,v47,v48] fun H62 =>
 AsSlc (a4 0) fun p63 o64 l65 c66 =>
 AsCnt (a4 12) fun n67 =>
 Must (ltN n67 l65) (
 St H62 p63 (Nat.add o64 (Nat.mul n67 3)) [v54,v55,v56] fun H68 =>
 AsInt .i64 (a4 11) fun z69 =>
 InR (Int.add z69 (Int.ofNat 1)) (
 AsInt .i64 (a4 12) fun z70 =>
 InR (Int.sub z70 (Int.ofNat 1)) (
 K .normal (upd (upd (upd (upd (upd (upd (upd (upd (upd (upd (upd (upd (upd (upd (upd (upd (upd (upd (upd (upd (upd (upd (upd a4 68 (a4 11)) 69 (a4 12)) 70 (.bool (ltZ z40 z39))) 71 (a4 0)) 72 (a4 11)) 73 (a4 0)) 74 (a4 12)) 75 (a4 0)) 76 (a4 12)) 77 (ptr p41 (Nat.add o42 (Nat.mul n45 3)))) 78 (.agg ⟨[v46,v47,v48]⟩)) 79 (a4 0)) 80 (a4 11)) 81 (ptr p49 (Nat.add o50 (Nat.mul n53 3)))) 82 (.agg ⟨[v54,v55,v56]⟩)) 83 (ptr p57 (Nat.add o58 (Nat.mul n61 3)))) 84 (ptr p63 (Nat.add o64 (Nat.mul n67 3)))) 85 (a4 11)) 86 (i64 (Int.add z69 (Int.ofNat 1)))) 11 (i64 (Int.add z69 (Int.ofNat 1)))) 87 (a4 12)) 88 (i64 (Int.sub z70 (Int.ofNat 1)))) 12 (i64 (Int.sub z70 (Int.ofNat 1)))) H68)))))))) (
 Cd (eqN i6 1) (
 K .normal a4 H5) (
 K (.exit i6) a4 H5)))
 (fun a4 H5 =>
 K .ret a4 H5)))
 (fun i3 => fun a1 H2 =>
 Cd (eqN i3 2) (
 LoopC Try.prog con (lpAt Try.prog 80 2) a1 H2 (fun e => ceP e
 (fun a71 H72 =>
 AsInt .i64 (a71 11) fun z74 =>
 AsInt .i64 (a71 12) fun z75 =>
 Cd (ltZ z75 z74) (
 K (.exit 0) (upd (upd (upd a71 68 (a71 11)) 69 (a71 12)) 70 (.bool (ltZ z75 z74))) H72) (
 AsSlc (a71 0) fun p76 o77 l78 c79 =>
 AsCnt (a71 12) fun n80 =>
 Must (ltN n80 l78) (
 Ld H72 p76 (Nat.add (Nat.add o77 (Nat.mul n80 3)) 0) fun v81 =>
 Ld H72 p76 (Nat.add (Nat.add o77 (Nat.mul n80 3)) 1) fun v82 =>
 Ld H72 p76 (Nat.add (Nat.add o77 (Nat.mul n80 3)) 2) fun v83 =>
 AsSlc (a71 0) fun p84 o85 l86 c87 =>
 AsCnt (a71 11) fun n88 =>
 Must (ltN n88 l86) (
 Ld H72 p84 (Nat.add (Nat.add o85 (Nat.mul n88 3)) 0) fun v89 =>
 Ld H72 p84 (Nat.add (Nat.add o85 (Nat.mul n88 3)) 1) fun v90 =>
 Ld H72 p84 (Nat.add (Nat.add o85 (Nat.mul n88 3)) 2) fun v91 =>
 AsSlc (a71 0) fun p92 o93 l94 c95 =>
 AsCnt (a71 11) fun n96 =>
 Must (ltN n96 l94) (
 St H72 p92 (Nat.add o93 (Nat.mul n96 3)) [v81,v82,v83] fun H97 =>
 AsSlc (a71 0) fun p98 o99 l100 c101 =>
 AsCnt (a71 12) fun n102 =>
 Must (ltN n102 l100) (
 St H97 p98 (Nat.add o99 (Nat.mul n102 3)) [v89,v90,v91] fun H103 =>
 AsInt .i64 (a71 11) fun z104 =>
 InR (Int.add z104 (Int.ofNat 1)) (
 AsInt .i64 (a71 12) fun z105 =>
 InR (Int.sub z105 (Int.ofNat 1)) (
 K .normal (upd (upd (upd (upd (upd (upd (upd (upd (upd (upd (upd (upd (upd (upd (upd (upd (upd (upd (upd (upd (upd (upd (upd a71 68 (a71 11)) 69 (a71 12)) 70 (.bool (ltZ z75 z74))) 71 (a71 0)) 72 (a71 11)) 73 (a71 0)) 74 (a71 12)) 75 (a71 0)) 76 (a71 12)) 77 (ptr p76 (Nat.add o77 (Nat.mul n80 3)))) 78 (.agg ⟨[v81,v82,v83]⟩)) 79 (a71 0)) 80 (a71 11)) 81 (ptr p84 (Nat.add o85 (Nat.mul n88 3)))) 82 (.agg ⟨[v89,v90,v91]⟩)) 83 (ptr p92 (Nat.add o93 (Nat.mul n96 3)))) 84 (ptr p98 (Nat.add o99 (Nat.mul n102 3)))) 85 (a71 11)) 86 (i64 (Int.add z104 (Int.ofNat 1)))) 11 (i64 (Int.add z104 (Int.ofNat 1)))) 87 (a71 12)) 88 (i64 (Int.sub z105 (Int.ofNat 1)))) 12 (i64 (Int.sub z105 (Int.ofNat 1)))) H103))))))))
 (fun i73 => fun a71 H72 =>
 Cd (eqN i73 4) (
 AsInt .i64 (a71 11) fun z106 =>
 AsInt .i64 (a71 12) fun z107 =>
 Cd (ltZ z107 z106) (
 K (.exit 0) (upd (upd (upd a71 68 (a71 11)) 69 (a71 12)) 70 (.bool (ltZ z107 z106))) H72) (
 AsSlc (a71 0) fun p108 o109 l110 c111 =>
 AsCnt (a71 12) fun n112 =>
 Must (ltN n112 l110) (
 Ld H72 p108 (Nat.add (Nat.add o109 (Nat.mul n112 3)) 0) fun v113 =>
 Ld H72 p108 (Nat.add (Nat.add o109 (Nat.mul n112 3)) 1) fun v114 =>
 Ld H72 p108 (Nat.add (Nat.add o109 (Nat.mul n112 3)) 2) fun v115 =>
 AsSlc (a71 0) fun p116 o117 l118 c119 =>
 AsCnt (a71 11) fun n120 =>
 Must (ltN n120 l118) (
 Ld H72 p116 (Nat.add (Nat.add o117 (Nat.mul n120 3)) 0) fun v121 =>
 Ld H72 p116 (Nat.add (Nat.add o117 (Nat.mul n120 3)) 1) fun v122 =>
 Ld H72 p116 (Nat.add (Nat.add o117 (Nat.mul n120 3)) 2) fun v123 =>
 AsSlc (a71 0) fun p124 o125 l126 c127 =>
 AsCnt (a71 11) fun n128 =>
 Must (ltN n128 l126) (
 St H72 p124 (Nat.add o125 (Nat.mul n128 3)) [v113,v114,v115] fun H129 =>
 AsSlc (a71 0) fun p130 o131 l132 c133 =>
 AsCnt (a71 12) fun n134 =>
 Must (ltN n134 l132) (
 St H129 p130 (Nat.add o131 (Nat.mul n134 3)) [v121,v122,v123] fun H135 =>
 AsInt .i64 (a71 11) fun z136 =>
 InR (Int.add z136 (Int.ofNat 1)) (
 AsInt .i64 (a71 12) fun z137 =>
 InR (Int.sub z137 (Int.ofNat 1)) (
 K .normal (upd (upd (upd (upd (upd (upd (upd (upd (upd (upd (upd (upd (upd (upd (upd (upd (upd (upd (upd (upd (upd (upd (upd a71 68 (a71 11)) 69 (a71 12)) 70 (.bool (ltZ z107 z106))) 71 (a71 0)) 72 (a71 11)) 73 (a71 0)) 74 (a71 12)) 75 (a71 0)) 76 (a71 12)) 77 (ptr p108 (Nat.add o109 (Nat.mul n112 3)))) 78 (.agg ⟨[v113,v114,v115]⟩)) 79 (a71 0)) 80 (a71 11)) 81 (ptr p116 (Nat.add o117 (Nat.mul n120 3)))) 82 (.agg ⟨[v121,v122,v123]⟩)) 83 (ptr p124 (Nat.add o125 (Nat.mul n128 3)))) 84 (ptr p130 (Nat.add o131 (Nat.mul n134 3)))) 85 (a71 11)) 86 (i64 (Int.add z136 (Int.ofNat 1)))) 11 (i64 (Int.add z136 (Int.ofNat 1)))) 87 (a71 12)) 88 (i64 (Int.sub z137 (Int.ofNat 1)))) 12 (i64 (Int.sub z137 (Int.ofNat 1)))) H135)))))))) (
 Cd (eqN i73 1) (
 K .normal a71 H72) (
 K (.exit i73) a71 H72)))
 (fun a71 H72 =>
 K .ret a71 H72))) (
 Cd (eqN i3 1) (
 K .normal a1 H2) (
 K (.exit i3) a1 H2)))
 (fun a1 H2 =>
 K .ret a1 H2))) := by kernel_rfl
theorem partEqB_W (con : CallT) (a : TF) (H : CH) (K : KX) : codeW (lpAt Try.prog 80 1) Try.prog con a H K =
 (AsInt .i64 (a 11) fun z1 =>
 AsInt .i64 (a 12) fun z2 =>
 Bnd (upd (upd (upd (upd a 31 (a 11)) 32 (a 12)) 33 (.bool (leZ z1 z2))) 34 (.bool (leZ z1 z2))) fun s1 =>
Cd (leZ z1 z2) (
 AsSlc (a 0) fun p3 o4 l5 c6 =>
 AsCnt (a 1) fun n7 =>
 Must (ltN n7 l5) (
 Ld H p3 (Nat.add (Nat.add o4 (Nat.mul n7 3)) 0) fun v8 =>
 Ld H p3 (Nat.add (Nat.add o4 (Nat.mul n7 3)) 1) fun v9 =>
 Ld H p3 (Nat.add (Nat.add o4 (Nat.mul n7 3)) 2) fun v10 =>
 AsSlc (a 0) fun p11 o12 l13 c14 =>
 AsCnt (a 11) fun n15 =>
 Must (ltN n15 l13) (
 Ld H p11 (Nat.add (Nat.add o12 (Nat.mul n15 3)) 0) fun v16 =>
 Ld H p11 (Nat.add (Nat.add o12 (Nat.mul n15 3)) 1) fun v17 =>
 Ld H p11 (Nat.add (Nat.add o12 (Nat.mul n15 3)) 2) fun v18 =>
 AsFn (a 4) fun g19 l20 l21 =>
 Must (isFunT Try.prog g19) (
 Call1 Try.prog con g19 (appF l20 ((.agg ⟨[v8,v9,v10]⟩)::(.agg ⟨[v16,v17,v18]⟩)::l21)) H fun v22 H23 =>
 AsInt .i64 v22 fun z24 =>
 Bnd (upd (upd (upd (upd (upd (upd (upd (upd (upd (upd (upd (upd (upd (upd (upd (upd (upd (upd (upd (upd (upd (upd (upd (upd (upd s1 34 (.bool true)) 35 (a 4)) 34 (.bool true)) 36 (a 0)) 34 (.bool true)) 37 (a 1)) 34 (.bool true)) 38 (ptr p3 (Nat.add o4 (Nat.mul n7 3)))) 34 (.bool true)) 39 (.agg ⟨[v8,v9,v10]⟩)) 34 (.bool true)) 40 (a 0)) 34 (.bool true)) 41 (a 11)) 34 (.bool true)) 42 (ptr p11 (Nat.add o12 (Nat.mul n15 3)))) 34 (.bool true)) 43 (.agg ⟨[v16,v17,v18]⟩)) 34 (.bool true)) 44 v22) 34 (.bool true)) 45 (.bool (ltZ z24 (Int.ofNat 0)))) 34 (.bool true)) 46 (.bool (notB (ltZ z24 (Int.ofNat 0))))) 47 (.bool (notB (ltZ z24 (Int.ofNat 0))))) fun s2 =>
Cd (notB (ltZ z24 (Int.ofNat 0))) (
 AsInt .i64 (a 11) fun z25 =>
 InR (Int.add z25 (Int.ofNat 1)) (
 K .normal (upd (upd (upd s2 48 (a 11)) 49 (i64 (Int.add z25 (Int.ofNat 1)))) 11 (i64 (Int.add z25 (Int.ofNat 1)))) H23)) (
 K (.exit 2) s2 H23))))) (
 K (.exit 2) (upd (Rz false 34 s1 35 12) 47 (.bool false)) H)) := by kernel_rfl
theorem partEqC_W (con : CallT) (a : TF) (H : CH) (K : KX) : codeW (lpAt Try.prog 80 2) Try.prog con a H K =
 (AsInt .i64 (a 11) fun z1 =>
 AsInt .i64 (a 12) fun z2 =>
 Cd (leZ z1 z2) (
 AsSlc (a 0) fun p3 o4 l5 c6 =>
 AsCnt (a 1) fun n7 =>
 Must (ltN n7 l5) (
 Ld H p3 (Nat.add (Nat.add o4 (Nat.mul n7 3)) 0) fun v8 =>
 Ld H p3 (Nat.add (Nat.add o4 (Nat.mul n7 3)) 1) fun v9 =>
 Ld H p3 (Nat.add (Nat.add o4 (Nat.mul n7 3)) 2) fun v10 =>
 AsSlc (a 0) fun p11 o12 l13 c14 =>
 AsCnt (a 12) fun n15 =>
 Must (ltN n15 l13) (
 Ld H p11 (Nat.add (Nat.add o12 (Nat.mul n15 3)) 0) fun v16 =>
 Ld H p11 (Nat.add (Nat.add o12 (Nat.mul n15 3)) 1) fun v17 =>
 Ld H p11 (Nat.add (Nat.add o12 (Nat.mul n15 3)) 2) fun v18 =>
 AsFn (a 4) fun g19 l20 l21 =>
 Must (isFunT Try.prog g19) (
 Call1 Try.prog con g19 (appF l20 ((.agg ⟨[v8,v9,v10]⟩)::(.agg ⟨[v16,v17,v18]⟩)::l21)) H fun v22 H23 =>
 AsInt .i64 v22 fun z24 =>
 Cd (ltZ z24 (Int.ofNat 0)) (
 AsInt .i64 (a 12) fun z25 =>
 InR (Int.sub z25 (Int.ofNat 1)) (
 K .normal (upd (upd (upd (upd (upd (upd (upd (upd (upd (upd (upd (upd (upd (upd (upd (upd (upd (upd (upd (upd (upd (upd (upd (upd (upd (upd (upd (upd (upd (upd a 50 (a 11)) 51 (a 12)) 52 (.bool (leZ z1 z2))) 53 (.bool (leZ z1 z2))) 53 (.bool true)) 54 (a 4)) 53 (.bool true)) 55 (a 0)) 53 (.bool true)) 56 (a 1)) 53 (.bool true)) 57 (ptr p3 (Nat.add o4 (Nat.mul n7 3)))) 53 (.bool true)) 58 (.agg ⟨[v8,v9,v10]⟩)) 53 (.bool true)) 59 (a 0)) 53 (.bool true)) 60 (a 12)) 53 (.bool true)) 61 (ptr p11 (Nat.add o12 (Nat.mul n15 3)))) 53 (.bool true)) 62 (.agg ⟨[v16,v17,v18]⟩)) 53 (.bool true)) 63 v22) 53 (.bool true)) 64 (.bool (ltZ z24 (Int.ofNat 0)))) 65 (.bool (ltZ z24 (Int.ofNat 0)))) 66 (a 12)) 67 (i64 (Int.sub z25 (Int.ofNat 1)))) 12 (i64 (Int.sub z25 (Int.ofNat 1)))) H23)) (
 K (.exit 4) (upd (upd (upd (upd (upd (upd (upd (upd (upd (upd (upd (upd (upd (upd (upd (upd (upd (upd (upd (upd (upd (upd (upd (upd (upd (upd (upd a 50 (a 11)) 51 (a 12)) 52 (.bool (leZ z1 z2))) 53 (.bool (leZ z1 z2))) 53 (.bool true)) 54 (a 4)) 53 (.bool true)) 55 (a 0)) 53 (.bool true)) 56 (a 1)) 53 (.bool true)) 57 (ptr p3 (Nat.add o4 (Nat.mul n7 3)))) 53 (.bool true)) 58 (.agg ⟨[v8,v9,v10]⟩)) 53 (.bool true)) 59 (a 0)) 53 (.bool true)) 60 (a 12)) 53 (.bool true)) 61 (ptr p11 (Nat.add o12 (Nat.mul n15 3)))) 53 (.bool true)) 62 (.agg ⟨[v16,v17,v18]⟩)) 53 (.bool true)) 63 v22) 53 (.bool true)) 64 (.bool (ltZ z24 (Int.ofNat 0)))) 65 (.bool (ltZ z24 (Int.ofNat 0)))) H23))))) (
 K (.exit 4) (upd (upd (upd (upd (upd (upd (upd (upd (upd (upd (upd (upd (upd (upd (upd (upd (upd (upd (upd (upd (upd (upd (upd (upd (upd (upd (upd a 50 (a 11)) 51 (a 12)) 52 (.bool (leZ z1 z2))) 53 (.bool (leZ z1 z2))) 53 (.bool false)) 54 unit) 53 (.bool false)) 55 unit) 53 (.bool false)) 56 unit) 53 (.bool false)) 57 unit) 53 (.bool false)) 58 unit) 53 (.bool false)) 59 unit) 53 (.bool false)) 60 unit) 53 (.bool false)) 61 unit) 53 (.bool false)) 62 unit) 53 (.bool false)) 63 unit) 53 (.bool false)) 64 unit) 65 (.bool false)) H)) := by kernel_rfl
theorem partOrd_W (con : CallT) (v : Value) (a b c : Int) (H : CH) (K : KP) : funW Try.prog con 81 [v,i64 a,i64 b,i64 c,.func (.func 59) ⟨[]⟩ ⟨[]⟩] H K =
 (AsSlc v fun p1 o2 l3 c4 =>
 AsCnt (i64 c) fun n5 =>
 Must (ltN n5 l3) (
 Ld H p1 (Nat.add (Nat.add o2 (Nat.mul n5 3)) 0) fun v6 =>
 Ld H p1 (Nat.add (Nat.add o2 (Nat.mul n5 3)) 1) fun v7 =>
 Ld H p1 (Nat.add (Nat.add o2 (Nat.mul n5 3)) 2) fun v8 =>
 AsSlc v fun p9 o10 l11 c12 =>
 AsCnt (i64 a) fun n13 =>
 Must (ltN n13 l11) (
 Ld H p9 (Nat.add (Nat.add o10 (Nat.mul n13 3)) 0) fun v14 =>
 Ld H p9 (Nat.add (Nat.add o10 (Nat.mul n13 3)) 1) fun v15 =>
 Ld H p9 (Nat.add (Nat.add o10 (Nat.mul n13 3)) 2) fun v16 =>
 AsSlc v fun p17 o18 l19 c20 =>
 AsCnt (i64 a) fun n21 =>
 Must (ltN n21 l19) (
 St H p17 (Nat.add o18 (Nat.mul n21 3)) [v6,v7,v8] fun H22 =>
 AsSlc v fun p23 o24 l25 c26 =>
 AsCnt (i64 c) fun n27 =>
 Must (ltN n27 l25) (
 St H22 p23 (Nat.add o24 (Nat.mul n27 3)) [v14,v15,v16] fun H28 =>
 InR (Int.add a (Int.ofNat 1)) (
 InR (Int.sub b (Int.ofNat 1)) (
 LoopC Try.prog con (lpAt Try.prog 81 0) (upd (upd (upd (upd (upd (upd (upd (upd (upd (upd (upd (upd (upd (upd (upd (upd (upd (upd (upd (upd (upd (upd (upd (upd (upd (upd (upd (fun _ => undV) 4 (.func (.func 59) ⟨[]⟩ ⟨[]⟩)) 3 (i64 c)) 2 (i64 b)) 1 (i64 a)) 0 v) 10 (iN (0))) 11 (.bool false)) 14 v) 15 (i64 a)) 16 v) 17 (i64 c)) 18 v) 19 (i64 c)) 20 (ptr p1 (Nat.add o2 (Nat.mul n5 3)))) 21 (.agg ⟨[v6,v7,v8]⟩)) 22 v) 23 (i64 a)) 24 (ptr p9 (Nat.add o10 (Nat.mul n13 3)))) 25 (.agg ⟨[v14,v15,v16]⟩)) 26 (ptr p17 (Nat.add o18 (Nat.mul n21 3)))) 27 (ptr p23 (Nat.add o24 (Nat.mul n27 3)))) 28 (i64 a)) 29 (i64 (Int.add a (Int.ofNat 1)))) 30 (i64 b)) 31 (i64 (Int.sub b (Int.ofNat 1)))) 12 (i64 (Int.add a (Int.ofNat 1)))) 13 (i64 (Int.sub b (Int.ofNat 1)))) H28 (fun e => ceP e
 (fun a29 H30 =>
 LoopC Try.prog con (lpAt Try.prog 81 1) a29 H30 (fun e => ceP e
 (fun a32 H33 =>
 AsInt .i64 (a32 12) fun z35 =>
 AsInt .i64 (a32 13) fun z36 =>
 Cd (ltZ z36 z35) (
 AsSlc (a32 0) fun p37 o38 l39 c40 =>
 AsCnt (a32 1) fun n41 =>
 Must (ltN n41 l39) (
 Ld H33 p37 (Nat.add (Nat.add o38 (Nat.mul n41 3)) 0) fun v42 =>
 Ld H33 p37 (Nat.add (Nat.add o38 (Nat.mul n41 3)) 1) fun v43 =>
 Ld H33 p37 (Nat.add (Nat.add o38 (Nat.mul n41 3)) 2) fun v44 =>
 AsSlc (a32 0) fun p45 o46 l47 c48 =>
 AsCnt (a32 13) fun n49 =>
 Must (ltN n49 l47) (
 Ld H33 p45 (Nat.add (Nat.add o46 (Nat.mul n49 3)) 0) fun v50 =>
 Ld H33 p45 (Nat.add (Nat.add o46 (Nat.mul n49 3)) 1) fun v51 =>
 Ld H33 p45 (Nat.add (Nat.add o46 (Nat.mul n49 3)) 2) fun v52 =>
 AsSlc (a32 0) fun p53 o54 l55 c56 =>
 AsCnt (a32 13) fun n57 =>
 Must (ltN n57 l55) (
 St H33 p53 (Nat.add o54 (Nat.mul n57 3)) [v42,v43,v44] fun H58 =>
 AsSlc (a32 0) fun p59 o60 l61 c62 =>
 AsCnt (a32 1) fun n63 =>
 Must (ltN n63 l61) (
 St H58 p59 (Nat.add o60 (Nat.mul n63 3)) [v50,v51,v52] fun H64 =>
 K (.tuple ⟨[(a32 13),(.bool true)]⟩) H64))))) (
 AsSlc (a32 0) fun p65 o66 l67 c68 =>
 AsCnt (a32 13) fun n69 =>
 Must (ltN n69 l67) (
 Ld H33 p65 (Nat.add (Nat.add o66 (Nat.mul n69 3)) 0) fun v70 =>
 Ld H33 p65 (Nat.add (Nat.add o66 (Nat.mul n69 3)) 1) fun v71 =>
 Ld H33 p65 (Nat.add (Nat.add o66 (Nat.mul n69 3)) 2) fun v72 =>
 AsSlc (a32 0) fun p73 o74 l75 c76 =>
 AsCnt (a32 12) fun n77 =>
 Must (ltN n77 l75) (
 Ld H33 p73 (Nat.add (Nat.add o74 (Nat.mul n77 3)) 0) fun v78 =>
 Ld H33 p73 (Nat.add (Nat.add o74 (Nat.mul n77 3)) 1) fun v79 =>
 Ld H33 p73 (Nat.add (Nat.add o74 (Nat.mul n77 3)) 2) fun v80 =>
 AsSlc (a32 0) fun p81 o82 l83 c84 =>
 AsCnt (a32 12) fun n85 =>
 Must (ltN n85 l83) (
 St H33 p81 (Nat.add o82 (Nat.mul n85 3)) [v70,v71,v72] fun H86 =>
 AsSlc (a32 0) fun p87 o88 l89 c90 =>
 AsCnt (a32 13) fun n91 =>
 Must (ltN n91 l89) (
 St H86 p87 (Nat.add o88 (Nat.mul n91 3)) [v78,v79,v80] fun H92 =>
 AsInt .i64 (a32 12) fun z93 =>
 InR (Int.add z93 (Int.ofNat 1)) (
 AsInt .i64 (a32 13) fun z94 =>
 InR (Int.sub z94 (Int.ofNat 1)) (
 LoopC Try.prog con (lpAt Try.prog 81 2) (upd (upd (upd (upd (upd (upd (upd (upd (upd (upd (upd (upd (upd (upd (upd (upd (upd (upd (upd (upd (upd (upd (upd a32 69 (a32 12)) 70 (a32 13)) 71 (.bool (ltZ z36 z35))) 87 (a32 0)) 88 (a32 12)) 89 (a32 0)) 90 (a32 13)) 91 (a32 0)) 92 (a32 13)) 93 (ptr p65 (Nat.add o66 (Nat.mul n69 3)))) 94 (.agg ⟨[v70,v71,v72]⟩)) 95 (a32 0)) 96 (a32 12)) 97 (ptr p73 (Nat.add o74 (Nat.mul n77 3)))) 98 (.agg ⟨[v78,v79,v80]⟩)) 99 (ptr p81 (Nat.add o82 (Nat.mul n85 3)))) 100 (ptr p87 (Nat.add o88 (Nat.mul n91 3)))) 101 (a32 12)) 102 (i64 (Int.add z93 (Int.ofNat 1)))) 12 (i64 (Int.add z93 (Int.ofNat 1)))) 103 (a32 13)) 104 (i64 (Int.sub z94 (Int.ofNat 1)))) 13 (i64 (Int.sub z94 (Int.ofNat 1)))) H92 (fun e => ceP e
 (fun a95 H96 =>
 AsSlc (a95 0) fun p98 o99 l100 c101 =>
 AsCnt (a95 1) fun n102 =>
 Must (ltN n102 l100) (
 Ld H96 p98 (Nat.add (Nat.add o99 (Nat.mul n102 3)) 0) fun v103 =>
 Ld H96 p98 (Nat.add (Nat.add o99 (Nat.mul n102 3)) 1) fun v104 =>
 Ld H96 p98 (Nat.add (Nat.add o99 (Nat.mul n102 3)) 2) fun v105 =>
 AsSlc (a95 0) fun p106 o107 l108 c109 =>
 AsCnt (a95 13) fun n110 =>
 Must (ltN n110 l108) (
 Ld H96 p106 (Nat.add (Nat.add o107 (Nat.mul n110 3)) 0) fun v111 =>
 Ld H96 p106 (Nat.add (Nat.add o107 (Nat.mul n110 3)) 1) fun v112 =>
 Ld H96 p106 (Nat.add (Nat.add o107 (Nat.mul n110 3)) 2) fun v113 =>
 AsSlc (a95 0) fun p114 o115 l116 c117 =>
 AsCnt (a95 13) fun n118 =>
 Must (ltN n118 l116) (
 St H96 p114 (Nat.add o115 (Nat.mul n118 3)) [v103,v104,v105] fun H119 =>
 AsSlc (a95 0) fun p120 o121 l122 c123 =>
 AsCnt (a95 1) fun n124 =>
 Must (ltN n124 l122) (
 St H119 p120 (Nat.add o121 (Nat.mul n124 3)) [v111,v112,v113] fun H125 =>
 K (.tuple ⟨[(a95 13),(.bool false)]⟩) H125)))))
 (fun i97 => fun a95 H96 =>
 Cd (eqN i97 4) (
 AsSlc (a95 0) fun p126 o127 l128 c129 =>
 AsCnt (a95 1) fun n130 =>
 Must (ltN n130 l128) (
 Ld H96 p126 (Nat.add (Nat.add o127 (Nat.mul n130 3)) 0) fun v131 =>
 Ld H96 p126 (Nat.add (Nat.add o127 (Nat.mul n130 3)) 1) fun v132 =>
 Ld H96 p126 (Nat.add (Nat.add o127 (Nat.mul n130 3)) 2) fun v133 =>
 AsSlc (a95 0) fun p134 o135 l136 c137 =>
 AsCnt (a95 13) fun n138 =>
 Must (ltN n138 l136) (
 Ld H96 p134 (Nat.add (Nat.add o135 (Nat.mul n138 3)) 0) fun v139 =>
 Ld H96 p134 (Nat.add (Nat.add o135 (Nat.mul n138 3)) 1) fun v140 =>
 Ld H96 p134 (Nat.add (Nat.add o135 (Nat.mul n138 3)) 2) fun v141 =>
 AsSlc (a95 0) fun p142 o143 l144 c145 =>
 AsCnt (a95 13) fun n146 =>
 Must (ltN n146 l144) (
 St H96 p142 (Nat.add o143 (Nat.mul n146 3)) [v131,v132,v133] fun H147 =>
 AsSlc (a95 0) fun p148 o149 l150 c151 =>
 AsCnt (a95 1) fun n152 =>
 Must (ltN n152 l150) (
 St H147 p148 (Nat.add o149 (Nat.mul n152 3)) [v139,v140,v141] fun H153 =>
 K (.tuple ⟨[(a95 13),(.bool false)]⟩) H153))))) (
 False))
 (fun a95 H96 =>
 K (.tuple ⟨[(a95 10),(a95 11)]⟩) H96))))))))))
 (fun i34 => fun a32 H33 =>
 Cd (eqN i34 2) (
 AsInt .i64 (a32 12) fun z154 =>
 AsInt .i64 (a32 13) fun z155 =>
 Cd (ltZ z155 z154) (
 AsSlc (a32 0) fun p156 o157 l158 c159 =>
 AsCnt (a32 1) fun n160 =>
 Must (ltN n160 l158) (
 Ld H33 p156 (Nat.add (Nat.add o157 (Nat.mul n160 3)) 0) fun v161 =>
 Ld H33 p156 (Nat.add (Nat.add o157 (Nat.mul n160 3)) 1) fun v162 =>
 Ld H33 p156 (Nat.add (Nat.add o157 (Nat.mul n160 3)) 2) fun v163 =>
 AsSlc (a32 0) fun p164 o165 l166 c167 =>
 AsCnt (a32 13) fun n168 =>
 Must (ltN n168 l166) (
 Ld H33 p164 (Nat.add (Nat.add o165 (Nat.mul n168 3)) 0) fun v169 =>
 Ld H33 p164 (Nat.add (Nat.add o165 (Nat.mul n168 3)) 1) fun v170 =>
 Ld H33 p164 (Nat.add (Nat.add o165 (Nat.mul n168 3)) 2) fun v171 =>
 AsSlc (a32 0) fun p172 o173 l174 c175 =>
 AsCnt (a32 13) fun n176 =>
 Must (ltN n176 l174) (
 St H33 p172 (Nat.add o173 (Nat.mul n176 3)) [v161,v162,v163] fun H177 =>
 AsSlc (a32 0) fun p178 o179 l180 c181 =>
 AsCnt (a32 1) fun n182 =>
 Must (ltN n182 l180) (
 St H177 p178 (Nat.add o179 (Nat.mul n182 3)) [v169,v170,v171] fun H183 =>
 K (.tuple ⟨[(a32 13),(.bool true)]⟩) H183))))) (
 AsSlc (a32 0) fun p184 o185 l186 c187 =>
 AsCnt (a32 13) fun n188 =>
 Must (ltN n188 l186) (
 Ld H33 p184 (Nat.add (Nat.add o185 (Nat.mul n188 3)) 0) fun v189 =>
 Ld H33 p184 (Nat.add (Nat.add o185 (Nat.mul n188 3)) 1) fun v190 =>
 Ld H33 p184 (Nat.add (Nat.add o185 (Nat.mul n188 3)) 2) fun v191 =>
 AsSlc (a32 0) fun p192 o193 l194 c195 =>
 AsCnt (a32 12) fun n196 =>
 Must (ltN n196 l194) (
 Ld H33 p192 (Nat.add (Nat.add o193 (Nat.mul n196 3)) 0) fun v197 =>
 Ld H33 p192 (Nat.add (Nat.add o193 (Nat.mul n196 3)) 1) fun v198 =>
 Ld H33 p192 (Nat.add (Nat.add o193 (Nat.mul n196 3)) 2) fun v199 =>
 AsSlc (a32 0) fun p200 o201 l202 c203 =>
 AsCnt (a32 12) fun n204 =>
 Must (ltN n204 l202) (
 St H33 p200 (Nat.add o201 (Nat.mul n204 3)) [v189,v190,v191] fun H205 =>
 AsSlc (a32 0) fun p206 o207 l208 c209 =>
 AsCnt (a32 13) fun n210 =>
 Must (ltN n210 l208) (
 St H205 p206 (Nat.add o207 (Nat.mul n210 3)) [v197,v198,v199] fun H211 =>
 AsInt .i64 (a32 12) fun z212 =>
 InR (Int.add z212 (Int.ofNat 1)) (
 AsInt .i64 (a32 13) fun z213 =>
 InR (Int.sub z213 (Int.ofNat 1)) (
 LoopC Try.prog con (lpAt Try.prog 81 2) (upd (upd (upd (upd (upd (upd (upd (upd (upd (upd (upd (upd (upd (upd (upd (upd (upd (upd (upd (upd (upd (upd (upd a32 69 (a32 12)) 70 (a32 13)) 71 (.bool (ltZ z155 z154))) 87 (a32 0)) 88 (a32 12)) 89 (a32 0)) 90 (a32 13)) 91 (a32 0)) 92 (a32 13)) 93 (ptr p184 (Nat.add o185 (Nat.mul n188 3)))) 94 (.agg ⟨[v189,v190,v191]⟩)) 95 (a32 0)) 96 (a32 12)) 97 (ptr p192 (Nat.add o193 (Nat.mul n196 3)))) 98 (.agg ⟨[v197,v198,v199]⟩)) 99 (ptr p200 (Nat.add o201 (Nat.mul n204 3)))) 100 (ptr p206 (Nat.add o207 (Nat.mul n210 3)))) 101 (a32 12)) 102 (i64 (Int.add z212 (Int.ofNat 1)))) 12 (i64 (Int.add z212 (Int.ofNat 1)))) 103 (a32 13)) 104 (i64 (Int.sub z213 (Int.ofNat 1)))) 13 (i64 (Int.sub z213 (Int.ofNat 1)))) H211 (fun e => ceP e
 (fun a214 H215 =>
 AsSlc (a214 0) fun p217 o218 l219 c220 =>
 AsCnt (a214 1) fun n221 =>
 Must (ltN n221 l219) (
 Ld H215 p217 (Nat.add (Nat.add o218 (Nat.mul n221 3)) 0) fun v222 =>
 Ld H215 p217 (Nat.add (Nat.add o218 (Nat.mul n221 3)) 1) fun v223 =>
 Ld H215 p217 (Nat.add (Nat.add o218 (Nat.mul n221 3)) 2) fun v224 =>
 AsSlc (a214 0) fun p225 o226 l227 c228 =>
 AsCnt (a214 13) fun n229 =>
 Must (ltN n229 l227) (
 Ld H215 p225 (Nat.add (Nat.add o226 (Nat.mul n229 3)) 0) fun v230 =>
 Ld H215 p225 (Nat.add (Nat.add o226 (Nat.mul n229 3)) 1) fun v231 =>
 Ld H215 p225 (Nat.add (Nat.add o226 (Nat.mul n229 3)) 2) fun v232 =>
 AsSlc (a214 0) fun p233 o234 l235 c236 =>
 AsCnt (a214 13) fun n237 =>
 Must (ltN n237 l235) (
 St H215 p233 (Nat.add o234 (Nat.mul n237 3)) [v222,v223,v224] fun H238 =>
 AsSlc (a214 0) fun p239 o240 l241 c242 =>
 AsCnt (a214 1) fun n243 =>
 Must (ltN n243 l241) (
 St H238 p239 (Nat.add o240 (Nat.mul n243 3)) [v230,v231,v232] fun H244 =>
 K (.tuple ⟨[(a214 13),(.bool false)]⟩) H244)))))
 (fun i216 => fun a214 H215 =>
 Cd (eqN i216 4) (
 AsSlc (a214 0) fun p245 o246 l247 c248 =>
 AsCnt (a214 1) fun n249 =>
 Must (ltN n249 l247) (
 Ld H215 p245 (Nat.add (Nat.add o246 (Nat.mul n249 3)) 0) fun v250 =>
 Ld H215 p245 (Nat.add (Nat.add o246 (Nat.mul n249 3)) 1) fun v251 =>
 Ld H215 p245 (Nat.add (Nat.add o246 (Nat.mul n249 3)) 2) fun v252 =>
 AsSlc (a214 0) fun p253 o254 l255 c256 =>
 AsCnt (a214 13) fun n257 =>
 Must (ltN n257 l255) (
 Ld H215 p253 (Nat.add (Nat.add o254 (Nat.mul n257 3)) 0) fun v258 =>
 Ld H215 p253 (Nat.add (Nat.add o254 (Nat.mul n257 3)) 1) fun v259 =>
 Ld H215 p253 (Nat.add (Nat.add o254 (Nat.mul n257 3)) 2) fun v260 =>
 AsSlc (a214 0) fun p261 o262 l263 c264 =>
 AsCnt (a214 13) fun n265 =>
 Must (ltN n265 l263) (
 St H215 p261 (Nat.add o262 (Nat.mul n265 3)) [v250,v251,v252] fun H266 =>
 AsSlc (a214 0) fun p267 o268 l269 c270 =>
 AsCnt (a214 1) fun n271 =>
 Must (ltN n271 l269) (
 St H266 p267 (Nat.add o268 (Nat.mul n271 3)) [v258,v259,v260] fun H272 =>
 K (.tuple ⟨[(a214 13),(.bool false)]⟩) H272))))) (
 False))
 (fun a214 H215 =>
 K (.tuple ⟨[(a214 10),(a214 11)]⟩) H215)))))))))) (
 False))
 (fun a32 H33 =>
 K (.tuple ⟨[(a32 10),(a32 11)]⟩) H33)))
 (fun i31 => fun a29 H30 =>
 Cd (eqN i31 0) (
 LoopC Try.prog con (lpAt Try.prog 81 1) a29 H30 (fun e => ceP e
 (fun a273 H274 =>
 AsInt .i64 (a273 12) fun z276 =>
 AsInt .i64 (a273 13) fun z277 =>
 Cd (ltZ z277 z276) (
 AsSlc (a273 0) fun p278 o279 l280 c281 =>
 AsCnt (a273 1) fun n282 =>
 Must (ltN n282 l280) (
 Ld H274 p278 (Nat.add (Nat.add o279 (Nat.mul n282 3)) 0) fun v283 =>
 Ld H274 p278 (Nat.add (Nat.add o279 (Nat.mul n282 3)) 1) fun v284 =>
 Ld H274 p278 (Nat.add (Nat.add o279 (Nat.mul n282 3)) 2) fun v285 =>
 AsSlc (a273 0) fun p286 o287 l288 c289 =>
 AsCnt (a273 13) fun n290 =>
 Must (ltN n290 l288) (
 Ld H274 p286 (Nat.add (Nat.add o287 (Nat.mul n290 3)) 0) fun v291 =>
 Ld H274 p286 (Nat.add (Nat.add o287 (Nat.mul n290 3)) 1) fun v292 =>
 Ld H274 p286 (Nat.add (Nat.add o287 (Nat.mul n290 3)) 2) fun v293 =>
 AsSlc (a273 0) fun p294 o295 l296 c297 =>
 AsCnt (a273 13) fun n298 =>
 Must (ltN n298 l296) (
 St H274 p294 (Nat.add o295 (Nat.mul n298 3)) [v283,v284,v285] fun H299 =>
 AsSlc (a273 0) fun p300 o301 l302 c303 =>
 AsCnt (a273 1) fun n304 =>
 Must (ltN n304 l302) (
 St H299 p300 (Nat.add o301 (Nat.mul n304 3)) [v291,v292,v293] fun H305 =>
 K (.tuple ⟨[(a273 13),(.bool true)]⟩) H305))))) (
 AsSlc (a273 0) fun p306 o307 l308 c309 =>
 AsCnt (a273 13) fun n310 =>
 Must (ltN n310 l308) (
 Ld H274 p306 (Nat.add (Nat.add o307 (Nat.mul n310 3)) 0) fun v311 =>
 Ld H274 p306 (Nat.add (Nat.add o307 (Nat.mul n310 3)) 1) fun v312 =>
 Ld H274 p306 (Nat.add (Nat.add o307 (Nat.mul n310 3)) 2) fun v313 =>
 AsSlc (a273 0) fun p314 o315 l316 c317 =>
 AsCnt (a273 12) fun n318 =>
 Must (ltN n318 l316) (
 Ld H274 p314 (Nat.add (Nat.add o315 (Nat.mul n318 3)) 0) fun v319 =>
 Ld H274 p314 (Nat.add (Nat.add o315 (Nat.mul n318 3)) 1) fun v320 =>
 Ld H274 p314 (Nat.add (Nat.add o315 (Nat.mul n318 3)) 2) fun v321 =>
 AsSlc (a273 0) fun p322 o323 l324 c325 =>
 AsCnt (a273 12) fun n326 =>
 Must (ltN n326 l324) (
 St H274 p322 (Nat.add o323 (Nat.mul n326 3)) [v311,v312,v313] fun H327 =>
 AsSlc (a273 0) fun p328 o329 l330 c331 =>
 AsCnt (a273 13) fun n332 =>
 Must (ltN n332 l330) (
 St H327 p328 (Nat.add o329 (Nat.mul n332 3)) [v319,v320,v321] fun H333 =>
 AsInt .i64 (a273 12) fun z334 =>
 InR (Int.add z334 (Int.ofNat 1)) (
 AsInt .i64 (a273 13) fun z335 =>
 InR (Int.sub z335 (Int.ofNat 1)) (
 LoopC Try.prog con (lpAt Try.prog 81 2) (upd (upd (upd (upd (upd (upd (upd (upd (upd (upd (upd (upd (upd (upd (upd (upd (upd (upd (upd (upd (upd (upd (upd a273 69 (a273 12)) 70 (a273 13)) 71 (.bool (ltZ z277 z276))) 87 (a273 0)) 88 (a273 12)) 89 (a273 0)) 90 (a273 13)) 91 (a273 0)) 92 (a273 13)) 93 (ptr p306 (Nat.add o307 (Nat.mul n310 3)))) 94 (.agg ⟨[v311,v312,v313]⟩)) 95 (a273 0)) 96 (a273 12)) 97 (ptr p314 (Nat.add o315 (Nat.mul n318 3)))) 98 (.agg ⟨[v319,v320,v321]⟩)) 99 (ptr p322 (Nat.add o323 (Nat.mul n326 3)))) 100 (ptr p328 (Nat.add o329 (Nat.mul n332 3)))) 101 (a273 12)) 102 (i64 (Int.add z334 (Int.ofNat 1)))) 12 (i64 (Int.add z334 (Int.ofNat 1)))) 103 (a273 13)) 104 (i64 (Int.sub z335 (Int.ofNat 1)))) 13 (i64 (Int.sub z335 (Int.ofNat 1)))) H333 (fun e => ceP e
 (fun a336 H337 =>
 AsSlc (a336 0) fun p339 o340 l341 c342 =>
 AsCnt (a336 1) fun n343 =>
 Must (ltN n343 l341) (
 Ld H337 p339 (Nat.add (Nat.add o340 (Nat.mul n343 3)) 0) fun v344 =>
 Ld H337 p339 (Nat.add (Nat.add o340 (Nat.mul n343 3)) 1) fun v345 =>
 Ld H337 p339 (Nat.add (Nat.add o340 (Nat.mul n343 3)) 2) fun v346 =>
 AsSlc (a336 0) fun p347 o348 l349 c350 =>
 AsCnt (a336 13) fun n351 =>
 Must (ltN n351 l349) (
 Ld H337 p347 (Nat.add (Nat.add o348 (Nat.mul n351 3)) 0) fun v352 =>
 Ld H337 p347 (Nat.add (Nat.add o348 (Nat.mul n351 3)) 1) fun v353 =>
 Ld H337 p347 (Nat.add (Nat.add o348 (Nat.mul n351 3)) 2) fun v354 =>
 AsSlc (a336 0) fun p355 o356 l357 c358 =>
 AsCnt (a336 13) fun n359 =>
 Must (ltN n359 l357) (
 St H337 p355 (Nat.add o356 (Nat.mul n359 3)) [v344,v345,v346] fun H360 =>
 AsSlc (a336 0) fun p361 o362 l363 c364 =>
 AsCnt (a336 1) fun n365 =>
 Must (ltN n365 l363) (
 St H360 p361 (Nat.add o362 (Nat.mul n365 3)) [v352,v353,v354] fun H366 =>
 K (.tuple ⟨[(a336 13),(.bool false)]⟩) H366)))))
 (fun i338 => fun a336 H337 =>
 Cd (eqN i338 4) (
 AsSlc (a336 0) fun p367 o368 l369 c370 =>
 AsCnt (a336 1) fun n371 =>
 Must (ltN n371 l369) (
 Ld H337 p367 (Nat.add (Nat.add o368 (Nat.mul n371 3)) 0) fun v372 =>
 Ld H337 p367 (Nat.add (Nat.add o368 (Nat.mul n371 3)) 1) fun v373 =>
 Ld H337 p367 (Nat.add (Nat.add o368 (Nat.mul n371 3)) 2) fun v374 =>
 AsSlc (a336 0) fun p375 o376 l377 c378 =>
 AsCnt (a336 13) fun n379 =>
 Must (ltN n379 l377) (
 Ld H337 p375 (Nat.add (Nat.add o376 (Nat.mul n379 3)) 0) fun v380 =>
 Ld H337 p375 (Nat.add (Nat.add o376 (Nat.mul n379 3)) 1) fun v381 =>
 Ld H337 p375 (Nat.add (Nat.add o376 (Nat.mul n379 3)) 2) fun v382 =>
 AsSlc (a336 0) fun p383 o384 l385 c386 =>
 AsCnt (a336 13) fun n387 =>
 Must (ltN n387 l385) (
 St H337 p383 (Nat.add o384 (Nat.mul n387 3)) [v372,v373,v374] fun H388 =>
 AsSlc (a336 0) fun p389 o390 l391 c392 =>
 AsCnt (a336 1) fun n393 =>
 Must (ltN n393 l391) (
 St H388 p389 (Nat.add o390 (Nat.mul n393 3)) [v380,v381,v382] fun H394 =>
 K (.tuple ⟨[(a336 13),(.bool false)]⟩) H394))))) (
 False))
 (fun a336 H337 =>
 K (.tuple ⟨[(a336 10),(a336 11)]⟩) H337))))))))))
 (fun i275 => fun a273 H274 =>
 Cd (eqN i275 2) (
 AsInt .i64 (a273 12) fun z395 =>
 AsInt .i64 (a273 13) fun z396 =>
 Cd (ltZ z396 z395) (
 AsSlc (a273 0) fun p397 o398 l399 c400 =>
 AsCnt (a273 1) fun n401 =>
 Must (ltN n401 l399) (
 Ld H274 p397 (Nat.add (Nat.add o398 (Nat.mul n401 3)) 0) fun v402 =>
 Ld H274 p397 (Nat.add (Nat.add o398 (Nat.mul n401 3)) 1) fun v403 =>
 Ld H274 p397 (Nat.add (Nat.add o398 (Nat.mul n401 3)) 2) fun v404 =>
 AsSlc (a273 0) fun p405 o406 l407 c408 =>
 AsCnt (a273 13) fun n409 =>
 Must (ltN n409 l407) (
 Ld H274 p405 (Nat.add (Nat.add o406 (Nat.mul n409 3)) 0) fun v410 =>
 Ld H274 p405 (Nat.add (Nat.add o406 (Nat.mul n409 3)) 1) fun v411 =>
 Ld H274 p405 (Nat.add (Nat.add o406 (Nat.mul n409 3)) 2) fun v412 =>
 AsSlc (a273 0) fun p413 o414 l415 c416 =>
 AsCnt (a273 13) fun n417 =>
 Must (ltN n417 l415) (
 St H274 p413 (Nat.add o414 (Nat.mul n417 3)) [v402,v403,v404] fun H418 =>
 AsSlc (a273 0) fun p419 o420 l421 c422 =>
 AsCnt (a273 1) fun n423 =>
 Must (ltN n423 l421) (
 St H418 p419 (Nat.add o420 (Nat.mul n423 3)) [v410,v411,v412] fun H424 =>
 K (.tuple ⟨[(a273 13),(.bool true)]⟩) H424))))) (
 AsSlc (a273 0) fun p425 o426 l427 c428 =>
 AsCnt (a273 13) fun n429 =>
 Must (ltN n429 l427) (
 Ld H274 p425 (Nat.add (Nat.add o426 (Nat.mul n429 3)) 0) fun v430 =>
 Ld H274 p425 (Nat.add (Nat.add o426 (Nat.mul n429 3)) 1) fun v431 =>
 Ld H274 p425 (Nat.add (Nat.add o426 (Nat.mul n429 3)) 2) fun v432 =>
 AsSlc (a273 0) fun p433 o434 l435 c436 =>
 AsCnt (a273 12) fun n437 =>
 Must (ltN n437 l435) (
 Ld H274 p433 (Nat.add (Nat.add o434 (Nat.mul n437 3)) 0) fun v438 =>
 Ld H274 p433 (Nat.add (Nat.add o434 (Nat.mul n437 3)) 1) fun v439 =>
 Ld H274 p433 (Nat.add (Nat.add o434 (Nat.mul n437 3)) 2) fun v440 =>
 AsSlc (a273 0) fun p441 o442 l443 c444 =>
 AsCnt (a273 12) fun n445 =>
 Must (ltN n445 l443) (
 St H274 p441 (Nat.add o442 (Nat.mul n445 3)) [v430,v431,v432] fun H446 =>
 AsSlc (a273 0) fun p447 o448 l449 c450 =>
 AsCnt (a273 13) fun n451 =>
 Must (ltN n451 l449) (
 St H446 p447 (Nat.add o448 (Nat.mul n451 3)) [v438,v439,v440] fun H452 =>
 AsInt .i64 (a273 12) fun z453 =>
 InR (Int.add z453 (Int.ofNat 1)) (
 AsInt .i64 (a273 13) fun z454 =>
 InR (Int.sub z454 (Int.ofNat 1)) (
 LoopC Try.prog con (lpAt Try.prog 81 2) (upd (upd (upd (upd (upd (upd (upd (upd (upd (upd (upd (upd (upd (upd (upd (upd (upd (upd (upd (upd (upd (upd (upd a273 69 (a273 12)) 70 (a273 13)) 71 (.bool (ltZ z396 z395))) 87 (a273 0)) 88 (a273 12)) 89 (a273 0)) 90 (a273 13)) 91 (a273 0)) 92 (a273 13)) 93 (ptr p425 (Nat.add o426 (Nat.mul n429 3)))) 94 (.agg ⟨[v430,v431,v432]⟩)) 95 (a273 0)) 96 (a273 12)) 97 (ptr p433 (Nat.add o434 (Nat.mul n437 3)))) 98 (.agg ⟨[v438,v439,v440]⟩)) 99 (ptr p441 (Nat.add o442 (Nat.mul n445 3)))) 100 (ptr p447 (Nat.add o448 (Nat.mul n451 3)))) 101 (a273 12)) 102 (i64 (Int.add z453 (Int.ofNat 1)))) 12 (i64 (Int.add z453 (Int.ofNat 1)))) 103 (a273 13)) 104 (i64 (Int.sub z454 (Int.ofNat 1)))) 13 (i64 (Int.sub z454 (Int.ofNat 1)))) H452 (fun e => ceP e
 (fun a455 H456 =>
 AsSlc (a455 0) fun p458 o459 l460 c461 =>
 AsCnt (a455 1) fun n462 =>
 Must (ltN n462 l460) (
 Ld H456 p458 (Nat.add (Nat.add o459 (Nat.mul n462 3)) 0) fun v463 =>
 Ld H456 p458 (Nat.add (Nat.add o459 (Nat.mul n462 3)) 1) fun v464 =>
 Ld H456 p458 (Nat.add (Nat.add o459 (Nat.mul n462 3)) 2) fun v465 =>
 AsSlc (a455 0) fun p466 o467 l468 c469 =>
 AsCnt (a455 13) fun n470 =>
 Must (ltN n470 l468) (
 Ld H456 p466 (Nat.add (Nat.add o467 (Nat.mul n470 3)) 0) fun v471 =>
 Ld H456 p466 (Nat.add (Nat.add o467 (Nat.mul n470 3)) 1) fun v472 =>
 Ld H456 p466 (Nat.add (Nat.add o467 (Nat.mul n470 3)) 2) fun v473 =>
 AsSlc (a455 0) fun p474 o475 l476 c477 =>
 AsCnt (a455 13) fun n478 =>
 Must (ltN n478 l476) (
 St H456 p474 (Nat.add o475 (Nat.mul n478 3)) [v463,v464,v465] fun H479 =>
 AsSlc (a455 0) fun p480 o481 l482 c483 =>
 AsCnt (a455 1) fun n484 =>
 Must (ltN n484 l482) (
 St H479 p480 (Nat.add o481 (Nat.mul n484 3)) [v471,v472,v473] fun H485 =>
 K (.tuple ⟨[(a455 13),(.bool false)]⟩) H485)))))
 (fun i457 => fun a455 H456 =>
 Cd (eqN i457 4) (
 AsSlc (a455 0) fun p486 o487 l488 c489 =>
 AsCnt (a455 1) fun n490 =>
 Must (ltN n490 l488) (
 Ld H456 p486 (Nat.add (Nat.add o487 (Nat.mul n490 3)) 0) fun v491 =>
 Ld H456 p486 (Nat.add (Nat.add o487 (Nat.mul n490 3)) 1) fun v492 =>
 Ld H456 p486 (Nat.add (Nat.add o487 (Nat.mul n490 3)) 2) fun v493 =>
 AsSlc (a455 0) fun p494 o495 l496 c497 =>
 AsCnt (a455 13) fun n498 =>
 Must (ltN n498 l496) (
 Ld H456 p494 (Nat.add (Nat.add o495 (Nat.mul n498 3)) 0) fun v499 =>
 Ld H456 p494 (Nat.add (Nat.add o495 (Nat.mul n498 3)) 1) fun v500 =>
 Ld H456 p494 (Nat.add (Nat.add o495 (Nat.mul n498 3)) 2) fun v501 =>
 AsSlc (a455 0) fun p502 o503 l504 c505 =>
 AsCnt (a455 13) fun n506 =>
 Must (ltN n506 l504) (
 St H456 p502 (Nat.add o503 (Nat.mul n506 3)) [v491,v492,v493] fun H507 =>
 AsSlc (a455 0) fun p508 o509 l510 c511 =>
 AsCnt (a455 1) fun n512 =>
 Must (ltN n512 l510) (
 St H507 p508 (Nat.add o509 (Nat.mul n512 3)) [v499,v500,v501] fun H513 =>
 K (.tuple ⟨[(a455 13),(.bool false)]⟩) H513))))) (
 False))
 (fun a455 H456 =>
 K (.tuple ⟨[(a455 10),(a455 11)]⟩) H456)))))))))) (
 False))
 (fun a273 H274 =>
 K (.tuple ⟨[(a273 10),(a273 11)]⟩) H274))) (
 False))
 (fun a29 H30 =>
 K (.tuple ⟨[(a29 10),(a29 11)]⟩) H30))))))))) := by kernel_rfl
theorem partOrdA_W (con : CallT) (a : TF) (H : CH) (K : KX) : codeW (lpAt Try.prog 81 0) Try.prog con a H K =
 (AsInt .i64 (a 12) fun z1 =>
 AsInt .i64 (a 13) fun z2 =>
 Cd (leZ z1 z2) (
 AsSlc (a 0) fun p3 o4 l5 c6 =>
 AsCnt (a 12) fun n7 =>
 Must (ltN n7 l5) (
 Ld H p3 (Nat.add (Nat.add o4 (Nat.mul n7 3)) 0) fun v8 =>
 Ld H p3 (Nat.add (Nat.add o4 (Nat.mul n7 3)) 1) fun v9 =>
 Ld H p3 (Nat.add (Nat.add o4 (Nat.mul n7 3)) 2) fun v10 =>
 AsSlc (a 0) fun p11 o12 l13 c14 =>
 AsCnt (a 1) fun n15 =>
 Must (ltN n15 l13) (
 Ld H p11 (Nat.add (Nat.add o12 (Nat.mul n15 3)) 0) fun v16 =>
 Ld H p11 (Nat.add (Nat.add o12 (Nat.mul n15 3)) 1) fun v17 =>
 Ld H p11 (Nat.add (Nat.add o12 (Nat.mul n15 3)) 2) fun v18 =>
 AsFn (a 4) fun g19 l20 l21 =>
 Must (isFunT Try.prog g19) (
 Call1 Try.prog con g19 (appF l20 ((.agg ⟨[v8,v9,v10]⟩)::(.agg ⟨[v16,v17,v18]⟩)::l21)) H fun v22 H23 =>
 AsInt .i64 v22 fun z24 =>
 Cd (ltZ z24 (Int.ofNat 0)) (
 AsInt .i64 (a 12) fun z25 =>
 InR (Int.add z25 (Int.ofNat 1)) (
 K .normal (upd (upd (upd (upd (upd (upd (upd (upd (upd (upd (upd (upd (upd (upd (upd (upd (upd (upd (upd (upd (upd (upd (upd (upd (upd (upd (upd (upd (upd (upd a 32 (a 12)) 33 (a 13)) 34 (.bool (leZ z1 z2))) 35 (.bool (leZ z1 z2))) 35 (.bool true)) 36 (a 4)) 35 (.bool true)) 37 (a 0)) 35 (.bool true)) 38 (a 12)) 35 (.bool true)) 39 (ptr p3 (Nat.add o4 (Nat.mul n7 3)))) 35 (.bool true)) 40 (.agg ⟨[v8,v9,v10]⟩)) 35 (.bool true)) 41 (a 0)) 35 (.bool true)) 42 (a 1)) 35 (.bool true)) 43 (ptr p11 (Nat.add o12 (Nat.mul n15 3)))) 35 (.bool true)) 44 (.agg ⟨[v16,v17,v18]⟩)) 35 (.bool true)) 45 v22) 35 (.bool true)) 46 (.bool (ltZ z24 (Int.ofNat 0)))) 47 (.bool (ltZ z24 (Int.ofNat 0)))) 48 (a 12)) 49 (i64 (Int.add z25 (Int.ofNat 1)))) 12 (i64 (Int.add z25 (Int.ofNat 1)))) H23)) (
 K (.exit 0) (upd (upd (upd (upd (upd (upd (upd (upd (upd (upd (upd (upd (upd (upd (upd (upd (upd (upd (upd (upd (upd (upd (upd (upd (upd (upd (upd a 32 (a 12)) 33 (a 13)) 34 (.bool (leZ z1 z2))) 35 (.bool (leZ z1 z2))) 35 (.bool true)) 36 (a 4)) 35 (.bool true)) 37 (a 0)) 35 (.bool true)) 38 (a 12)) 35 (.bool true)) 39 (ptr p3 (Nat.add o4 (Nat.mul n7 3)))) 35 (.bool true)) 40 (.agg ⟨[v8,v9,v10]⟩)) 35 (.bool true)) 41 (a 0)) 35 (.bool true)) 42 (a 1)) 35 (.bool true)) 43 (ptr p11 (Nat.add o12 (Nat.mul n15 3)))) 35 (.bool true)) 44 (.agg ⟨[v16,v17,v18]⟩)) 35 (.bool true)) 45 v22) 35 (.bool true)) 46 (.bool (ltZ z24 (Int.ofNat 0)))) 47 (.bool (ltZ z24 (Int.ofNat 0)))) H23))))) (
 K (.exit 0) (upd (upd (upd (upd (upd (upd (upd (upd (upd (upd (upd (upd (upd (upd (upd (upd (upd (upd (upd (upd (upd (upd (upd (upd (upd (upd (upd a 32 (a 12)) 33 (a 13)) 34 (.bool (leZ z1 z2))) 35 (.bool (leZ z1 z2))) 35 (.bool false)) 36 unit) 35 (.bool false)) 37 unit) 35 (.bool false)) 38 unit) 35 (.bool false)) 39 unit) 35 (.bool false)) 40 unit) 35 (.bool false)) 41 unit) 35 (.bool false)) 42 unit) 35 (.bool false)) 43 unit) 35 (.bool false)) 44 unit) 35 (.bool false)) 45 unit) 35 (.bool false)) 46 unit) 47 (.bool false)) H)) := by kernel_rfl
theorem partOrdB_W (con : CallT) (a : TF) (H : CH) (K : KX) : codeW (lpAt Try.prog 81 1) Try.prog con a H K =
 (AsInt .i64 (a 12) fun z1 =>
 AsInt .i64 (a 13) fun z2 =>
 Bnd (upd (upd (upd (upd a 50 (a 12)) 51 (a 13)) 52 (.bool (leZ z1 z2))) 53 (.bool (leZ z1 z2))) fun s1 =>
Cd (leZ z1 z2) (
 AsSlc (a 0) fun p3 o4 l5 c6 =>
 AsCnt (a 13) fun n7 =>
 Must (ltN n7 l5) (
 Ld H p3 (Nat.add (Nat.add o4 (Nat.mul n7 3)) 0) fun v8 =>
 Ld H p3 (Nat.add (Nat.add o4 (Nat.mul n7 3)) 1) fun v9 =>
 Ld H p3 (Nat.add (Nat.add o4 (Nat.mul n7 3)) 2) fun v10 =>
 AsSlc (a 0) fun p11 o12 l13 c14 =>
 AsCnt (a 1) fun n15 =>
 Must (ltN n15 l13) (
 Ld H p11 (Nat.add (Nat.add o12 (Nat.mul n15 3)) 0) fun v16 =>
 Ld H p11 (Nat.add (Nat.add o12 (Nat.mul n15 3)) 1) fun v17 =>
 Ld H p11 (Nat.add (Nat.add o12 (Nat.mul n15 3)) 2) fun v18 =>
 AsFn (a 4) fun g19 l20 l21 =>
 Must (isFunT Try.prog g19) (
 Call1 Try.prog con g19 (appF l20 ((.agg ⟨[v8,v9,v10]⟩)::(.agg ⟨[v16,v17,v18]⟩)::l21)) H fun v22 H23 =>
 AsInt .i64 v22 fun z24 =>
 Bnd (upd (upd (upd (upd (upd (upd (upd (upd (upd (upd (upd (upd (upd (upd (upd (upd (upd (upd (upd (upd (upd (upd (upd (upd (upd s1 53 (.bool true)) 54 (a 4)) 53 (.bool true)) 55 (a 0)) 53 (.bool true)) 56 (a 13)) 53 (.bool true)) 57 (ptr p3 (Nat.add o4 (Nat.mul n7 3)))) 53 (.bool true)) 58 (.agg ⟨[v8,v9,v10]⟩)) 53 (.bool true)) 59 (a 0)) 53 (.bool true)) 60 (a 1)) 53 (.bool true)) 61 (ptr p11 (Nat.add o12 (Nat.mul n15 3)))) 53 (.bool true)) 62 (.agg ⟨[v16,v17,v18]⟩)) 53 (.bool true)) 63 v22) 53 (.bool true)) 64 (.bool (ltZ z24 (Int.ofNat 0)))) 53 (.bool true)) 65 (.bool (notB (ltZ z24 (Int.ofNat 0))))) 66 (.bool (notB (ltZ z24 (Int.ofNat 0))))) fun s2 =>
Cd (notB (ltZ z24 (Int.ofNat 0))) (
 AsInt .i64 (a 13) fun z25 =>
 InR (Int.sub z25 (Int.ofNat 1)) (
 K .normal (upd (upd (upd s2 67 (a 13)) 68 (i64 (Int.sub z25 (Int.ofNat 1)))) 13 (i64 (Int.sub z25 (Int.ofNat 1)))) H23)) (
 K (.exit 2) s2 H23))))) (
 K (.exit 2) (upd (Rz false 53 s1 54 12) 66 (.bool false)) H)) := by kernel_rfl
theorem partOrdC_W (con : CallT) (a : TF) (H : CH) (K : KX) : codeW (lpAt Try.prog 81 2) Try.prog con a H K =
 (LoopC Try.prog con (lpAt Try.prog 81 3) a H (fun e => ceP e
 (fun a1 H2 =>
 LoopC Try.prog con (lpAt Try.prog 81 4) a1 H2 (fun e => ceP e
 (fun a4 H5 =>
 AsInt .i64 (a4 12) fun z7 =>
 AsInt .i64 (a4 13) fun z8 =>
 Cd (ltZ z8 z7) (
 K (.exit 4) (upd (upd (upd a4 142 (a4 12)) 143 (a4 13)) 144 (.bool (ltZ z8 z7))) H5) (
 AsSlc (a4 0) fun p9 o10 l11 c12 =>
 AsCnt (a4 13) fun n13 =>
 Must (ltN n13 l11) (
 Ld H5 p9 (Nat.add (Nat.add o10 (Nat.mul n13 3)) 0) fun v14 =>
 Ld H5 p9 (Nat.add (Nat.add o10 (Nat.mul n13 3)) 1) fun v15 =>
 Ld H5 p9 (Nat.add (Nat.add o10 (Nat.mul n13 3)) 2) fun v16 =>
 AsSlc (a4 0) fun p17 o18 l19 c20 =>
 AsCnt (a4 12) fun n21 =>
 Must (ltN n21 l19) (
 Ld H5 p17 (Nat.add (Nat.add o18 (Nat.mul n21 3)) 0) fun v22 =>
 Ld H5 p17 (Nat.add (Nat.add o18 (Nat.mul n21 3)) 1) fun v23 =>
 Ld H5 p17 (Nat.add (Nat.add o18 (Nat.mul n21 3)) 2) fun v24 =>
 AsSlc (a4 0) fun p25 o26 l27 c28 =>
 AsCnt (a4 12) fun n29 =>
 Must (ltN n29 l27) (
 St H5 p25 (Nat.add o26 (Nat.mul n29 3)) [v14,v15,v16] fun H30 =>
 AsSlc (a4 0) fun p31 o32 l33 c34 =>
 AsCnt (a4 13) fun n35 =>
 Must (ltN n35 l33) (
 St H30 p31 (Nat.add o32 (Nat.mul n35 3)) [v22,v23,v24] fun H36 =>
 AsInt .i64 (a4 12) fun z37 =>
 InR (Int.add z37 (Int.ofNat 1)) (
 AsInt .i64 (a4 13) fun z38 =>
 InR (Int.sub z38 (Int.ofNat 1)) (
 K .normal (upd (upd (upd (upd (upd (upd (upd (upd (upd (upd (upd (upd (upd (upd (upd (upd (upd (upd (upd (upd (upd (upd (upd a4 142 (a4 12)) 143 (a4 13)) 144 (.bool (ltZ z8 z7))) 145 (a4 0)) 146 (a4 12)) 147 (a4 0)) 148 (a4 13)) 149 (a4 0)) 150 (a4 13)) 151 (ptr p9 (Nat.add o10 (Nat.mul n13 3)))) 152 (.agg ⟨[v14,v15,v16]⟩)) 153 (a4 0)) 154 (a4 12)) 155 (ptr p17 (Nat.add o18 (Nat.mul n21 3)))) 156 (.agg ⟨[v22,v23,v24]⟩)) 157 (ptr p25 (Nat.add o26 (Nat.mul n29 3)))) 158 (ptr p31 (Nat.add o32 (Nat.mul n35 3)))) 159 (a4 12)) 160 (i64 (Int.add z37 (Int.ofNat 1)))) 12 (i64 (Int.add z37 (Int.ofNat 1)))) 161 (a4 13)) 162 (i64 (Int.sub z38 (Int.ofNat 1)))) 13 (i64 (Int.sub z38 (Int.ofNat 1)))) H36))))))))
 (fun i6 => fun a4 H5 =>
 Cd (eqN i6 8) (
 AsInt .i64 (a4 12) fun z39 =>
 AsInt .i64 (a4 13) fun z40 =>
 Cd (ltZ z40 z39) (
 K (.exit 4) (upd (upd (upd a4 142 (a4 12)) 143 (a4 13)) 144 (.bool (ltZ z40 z39))) H5) (
 AsSlc (a4 0) fun p41 o42 l43 c44 =>
 AsCnt (a4 13) fun n45 =>
 Must (ltN n45 l43) (
 Ld H5 p41 (Nat.add (Nat.add o42 (Nat.mul n45 3)) 0) fun v46 =>
 Ld H5 p41 (Nat.add (Nat.add o42 (Nat.mul n45 3)) 1) fun v47 =>
 Ld H5 p41 (Nat.add (Nat.add o42 (Nat.mul n45 3)) 2) fun v48 =>
 AsSlc (a4 0) fun p49 o50 l51 c52 =>
 AsCnt (a4 12) fun n53 =>
 Must (ltN n53 l51) (
 Ld H5 p49 (Nat.add (Nat.add o50 (Nat.mul n53 3)) 0) fun v54 =>
 Ld H5 p49 (Nat.add (Nat.add o50 (Nat.mul n53 3)) 1) fun v55 =>
 Ld H5 p49 (Nat.add (Nat.add o50 (Nat.mul n53 3)) 2) fun v56 =>
 AsSlc (a4 0) fun p57 o58 l59 c60 =>
 AsCnt (a4 12) fun n61 =>
 Must (ltN n61 l59) (
 St H5 p57 (Nat.add o58 (Nat.mul n61 3)) [v46,v47,v48] fun H62 =>
 AsSlc (a4 0) fun p63 o64 l65 c66 =>
 AsCnt (a4 13) fun n67 =>
 Must (ltN n67 l65) (
 St H62 p63 (Nat.add o64 (Nat.mul n67 3)) [v54,v55,v56] fun H68 =>
 AsInt .i64 (a4 12) fun z69 =>
 InR (Int.add z69 (Int.ofNat 1)) (
 AsInt .i64 (a4 13) fun z70 =>
 InR (Int.sub z70 (Int.ofNat 1)) (
 K .normal (upd (upd (upd (upd (upd (upd (upd (upd (upd (upd (upd (upd (upd (upd (upd (upd (upd (upd (upd (upd (upd (upd (upd a4 142 (a4 12)) 143 (a4 13)) 144 (.bool (ltZ z40 z39))) 145 (a4 0)) 146 (a4 12)) 147 (a4 0)) 148 (a4 13)) 149 (a4 0)) 150 (a4 13)) 151 (ptr p41 (Nat.add o42 (Nat.mul n45 3)))) 152 (.agg ⟨[v46,v47,v48]⟩)) 153 (a4 0)) 154 (a4 12)) 155 (ptr p49 (Nat.add o50 (Nat.mul n53 3)))) 156 (.agg ⟨[v54,v55,v56]⟩)) 157 (ptr p57 (Nat.add o58 (Nat.mul n61 3)))) 158 (ptr p63 (Nat.add o64 (Nat.mul n67 3)))) 159 (a4 12)) 160 (i64 (Int.add z69 (Int.ofNat 1)))) 12 (i64 (Int.add z69 (Int.ofNat 1)))) 161 (a4 13)) 162 (i64 (Int.sub z70 (Int.ofNat 1)))) 13 (i64 (Int.sub z70 (Int.ofNat 1)))) H68)))))))) (
 Cd (eqN i6 5) (
 K .normal a4 H5) (
 K (.exit i6) a4 H5)))
 (fun a4 H5 =>
 K .ret a4 H5)))
 (fun i3 => fun a1 H2 =>
 Cd (eqN i3 6) (
 LoopC Try.prog con (lpAt Try.prog 81 4) a1 H2 (fun e => ceP e
 (fun a71 H72 =>
 AsInt .i64 (a71 12) fun z74 =>
 AsInt .i64 (a71 13) fun z75 =>
 Cd (ltZ z75 z74) (
 K (.exit 4) (upd (upd (upd a71 142 (a71 12)) 143 (a71 13)) 144 (.bool (ltZ z75 z74))) H72) (
 AsSlc (a71 0) fun p76 o77 l78 c79 =>
 AsCnt (a71 13) fun n80 =>
 Must (ltN n80 l78) (
 Ld H72 p76 (Nat.add (Nat.add o77 (Nat.mul n80 3)) 0) fun v81 =>
 Ld H72 p76 (Nat.add (Nat.add o77 (Nat.mul n80 3)) 1) fun v82 =>
 Ld H72 p76 (Nat.add (Nat.add o77 (Nat.mul n80 3)) 2) fun v83 =>
 AsSlc (a71 0) fun p84 o85 l86 c87 =>
 AsCnt (a71 12) fun n88 =>
 Must (ltN n88 l86) (
 Ld H72 p84 (Nat.add (Nat.add o85 (Nat.mul n88 3)) 0) fun v89 =>
 Ld H72 p84 (Nat.add (Nat.add o85 (Nat.mul n88 3)) 1) fun v90 =>
 Ld H72 p84 (Nat.add (Nat.add o85 (Nat.mul n88 3)) 2) fun v91 =>
 AsSlc (a71 0) fun p92 o93 l94 c95 =>
 AsCnt (a71 12) fun n96 =>
 Must (ltN n96 l94) (
 St H72 p92 (Nat.add o93 (Nat.mul n96 3)) [v81,v82,v83] fun H97 =>
 AsSlc (a71 0) fun p98 o99 l100 c101 =>
 AsCnt (a71 13) fun n102 =>
 Must (ltN n102 l100) (
 St H97 p98 (Nat.add o99 (Nat.mul n102 3)) [v89,v90,v91] fun H103 =>
 AsInt .i64 (a71 12) fun z104 =>
 InR (Int.add z104 (Int.ofNat 1)) (
 AsInt .i64 (a71 13) fun z105 =>
 InR (Int.sub z105 (Int.ofNat 1)) (
 K .normal (upd (upd (upd (upd (upd (upd (upd (upd (upd (upd (upd (upd (upd (upd (upd (upd (upd (upd (upd (upd (upd (upd (upd a71 142 (a71 12)) 143 (a71 13)) 144 (.bool (ltZ z75 z74))) 145 (a71 0)) 146 (a71 12)) 147 (a71 0)) 148 (a71 13)) 149 (a71 0)) 150 (a71 13)) 151 (ptr p76 (Nat.add o77 (Nat.mul n80 3)))) 152 (.agg ⟨[v81,v82,v83]⟩)) 153 (a71 0)) 154 (a71 12)) 155 (ptr p84 (Nat.add o85 (Nat.mul n88 3)))) 156 (.agg ⟨[v89,v90,v91]⟩)) 157 (ptr p92 (Nat.add o93 (Nat.mul n96 3)))) 158 (ptr p98 (Nat.add o99 (Nat.mul n102 3)))) 159 (a71 12)) 160 (i64 (Int.add z104 (Int.ofNat 1)))) 12 (i64 (Int.add z104 (Int.ofNat 1)))) 161 (a71 13)) 162 (i64 (Int.sub z105 (Int.ofNat 1)))) 13 (i64 (Int.sub z105 (Int.ofNat 1)))) H103))))))))
 (fun i73 => fun a71 H72 =>
 Cd (eqN i73 8) (
 AsInt .i64 (a71 12) fun z106 =>
 AsInt .i64 (a71 13) fun z107 =>
 Cd (ltZ z107 z106) (
 K (.exit 4) (upd (upd (upd a71 142 (a71 12)) 143 (a71 13)) 144 (.bool (ltZ z107 z106))) H72) (
 AsSlc (a71 0) fun p108 o109 l110 c111 =>
 AsCnt (a71 13) fun n112 =>
 Must (ltN n112 l110) (
 Ld H72 p108 (Nat.add (Nat.add o109 (Nat.mul n112 3)) 0) fun v113 =>
 Ld H72 p108 (Nat.add (Nat.add o109 (Nat.mul n112 3)) 1) fun v114 =>
 Ld H72 p108 (Nat.add (Nat.add o109 (Nat.mul n112 3)) 2) fun v115 =>
 AsSlc (a71 0) fun p116 o117 l118 c119 =>
 AsCnt (a71 12) fun n120 =>
 Must (ltN n120 l118) (
 Ld H72 p116 (Nat.add (Nat.add o117 (Nat.mul n120 3)) 0) fun v121 =>
 Ld H72 p116 (Nat.add (Nat.add o117 (Nat.mul n120 3)) 1) fun v122 =>
 Ld H72 p116 (Nat.add (Nat.add o117 (Nat.mul n120 3)) 2) fun v123 =>
 AsSlc (a71 0) fun p124 o125 l126 c127 =>
 AsCnt (a71 12) fun n128 =>
 Must (ltN n128 l126) (
 St H72 p124 (Nat.add o125 (Nat.mul n128 3)) [v113,v114,v115] fun H129 =>
 AsSlc (a71 0) fun p130 o131 l132 c133 =>
 AsCnt (a71 13) fun n134 =>
 Must (ltN n134 l132) (
 St H129 p130 (Nat.add o131 (Nat.mul n134 3)) [v121,v122,v123] fun H135 =>
 AsInt .i64 (a71 12) fun z136 =>
 InR (Int.add z136 (Int.ofNat 1)) (
 AsInt .i64 (a71 13) fun z137 =>
 InR (Int.sub z137 (Int.ofNat 1)) (
 K .normal (upd (upd (upd (upd (upd (upd (upd (upd (upd (upd (upd (upd (upd (upd (upd (upd (upd (upd (upd (upd (upd (upd (upd a71 142 (a71 12)) 143 (a71 13)) 144 (.bool (ltZ z107 z106))) 145 (a71 0)) 146 (a71 12)) 147 (a71 0)) 148 (a71 13)) 149 (a71 0)) 150 (a71 13)) 151 (ptr p108 (Nat.add o109 (Nat.mul n112 3)))) 152 (.agg ⟨[v113,v114,v115]⟩)) 153 (a71 0)) 154 (a71 12)) 155 (ptr p116 (Nat.add o117 (Nat.mul n120 3)))) 156 (.agg ⟨[v121,v122,v123]⟩)) 157 (ptr p124 (Nat.add o125 (Nat.mul n128 3)))) 158 (ptr p130 (Nat.add o131 (Nat.mul n134 3)))) 159 (a71 12)) 160 (i64 (Int.add z136 (Int.ofNat 1)))) 12 (i64 (Int.add z136 (Int.ofNat 1)))) 161 (a71 13)) 162 (i64 (Int.sub z137 (Int.ofNat 1)))) 13 (i64 (Int.sub z137 (Int.ofNat 1)))) H135)))))))) (
 Cd (eqN i73 5) (
 K .normal a71 H72) (
 K (.exit i73) a71 H72)))
 (fun a71 H72 =>
 K .ret a71 H72))) (
 Cd (eqN i3 5) (
 K .normal a1 H2) (
 K (.exit i3) a1 H2)))
 (fun a1 H2 =>
 K .ret a1 H2))) := by kernel_rfl
theorem partOrdD_W (con : CallT) (a : TF) (H : CH) (K : KX) : codeW (lpAt Try.prog 81 3) Try.prog con a H K =
 (AsInt .i64 (a 12) fun z1 =>
 AsInt .i64 (a 13) fun z2 =>
 Cd (leZ z1 z2) (
 AsSlc (a 0) fun p3 o4 l5 c6 =>
 AsCnt (a 12) fun n7 =>
 Must (ltN n7 l5) (
 Ld H p3 (Nat.add (Nat.add o4 (Nat.mul n7 3)) 0) fun v8 =>
 Ld H p3 (Nat.add (Nat.add o4 (Nat.mul n7 3)) 1) fun v9 =>
 Ld H p3 (Nat.add (Nat.add o4 (Nat.mul n7 3)) 2) fun v10 =>
 AsSlc (a 0) fun p11 o12 l13 c14 =>
 AsCnt (a 1) fun n15 =>
 Must (ltN n15 l13) (
 Ld H p11 (Nat.add (Nat.add o12 (Nat.mul n15 3)) 0) fun v16 =>
 Ld H p11 (Nat.add (Nat.add o12 (Nat.mul n15 3)) 1) fun v17 =>
 Ld H p11 (Nat.add (Nat.add o12 (Nat.mul n15 3)) 2) fun v18 =>
 AsFn (a 4) fun g19 l20 l21 =>
 Must (isFunT Try.prog g19) (
 Call1 Try.prog con g19 (appF l20 ((.agg ⟨[v8,v9,v10]⟩)::(.agg ⟨[v16,v17,v18]⟩)::l21)) H fun v22 H23 =>
 AsInt .i64 v22 fun z24 =>
 Cd (ltZ z24 (Int.ofNat 0)) (
 AsInt .i64 (a 12) fun z25 =>
 InR (Int.add z25 (Int.ofNat 1)) (
 K .normal (upd (upd (upd (upd (upd (upd (upd (upd (upd (upd (upd (upd (upd (upd (upd (upd (upd (upd (upd (upd (upd (upd (upd (upd (upd (upd (upd (upd (upd (upd a 105 (a 12)) 106 (a 13)) 107 (.bool (leZ z1 z2))) 108 (.bool (leZ z1 z2))) 108 (.bool true)) 109 (a 4)) 108 (.bool true)) 110 (a 0)) 108 (.bool true)) 111 (a 12)) 108 (.bool true)) 112 (ptr p3 (Nat.add o4 (Nat.mul n7 3)))) 108 (.bool true)) 113 (.agg ⟨[v8,v9,v10]⟩)) 108 (.bool true)) 114 (a 0)) 108 (.bool true)) 115 (a 1)) 108 (.bool true)) 116 (ptr p11 (Nat.add o12 (Nat.mul n15 3)))) 108 (.bool true)) 117 (.agg ⟨[v16,v17,v18]⟩)) 108 (.bool true)) 118 v22) 108 (.bool true)) 119 (.bool (ltZ z24 (Int.ofNat 0)))) 120 (.bool (ltZ z24 (Int.ofNat 0)))) 121 (a 12)) 122 (i64 (Int.add z25 (Int.ofNat 1)))) 12 (i64 (Int.add z25 (Int.ofNat 1)))) H23)) (
 K (.exit 6) (upd (upd (upd (upd (upd (upd (upd (upd (upd (upd (upd (upd (upd (upd (upd (upd (upd (upd (upd (upd (upd (upd (upd (upd (upd (upd (upd a 105 (a 12)) 106 (a 13)) 107 (.bool (leZ z1 z2))) 108 (.bool (leZ z1 z2))) 108 (.bool true)) 109 (a 4)) 108 (.bool true)) 110 (a 0)) 108 (.bool true)) 111 (a 12)) 108 (.bool true)) 112 (ptr p3 (Nat.add o4 (Nat.mul n7 3)))) 108 (.bool true)) 113 (.agg ⟨[v8,v9,v10]⟩)) 108 (.bool true)) 114 (a 0)) 108 (.bool true)) 115 (a 1)) 108 (.bool true)) 116 (ptr p11 (Nat.add o12 (Nat.mul n15 3)))) 108 (.bool true)) 117 (.agg ⟨[v16,v17,v18]⟩)) 108 (.bool true)) 118 v22) 108 (.bool true)) 119 (.bool (ltZ z24 (Int.ofNat 0)))) 120 (.bool (ltZ z24 (Int.ofNat 0)))) H23))))) (
 K (.exit 6) (upd (upd (upd (upd (upd (upd (upd (upd (upd (upd (upd (upd (upd (upd (upd (upd (upd (upd (upd (upd (upd (upd (upd (upd (upd (upd (upd a 105 (a 12)) 106 (a 13)) 107 (.bool (leZ z1 z2))) 108 (.bool (leZ z1 z2))) 108 (.bool false)) 109 unit) 108 (.bool false)) 110 unit) 108 (.bool false)) 111 unit) 108 (.bool false)) 112 unit) 108 (.bool false)) 113 unit) 108 (.bool false)) 114 unit) 108 (.bool false)) 115 unit) 108 (.bool false)) 116 unit) 108 (.bool false)) 117 unit) 108 (.bool false)) 118 unit) 108 (.bool false)) 119 unit) 120 (.bool false)) H)) := by kernel_rfl
theorem partOrdE_W (con : CallT) (a : TF) (H : CH) (K : KX) : codeW (lpAt Try.prog 81 4) Try.prog con a H K =
 (AsInt .i64 (a 12) fun z1 =>
 AsInt .i64 (a 13) fun z2 =>
 Bnd (upd (upd (upd (upd a 123 (a 12)) 124 (a 13)) 125 (.bool (leZ z1 z2))) 126 (.bool (leZ z1 z2))) fun s1 =>
Cd (leZ z1 z2) (
 AsSlc (a 0) fun p3 o4 l5 c6 =>
 AsCnt (a 13) fun n7 =>
 Must (ltN n7 l5) (
 Ld H p3 (Nat.add (Nat.add o4 (Nat.mul n7 3)) 0) fun v8 =>
 Ld H p3 (Nat.add (Nat.add o4 (Nat.mul n7 3)) 1) fun v9 =>
 Ld H p3 (Nat.add (Nat.add o4 (Nat.mul n7 3)) 2) fun v10 =>
 AsSlc (a 0) fun p11 o12 l13 c14 =>
 AsCnt (a 1) fun n15 =>
 Must (ltN n15 l13) (
 Ld H p11 (Nat.add (Nat.add o12 (Nat.mul n15 3)) 0) fun v16 =>
 Ld H p11 (Nat.add (Nat.add o12 (Nat.mul n15 3)) 1) fun v17 =>
 Ld H p11 (Nat.add (Nat.add o12 (Nat.mul n15 3)) 2) fun v18 =>
 AsFn (a 4) fun g19 l20 l21 =>
 Must (isFunT Try.prog g19) (
 Call1 Try.prog con g19 (appF l20 ((.agg ⟨[v8,v9,v10]⟩)::(.agg ⟨[v16,v17,v18]⟩)::l21)) H fun v22 H23 =>
 AsInt .i64 v22 fun z24 =>
 Bnd (upd (upd (upd (upd (upd (upd (upd (upd (upd (upd (upd (upd (upd (upd (upd (upd (upd (upd (upd (upd (upd (upd (upd (upd (upd s1 126 (.bool true)) 127 (a 4)) 126 (.bool true)) 128 (a 0)) 126 (.bool true)) 129 (a 13)) 126 (.bool true)) 130 (ptr p3 (Nat.add o4 (Nat.mul n7 3)))) 126 (.bool true)) 131 (.agg ⟨[v8,v9,v10]⟩)) 126 (.bool true)) 132 (a 0)) 126 (.bool true)) 133 (a 1)) 126 (.bool true)) 134 (ptr p11 (Nat.add o12 (Nat.mul n15 3)))) 126 (.bool true)) 135 (.agg ⟨[v16,v17,v18]⟩)) 126 (.bool true)) 136 v22) 126 (.bool true)) 137 (.bool (ltZ z24 (Int.ofNat 0)))) 126 (.bool true)) 138 (.bool (notB (ltZ z24 (Int.ofNat 0))))) 139 (.bool (notB (ltZ z24 (Int.ofNat 0))))) fun s2 =>
Cd (notB (ltZ z24 (Int.ofNat 0))) (
 AsInt .i64 (a 13) fun z25 =>
 InR (Int.sub z25 (Int.ofNat 1)) (
 K .normal (upd (upd (upd s2 140 (a 13)) 141 (i64 (Int.sub z25 (Int.ofNat 1)))) 13 (i64 (Int.sub z25 (Int.ofNat 1)))) H23)) (
 K (.exit 8) s2 H23))))) (
 K (.exit 8) (upd (Rz false 126 s1 127 12) 139 (.bool false)) H)) := by kernel_rfl
theorem nextPow_W (con : CallT) (n : Int) (H : CH) (K : KP) : funW Try.prog con 85 [i64 n] H K =
 (Must (cvOk .i64 n) (
 Call1 Try.prog con 65 [(u64 ((wrapN .u64 n)))] H fun v1 H2 =>
 AsCnt v1 fun n3 =>
 K (u64 ((Nat.mod (Nat.mul 1 (Nat.pow 2 (Nat.min n3 64))) 18446744073709551616))) H2)) := by kernel_rfl
theorem xorNext_W (con : CallT) (p : Nat) (H : CH) (K : KP) : funW Try.prog con 86 [ptr p 0] H K =
 (Ld H p 0 fun v1 =>
 Ld H p 0 fun v2 =>
 AsNat .u64 v2 fun n3 =>
 AsNat .u64 v1 fun n4 =>
 CInt .xor .u64 (Int.ofNat n4) (Int.ofNat (Nat.mod (Nat.mul n3 8192) 18446744073709551616)) fun v5 =>
 Sc v5 (St H p 0 [v5] fun H6 =>
 Ld H6 p 0 fun v7 =>
 Ld H6 p 0 fun v8 =>
 AsNat .u64 v8 fun n9 =>
 AsNat .u64 v7 fun n10 =>
 CInt .xor .u64 (Int.ofNat n10) (Int.ofNat (Nat.div n9 128)) fun v11 =>
 Sc v11 (St H6 p 0 [v11] fun H12 =>
 Ld H12 p 0 fun v13 =>
 Ld H12 p 0 fun v14 =>
 AsNat .u64 v14 fun n15 =>
 AsNat .u64 v13 fun n16 =>
 CInt .xor .u64 (Int.ofNat n16) (Int.ofNat (Nat.mod (Nat.mul n15 131072) 18446744073709551616)) fun v17 =>
 Sc v17 (St H12 p 0 [v17] fun H18 =>
 Ld H18 p 0 fun v19 =>
 K v19 H18)))) := by kernel_rfl
theorem medAdj_W (con : CallT) (v : Value) (i : Int) (p : Nat) (H : CH) (K : KP) : funW Try.prog con 87 [v,i64 i,ptr p 0,.func (.func 59) ⟨[]⟩ ⟨[]⟩] H K =
 (InR (Int.sub i (Int.ofNat 1)) (
 InR (Int.add i (Int.ofNat 1)) (
 Call1 Try.prog con 88 [v,(i64 (Int.sub i (Int.ofNat 1))),(i64 i),(i64 (Int.add i (Int.ofNat 1))),(ptr p 0),(.func (.func 59) ⟨[]⟩ ⟨[]⟩)] H fun v1 H2 =>
 K v1 H2))) := by kernel_rfl
theorem median_W (con : CallT) (v : Value) (i j k : Int) (p : Nat) (H : CH) (K : KP) : funW Try.prog con 88 [v,i64 i,i64 j,i64 k,ptr p 0,.func (.func 59) ⟨[]⟩ ⟨[]⟩] H K =
 (Call1 Try.prog con 89 [v,(i64 i),(i64 j),(ptr p 0),(.func (.func 59) ⟨[]⟩ ⟨[]⟩)] H fun v1 H2 =>
 AsTup v1 fun l3 =>
 Nth l3 0 fun v4 =>
 AsTup v1 fun l5 =>
 Nth l5 1 fun v6 =>
 Call1 Try.prog con 89 [v,v6,(i64 k),(ptr p 0),(.func (.func 59) ⟨[]⟩ ⟨[]⟩)] H2 fun v7 H8 =>
 AsTup v7 fun l9 =>
 Nth l9 0 fun v10 =>
 AsTup v7 fun l11 =>
 Nth l11 1 fun v12 =>
 Call1 Try.prog con 89 [v,v4,v10,(ptr p 0),(.func (.func 59) ⟨[]⟩ ⟨[]⟩)] H8 fun v13 H14 =>
 AsTup v13 fun l15 =>
 Nth l15 0 fun v16 =>
 AsTup v13 fun l17 =>
 Nth l17 1 fun v18 =>
 K v18 H14) := by kernel_rfl
theorem order2_W (con : CallT) (v : Value) (i j : Int) (p : Nat) (H : CH) (K : KP) : funW Try.prog con 89 [v,i64 i,i64 j,ptr p 0,.func (.func 59) ⟨[]⟩ ⟨[]⟩] H K =
 (AsSlc v fun p1 o2 l3 c4 =>
 AsCnt (i64 j) fun n5 =>
 Must (ltN n5 l3) (
 Ld H p1 (Nat.add (Nat.add o2 (Nat.mul n5 3)) 0) fun v6 =>
 Ld H p1 (Nat.add (Nat.add o2 (Nat.mul n5 3)) 1) fun v7 =>
 Ld H p1 (Nat.add (Nat.add o2 (Nat.mul n5 3)) 2) fun v8 =>
 AsSlc v fun p9 o10 l11 c12 =>
 AsCnt (i64 i) fun n13 =>
 Must (ltN n13 l11) (
 Ld H p9 (Nat.add (Nat.add o10 (Nat.mul n13 3)) 0) fun v14 =>
 Ld H p9 (Nat.add (Nat.add o10 (Nat.mul n13 3)) 1) fun v15 =>
 Ld H p9 (Nat.add (Nat.add o10 (Nat.mul n13 3)) 2) fun v16 =>
 Call1 Try.prog con 59 [(.agg ⟨[v6,v7,v8]⟩),(.agg ⟨[v14,v15,v16]⟩)] H fun v17 H18 =>
 AsInt .i64 v17 fun z19 =>
 Cd (ltZ z19 (Int.ofNat 0)) (
 Ld H18 p 0 fun v20 =>
 AsInt .i64 v20 fun z21 =>
 InR (Int.add z21 (Int.ofNat 1)) (
 St H18 p 0 [(i64 (Int.add z21 (Int.ofNat 1)))] fun H22 =>
 K (.tuple ⟨[(i64 j),(i64 i)]⟩) H22)) (
 K (.tuple ⟨[(i64 i),(i64 j)]⟩) H18)))) := by kernel_rfl
theorem bitsLen64_W (con : CallT) (n : Nat) (H : CH) (K : KP) : funW Try.prog con 83 [u64 n] H K =
 (Bnd (upd (upd (upd (upd (fun _ => undV) 0 (u64 (n))) 2 (iN (0))) 3 (u64 (n))) 4 (.bool (leN 4294967296 n))) fun s1 =>
Cd (leN 4294967296 n) (
 Bnd (upd (upd (upd (upd (upd (upd s1 5 (u64 (n))) 6 (u64 ((Nat.div n 4294967296)))) 0 (u64 ((Nat.div n 4294967296)))) 2 (iN (32))) 7 (u64 ((Nat.div n 4294967296)))) 8 (.bool (leN 65536 (Nat.div n 4294967296)))) fun s2 =>
Cd (leN 65536 (Nat.div n 4294967296)) (
 InR (Int.add (Int.ofNat 32) (Int.ofNat 16)) (
 Bnd (upd (upd (upd (upd (upd (upd (upd (upd s2 9 (u64 ((Nat.div n 4294967296)))) 10 (u64 ((Nat.div (Nat.div n 4294967296) 65536)))) 0 (u64 ((Nat.div (Nat.div n 4294967296) 65536)))) 11 (iN (32))) 12 (i64 (Int.add (Int.ofNat 32) (Int.ofNat 16)))) 2 (i64 (Int.add (Int.ofNat 32) (Int.ofNat 16)))) 13 (u64 ((Nat.div (Nat.div n 4294967296) 65536)))) 14 (.bool (leN 256 (Nat.div (Nat.div n 4294967296) 65536)))) fun s3 =>
Cd (leN 256 (Nat.div (Nat.div n 4294967296) 65536)) (
 InR (Int.add (Int.add (Int.ofNat 32) (Int.ofNat 16)) (Int.ofNat 8)) (
 OpN Try.prog H (upd (upd (upd (upd (upd (upd (upd (upd (upd s3 15 (u64 ((Nat.div (Nat.div n 4294967296) 65536)))) 16 (u64 ((Nat.div (Nat.div (Nat.div n 4294967296) 65536) 256)))) 0 (u64 ((Nat.div (Nat.div (Nat.div n 4294967296) 65536) 256)))) 17 (i64 (Int.add (Int.ofNat 32) (Int.ofNat 16)))) 18 (i64 (Int.add (Int.add (Int.ofNat 32) (Int.ofNat 16)) (Int.ofNat 8)))) 2 (i64 (Int.add (Int.add (Int.ofNat 32) (Int.ofNat 16)) (Int.ofNat 8)))) 19 (i64 (Int.add (Int.add (Int.ofNat 32) (Int.ofNat 16)) (Int.ofNat 8)))) 20 (u64 ((Nat.div (Nat.div (Nat.div n 4294967296) 65536) 256)))) 21 (u8 ((Nat.mod (Nat.div (Nat.div (Nat.div n 4294967296) 65536) 256) 256)))) (.index 9 (.const (.string ({
 data :=
 (([0,1,2,2,3,3,3,3,4,4,4,4,4,4,4,4,5,5,5,5,5,5,5,5,5,5,5,5,5,5,5,5,6,6,6,6,6,6,
 6,6,6,6,6,6,6,6,6,6,6,6,6,6,6,6,6,6,6,6,6,6,6,6,6,6].append
 [7,7,7,7,7,7,7,7,7,7,7,7,7,7,7,7,7,7,7,7,7,7,7,7,7,7,7,7,7,7,7,7,7,7,7,7,
 7,7,7,7,7,7,7,7,7,7,7,7,7,7,7,7,7,7,7,7,7,7,7,7,7,7,7,7]).append
 ([8,8,8,8,8,8,8,8,8,8,8,8,8,8,8,8,8,8,8,8,8,8,8,8,8,8,8,8,8,8,8,8,8,8,8,8,8,
 8,8,8,8,8,8,8,8,8,8,8,8,8,8,8,8,8,8,8,8,8,8,8,8,8,8,8].append
 [8,8,8,8,8,8,8,8,8,8,8,8,8,8,8,8,8,8,8,8,8,8,8,8,8,8,8,8,8,8,8,8,8,8,8,8,
 8,8,8,8,8,8,8,8,8,8,8,8,8,8,8,8,8,8,8,8,8,8,8,8,8,8,8,8])).toArray }))) (.tmp 21)) fun v1 H2 =>
 AsNat .u8 v1 fun n3 =>
 Must (ltN n3 256) (
 InR (Int.add (Int.add (Int.add (Int.ofNat 32) (Int.ofNat 16)) (Int.ofNat 8)) (Int.ofNat n3)) (
 K (i64 (Int.add (Int.add (Int.add (Int.ofNat 32) (Int.ofNat 16)) (Int.ofNat 8)) (Int.ofNat n3))) H2)))) (
 OpN Try.prog H (upd (upd (upd s3 19 (i64 (Int.add (Int.ofNat 32) (Int.ofNat 16)))) 20 (u64 ((Nat.div (Nat.div n 4294967296) 65536)))) 21 (u8 ((Nat.mod (Nat.div (Nat.div n 4294967296) 65536) 256)))) (.index 9 (.const (.string ({
 data :=
 (([0,1,2,2,3,3,3,3,4,4,4,4,4,4,4,4,5,5,5,5,5,5,5,5,5,5,5,5,5,5,5,5,6,6,6,6,6,6,
 6,6,6,6,6,6,6,6,6,6,6,6,6,6,6,6,6,6,6,6,6,6,6,6,6,6].append
 [7,7,7,7,7,7,7,7,7,7,7,7,7,7,7,7,7,7,7,7,7,7,7,7,7,7,7,7,7,7,7,7,7,7,7,7,
 7,7,7,7,7,7,7,7,7,7,7,7,7,7,7,7,7,7,7,7,7,7,7,7,7,7,7,7]).append
 ([8,8,8,8,8,8,8,8,8,8,8,8,8,8,8,8,8,8,8,8,8,8,8,8,8,8,8,8,8,8,8,8,8,8,8,8,8,
 8,8,8,8,8,8,8,8,8,8,8,8,8,8,8,8,8,8,8,8,8,8,8,8,8,8,8].append
 [8,8,8,8,8,8,8,8,8,8,8,8,8,8,8,8,8,8,8,8,8,8,8,8,8,8,8,8,8,8,8,8,8,8,8,8,
 8,8,8,8,8,8,8,8,8,8,8,8,8,8,8,8,8,8,8,8,8,8,8,8,8,8,8,8])).toArray }))) (.tmp 21)) fun v4 H5 =>
 AsNat .u8 v4 fun n6 =>
 Must (ltN n6 256) (
 InR (Int.add (Int.add (Int.ofNat 32) (Int.ofNat 16)) (Int.ofNat n6)) (
 K (i64 (Int.add (Int.add (Int.ofNat 32) (Int.ofNat 16)) (Int.ofNat n6))) H5))))) (
 Cd (leN 256 (Nat.div n 4294967296)) (
 InR (Int.add (Int.ofNat 32) (Int.ofNat 8)) (
 OpN Try.prog H (upd (upd (upd (upd (upd (upd (upd (upd (upd (upd (upd s2 13 (u64 ((Nat.div n 4294967296)))) 14 (.bool (leN 256 (Nat.div n 4294967296)))) 15 (u64 ((Nat.div n 4294967296)))) 16 (u64 ((Nat.div (Nat.div n 4294967296) 256)))) 0 (u64 ((Nat.div (Nat.div n 4294967296) 256)))) 17 (iN (32))) 18 (i64 (Int.add (Int.ofNat 32) (Int.ofNat 8)))) 2 (i64 (Int.add (Int.ofNat 32) (Int.ofNat 8)))) 19 (i64 (Int.add (Int.ofNat 32) (Int.ofNat 8)))) 20 (u64 ((Nat.div (Nat.div n 4294967296) 256)))) 21 (u8 ((Nat.mod (Nat.div (Nat.div n 4294967296) 256) 256)))) (.index 9 (.const (.string ({
 data :=
 (([0,1,2,2,3,3,3,3,4,4,4,4,4,4,4,4,5,5,5,5,5,5,5,5,5,5,5,5,5,5,5,5,6,6,6,6,6,6,
 6,6,6,6,6,6,6,6,6,6,6,6,6,6,6,6,6,6,6,6,6,6,6,6,6,6].append
 [7,7,7,7,7,7,7,7,7,7,7,7,7,7,7,7,7,7,7,7,7,7,7,7,7,7,7,7,7,7,7,7,7,7,7,7,
 7,7,7,7,7,7,7,7,7,7,7,7,7,7,7,7,7,7,7,7,7,7,7,7,7,7,7,7]).append
 ([8,8,8,8,8,8,8,8,8,8,8,8,8,8,8,8,8,8,8,8,8,8,8,8,8,8,8,8,8,8,8,8,8,8,8,8,8,
 8,8,8,8,8,8,8,8,8,8,8,8,8,8,8,8,8,8,8,8,8,8,8,8,8,8,8].append
 [8,8,8,8,8,8,8,8,8,8,8,8,8,8,8,8,8,8,8,8,8,8,8,8,8,8,8,8,8,8,8,8,8,8,8,8,
 8,8,8,8,8,8,8,8,8,8,8,8,8,8,8,8,8,8,8,8,8,8,8,8,8,8,8,8])).toArray }))) (.tmp 21)) fun v7 H8 =>
 AsNat .u8 v7 fun n9 =>
 Must (ltN n9 256) (
 InR (Int.add (Int.add (Int.ofNat 32) (Int.ofNat 8)) (Int.ofNat n9)) (
 K (i64 (Int.add (Int.add (Int.ofNat 32) (Int.ofNat 8)) (Int.ofNat n9))) H8)))) (
 OpN Try.prog H (upd (upd (upd (upd (upd s2 13 (u64 ((Nat.div n 4294967296)))) 14 (.bool (leN 256 (Nat.div n 4294967296)))) 19 (iN (32))) 20 (u64 ((Nat.div n 4294967296)))) 21 (u8 ((Nat.mod (Nat.div n 4294967296) 256)))) (.index 9 (.const (.string ({
 data :=
 (([0,1,2,2,3,3,3,3,4,4,4,4,4,4,4,4,5,5,5,5,5,5,5,5,5,5,5,5,5,5,5,5,6,6,6,6,6,6,
 6,6,6,6,6,6,6,6,6,6,6,6,6,6,6,6,6,6,6,6,6,6,6,6,6,6].append
 [7,7,7,7,7,7,7,7,7,7,7,7,7,7,7,7,7,7,7,7,7,7,7,7,7,7,7,7,7,7,7,7,7,7,7,7,
 7,7,7,7,7,7,7,7,7,7,7,7,7,7,7,7,7,7,7,7,7,7,7,7,7,7,7,7]).append
 ([8,8,8,8,8,8,8,8,8,8,8,8,8,8,8,8,8,8,8,8,8,8,8,8,8,8,8,8,8,8,8,8,8,8,8,8,8,
 8,8,8,8,8,8,8,8,8,8,8,8,8,8,8,8,8,8,8,8,8,8,8,8,8,8,8].append
 [8,8,8,8,8,8,8,8,8,8,8,8,8,8,8,8,8,8,8,8,8,8,8,8,8,8,8,8,8,8,8,8,8,8,8,8,
 8,8,8,8,8,8,8,8,8,8,8,8,8,8,8,8,8,8,8,8,8,8,8,8,8,8,8,8])).toArray }))) (.tmp 21)) fun v10 H11 =>
 AsNat .u8 v10 fun n12 =>
 Must (ltN n12 256) (
 InR (Int.add (Int.ofNat 32) (Int.ofNat n12)) (
 K (i64 (Int.add (Int.ofNat 32) (Int.ofNat n12))) H11))))) (
 Bnd (upd (upd s1 7 (u64 (n))) 8 (.bool (leN 65536 n))) fun s4 =>
Cd (leN 65536 n) (
 InR (Int.add (Int.ofNat 0) (Int.ofNat 16)) (
 Bnd (upd (upd (upd (upd (upd (upd (upd (upd s4 9 (u64 (n))) 10 (u64 ((Nat.div n 65536)))) 0 (u64 ((Nat.div n 65536)))) 11 (iN (0))) 12 (i64 (Int.add (Int.ofNat 0) (Int.ofNat 16)))) 2 (i64 (Int.add (Int.ofNat 0) (Int.ofNat 16)))) 13 (u64 ((Nat.div n 65536)))) 14 (.bool (leN 256 (Nat.div n 65536)))) fun s5 =>
Cd (leN 256 (Nat.div n 65536)) (
 InR (Int.add (Int.add (Int.ofNat 0) (Int.ofNat 16)) (Int.ofNat 8)) (
 OpN Try.prog H (upd (upd (upd (upd (upd (upd (upd (upd (upd s5 15 (u64 ((Nat.div n 65536)))) 16 (u64 ((Nat.div (Nat.div n 65536) 256)))) 0 (u64 ((Nat.div (Nat.div n 65536) 256)))) 17 (i64 (Int.add (Int.ofNat 0) (Int.ofNat 16)))) 18 (i64 (Int.add (Int.add (Int.ofNat 0) (Int.ofNat 16)) (Int.ofNat 8)))) 2 (i64 (Int.add (Int.add (Int.ofNat 0) (Int.ofNat 16)) (Int.ofNat 8)))) 19 (i64 (Int.add (Int.add (Int.ofNat 0) (Int.ofNat 16)) (Int.ofNat 8)))) 20 (u64 ((Nat.div (Nat.div n 65536) 256)))) 21 (u8 ((Nat.mod (Nat.div (Nat.div n 65536) 256) 256)))) (.index 9 (.const (.string ({
 data :=
 (([0,1,2,2,3,3,3,3,4,4,4,4,4,4,4,4,5,5,5,5,5,5,5,5,5,5,5,5,5,5,5,5,6,6,6,6,6,6,
 6,6,6,6,6,6,6,6,6,6,6,6,6,6,6,6,6,6,6,6,6,6,6,6,6,6].append
 [7,7,7,7,7,7,7,7,7,7,7,7,7,7,7,7,7,7,7,7,7,7,7,7,7,7,7,7,7,7,7,7,7,7,7,7,
 7,7,7,7,7,7,7,7,7,7,7,7,7,7,7,7,7,7,7,7,7,7,7,7,7,7,7,7]).append
 ([8,8,8,8,8,8,8,8,8,8,8,8,8,8,8,8,8,8,8,8,8,8,8,8,8,8,8,8,8,8,8,8,8,8,8,8,8,
 8,8,8,8,8,8,8,8,8,8,8,8,8,8,8,8,8,8,8,8,8,8,8,8,8,8,8].append
 [8,8,8,8,8,8,8,8,8,8,8,8,8,8,8,8,8,8,8,8,8,8,8,8,8,8,8,8,8,8,8,8,8,8,8,8,
 8,8,8,8,8,8,8,8,8,8,8,8,8,8,8,8,8,8,8,8,8,8,8,8,8,8,8,8])).toArray }))) (.tmp 21)) fun v13 H14 =>
 AsNat .u8 v13 fun n15 =>
 Must (ltN n15 256) (
 InR (Int.add (Int.add (Int.add (Int.ofNat 0) (Int.ofNat 16)) (Int.ofNat 8)) (Int.ofNat n15)) (
 K (i64 (Int.add (Int.add (Int.add (Int.ofNat 0) (Int.ofNat 16)) (Int.ofNat 8)) (Int.ofNat n15))) H14)))) (
 OpN Try.prog H (upd (upd (upd s5 19 (i64 (Int.add (Int.ofNat 0) (Int.ofNat 16)))) 20 (u64 ((Nat.div n 65536)))) 21 (u8 ((Nat.mod (Nat.div n 65536) 256)))) (.index 9 (.const (.string ({
 data :=
 (([0,1,2,2,3,3,3,3,4,4,4,4,4,4,4,4,5,5,5,5,5,5,5,5,5,5,5,5,5,5,5,5,6,6,6,6,6,6,
 6,6,6,6,6,6,6,6,6,6,6,6,6,6,6,6,6,6,6,6,6,6,6,6,6,6].append
 [7,7,7,7,7,7,7,7,7,7,7,7,7,7,7,7,7,7,7,7,7,7,7,7,7,7,7,7,7,7,7,7,7,7,7,7,
 7,7,7,7,7,7,7,7,7,7,7,7,7,7,7,7,7,7,7,7,7,7,7,7,7,7,7,7]).append
 ([8,8,8,8,8,8,8,8,8,8,8,8,8,8,8,8,8,8,8,8,8,8,8,8,8,8,8,8,8,8,8,8,8,8,8,8,8,
 8,8,8,8,8,8,8,8,8,8,8,8,8,8,8,8,8,8,8,8,8,8,8,8,8,8,8].append
 [8,8,8,8,8,8,8,8,8,8,8,8,8,8,8,8,8,8,8,8,8,8,8,8,8,8,8,8,8,8,8,8,8,8,8,8,
 8,8,8,8,8,8,8,8,8,8,8,8,8,8,8,8,8,8,8,8,8,8,8,8,8,8,8,8])).toArray }))) (.tmp 21)) fun v16 H17 =>
 AsNat .u8 v16 fun n18 =>
 Must (ltN n18 256) (
 InR (Int.add (Int.add (Int.ofNat 0) (Int.ofNat 16)) (Int.ofNat n18)) (
 K (i64 (Int.add (Int.add (Int.ofNat 0) (Int.ofNat 16)) (Int.ofNat n18))) H17))))) (
 Cd (leN 256 n) (
 InR (Int.add (Int.ofNat 0) (Int.ofNat 8)) (
 OpN Try.prog H (upd (upd (upd (upd (upd (upd (upd (upd (upd (upd (upd s4 13 (u64 (n))) 14 (.bool (leN 256 n))) 15 (u64 (n))) 16 (u64 ((Nat.div n 256)))) 0 (u64 ((Nat.div n 256)))) 17 (iN (0))) 18 (i64 (Int.add (Int.ofNat 0) (Int.ofNat 8)))) 2 (i64 (Int.add (Int.ofNat 0) (Int.ofNat 8)))) 19 (i64 (Int.add (Int.ofNat 0) (Int.ofNat 8)))) 20 (u64 ((Nat.div n 256)))) 21 (u8 ((Nat.mod (Nat.div n 256) 256)))) (.index 9 (.const (.string ({
 data :=
 (([0,1,2,2,3,3,3,3,4,4,4,4,4,4,4,4,5,5,5,5,5,5,5,5,5,5,5,5,5,5,5,5,6,6,6,6,6,6,
 6,6,6,6,6,6,6,6,6,6,6,6,6,6,6,6,6,6,6,6,6,6,6,6,6,6].append
 [7,7,7,7,7,7,7,7,7,7,7,7,7,7,7,7,7,7,7,7,7,7,7,7,7,7,7,7,7,7,7,7,7,7,7,7,
 7,7,7,7,7,7,7,7,7,7,7,7,7,7,7,7,7,7,7,7,7,7,7,7,7,7,7,7]).append
 ([8,8,8,8,8,8,8,8,8,8,8,8,8,8,8,8,8,8,8,8,8,8,8,8,8,8,8,8,8,8,8,8,8,8,8,8,8,
 8,8,8,8,8,8,8,8,8,8,8,8,8,8,8,8,8,8,8,8,8,8,8,8,8,8,8].append
 [8,8,8,8,8,8,8,8,8,8,8,8,8,8,8,8,8,8,8,8,8,8,8,8,8,8,8,8,8,8,8,8,8,8,8,8,
 8,8,8,8,8,8,8,8,8,8,8,8,8,8,8,8,8,8,8,8,8,8,8,8,8,8,8,8])).toArray }))) (.tmp 21)) fun v19 H20 =>
 AsNat .u8 v19 fun n21 =>
 Must (ltN n21 256) (
 InR (Int.add (Int.add (Int.ofNat 0) (Int.ofNat 8)) (Int.ofNat n21)) (
 K (i64 (Int.add (Int.add (Int.ofNat 0) (Int.ofNat 8)) (Int.ofNat n21))) H20)))) (
 OpN Try.prog H (upd (upd (upd (upd (upd s4 13 (u64 (n))) 14 (.bool (leN 256 n))) 19 (iN (0))) 20 (u64 (n))) 21 (u8 ((Nat.mod n 256)))) (.index 9 (.const (.string ({
 data :=
 (([0,1,2,2,3,3,3,3,4,4,4,4,4,4,4,4,5,5,5,5,5,5,5,5,5,5,5,5,5,5,5,5,6,6,6,6,6,6,
 6,6,6,6,6,6,6,6,6,6,6,6,6,6,6,6,6,6,6,6,6,6,6,6,6,6].append
 [7,7,7,7,7,7,7,7,7,7,7,7,7,7,7,7,7,7,7,7,7,7,7,7,7,7,7,7,7,7,7,7,7,7,7,7,
 7,7,7,7,7,7,7,7,7,7,7,7,7,7,7,7,7,7,7,7,7,7,7,7,7,7,7,7]).append
 ([8,8,8,8,8,8,8,8,8,8,8,8,8,8,8,8,8,8,8,8,8,8,8,8,8,8,8,8,8,8,8,8,8,8,8,8,8,
 8,8,8,8,8,8,8,8,8,8,8,8,8,8,8,8,8,8,8,8,8,8,8,8,8,8,8].append
 [8,8,8,8,8,8,8,8,8,8,8,8,8,8,8,8,8,8,8,8,8,8,8,8,8,8,8,8,8,8,8,8,8,8,8,8,
 8,8,8,8,8,8,8,8,8,8,8,8,8,8,8,8,8,8,8,8,8,8,8,8,8,8,8,8])).toArray }))) (.tmp 21)) fun v22 H23 =>
 AsNat .u8 v22 fun n24 =>
 Must (ltN n24 256) (
 InR (Int.add (Int.ofNat 0) (Int.ofNat n24)) (
 K (i64 (Int.add (Int.ofNat 0) (Int.ofNat n24))) H23)))))) := by kernel_rfl
end Go.Proofs.Ytoogdnemkfbgdaa

/- What some functions' texts ask for,step by step,each checked by the kernel. No conditions. -/
set_option linter.unusedVariables false
set_option maxRecDepth 100000
namespace Go.Proofs.Ytoogdnemkfbgdaa
open Go Go.CM
theorem l29placed_W (con : CallT) (v : Value) (H : CH) (K : KP) : funW Try.prog con 7 [v] H K =
 (LoopC Try.prog con (lpAt Try.prog 7 0) (upd (upd (upd (upd (fun _ => undV) 0 v) 2 (snil)) 3 (snil)) 4 (iN (0))) H (fun e => ceP e
 (fun a1 H2 =>
 K (a1 3) H2)
 (fun i3 => fun a1 H2 =>
 Cd (eqN i3 0) (
 K (a1 3) H2) (
 False))
 (fun a1 H2 =>
 K (a1 2) H2))) := by kernel_rfl
theorem l29placedA_W (con : CallT) (a : TF) (H : CH) (K : KX) : codeW (lpAt Try.prog 7 0) Try.prog con a H K =
 (AsLen (a 0) fun l1 =>
 AsInt .i64 (a 4) fun z2 =>
 Cd (ltZ z2 (Int.ofNat l1)) (
 LoopC Try.prog con (lpAt Try.prog 7 1) (upd (upd (upd (upd (upd (upd a 11 (a 4)) 12 (a 0)) 13 (iN (l1))) 14 (.bool (ltZ z2 (Int.ofNat l1)))) 5 (snil)) 6 (iN (0))) H (fun e => ceP e
 (fun a3 H4 =>
 Sc (a3 5) (Nw H4 (mkRow 37 0 [(a3 5)]) fun p6 H7 =>
 App Try.prog 24 24 H7 (a3 3) (.slice (some ⟨p6,0,none⟩) 1 1) fun v8 H9 =>
 AsInt .i64 (a3 4) fun z10 =>
 InR (Int.add z10 (Int.ofNat 1)) (
 K .normal (upd (upd (upd (upd (upd (upd (upd (upd a3 65 (a3 3)) 66 (a3 5)) 67 (.slice (some ⟨p6,0,none⟩) 1 1)) 68 v8) 3 v8) 15 (a3 4)) 16 (i64 (Int.add z10 (Int.ofNat 1)))) 4 (i64 (Int.add z10 (Int.ofNat 1)))) H9)))
 (fun i5 => fun a3 H4 =>
 Cd (eqN i5 2) (
 Sc (a3 5) (Nw H4 (mkRow 37 0 [(a3 5)]) fun p11 H12 =>
 App Try.prog 24 24 H12 (a3 3) (.slice (some ⟨p11,0,none⟩) 1 1) fun v13 H14 =>
 AsInt .i64 (a3 4) fun z15 =>
 InR (Int.add z15 (Int.ofNat 1)) (
 K .normal (upd (upd (upd (upd (upd (upd (upd (upd a3 65 (a3 3)) 66 (a3 5)) 67 (.slice (some ⟨p11,0,none⟩) 1 1)) 68 v13) 3 v13) 15 (a3 4)) 16 (i64 (Int.add z15 (Int.ofNat 1)))) 4 (i64 (Int.add z15 (Int.ofNat 1)))) H14))) (
 Cd (eqN i5 1) (
 AsInt .i64 (a3 4) fun z16 =>
 InR (Int.add z16 (Int.ofNat 1)) (
 K .normal (upd (upd (upd a3 15 (a3 4)) 16 (i64 (Int.add z16 (Int.ofNat 1)))) 4 (i64 (Int.add z16 (Int.ofNat 1)))) H4)) (
 K (.exit i5) a3 H4)))
 (fun a3 H4 =>
 K .ret a3 H4))) (
 K (.exit 0) (upd (upd (upd (upd a 11 (a 4)) 12 (a 0)) 13 (iN (l1))) 14 (.bool (ltZ z2 (Int.ofNat l1)))) H)) := by kernel_rfl
theorem l29placedB_W (con : CallT) (a : TF) (H : CH) (K : KX) : codeW (lpAt Try.prog 7 1) Try.prog con a H K =
 (AsSlc (a 0) fun p1 o2 l3 c4 =>
 AsCnt (a 4) fun n5 =>
 Must (ltN n5 l3) (
 Ld H p1 (Nat.add o2 (Nat.mul n5 1)) fun v6 =>
 AsLen v6 fun l7 =>
 AsInt .i64 (a 6) fun z8 =>
 Cd (ltZ z8 (Int.ofNat l7)) (
 AsSlc (a 0) fun p9 o10 l11 c12 =>
 AsCnt (a 4) fun n13 =>
 Must (ltN n13 l11) (
 Ld H p9 (Nat.add o10 (Nat.mul n13 1)) fun v14 =>
 AsSlc v14 fun p15 o16 l17 c18 =>
 AsCnt (a 6) fun n19 =>
 Must (ltN n19 l17) (
 Ld H p15 (Nat.add (Nat.add o16 (Nat.mul n19 3)) 0) fun v20 =>
 Ld H p15 (Nat.add (Nat.add o16 (Nat.mul n19 3)) 1) fun v21 =>
 Ld H p15 (Nat.add (Nat.add o16 (Nat.mul n19 3)) 2) fun v22 =>
 Nw H (mkRow 40 0 [(.bool false),(u64 (0)),(snil)]) fun p23 H24 =>
 St H24 p23 0 [v20,v21,v22] fun H25 =>
 Ld H25 p23 1 fun v26 =>
 AsNat .u64 v26 fun n27 =>
 St H25 p23 1 [(u64 ((Nat.mod (Nat.add (Nat.mod n27 5) 1) 18446744073709551616)))] fun H28 =>
 LoopC Try.prog con (lpAt Try.prog 7 2) (upd (upd (upd (upd (upd (upd (upd (upd (upd (upd (upd (upd (upd (upd (upd (upd (upd (upd (upd (upd (upd (upd a 17 (a 6)) 18 (a 0)) 19 (a 4)) 20 (ptr p1 (Nat.add o2 (Nat.mul n5 1)))) 21 v6) 22 (iN (l7))) 23 (.bool (ltZ z8 (Int.ofNat l7)))) 26 (a 0)) 27 (a 4)) 28 (ptr p9 (Nat.add o10 (Nat.mul n13 1)))) 29 v14) 30 (a 6)) 31 (ptr p15 (Nat.add o16 (Nat.mul n19 3)))) 32 (.agg ⟨[v20,v21,v22]⟩)) 7 (ptr p23 0)) 33 (ptr p23 1)) 34 v26) 35 (u64 ((Nat.mod n27 5)))) 36 (u64 ((Nat.mod (Nat.add (Nat.mod n27 5) 1) 18446744073709551616)))) 37 (ptr p23 1)) 8 (snil)) 9 (iN (0))) H28 (fun e => ceP e
 (fun a29 H30 =>
 AsPtr (a29 7) fun p32 o33 =>
 Sc (a29 8) (St H30 p32 (Nat.add o33 2) [(a29 8)] fun H34 =>
 AsPtr (a29 7) fun p35 o36 =>
 Ld H34 p35 (Nat.add o36 0) fun v37 =>
 Ld H34 p35 (Nat.add o36 1) fun v38 =>
 Ld H34 p35 (Nat.add o36 2) fun v39 =>
 Nw H34 (mkRow 40 0 [v37,v38,v39]) fun p40 H41 =>
 App Try.prog 37 37 H41 (a29 5) (.slice (some ⟨p40,0,none⟩) 1 1) fun v42 H43 =>
 AsInt .i64 (a29 6) fun z44 =>
 InR (Int.add z44 (Int.ofNat 1)) (
 K .normal (upd (upd (upd (upd (upd (upd (upd (upd (upd (upd a29 59 (a29 8)) 60 (ptr p32 (Nat.add o33 2))) 61 (a29 5)) 62 (.agg ⟨[v37,v38,v39]⟩)) 63 (.slice (some ⟨p40,0,none⟩) 1 1)) 64 v42) 5 v42) 24 (a29 6)) 25 (i64 (Int.add z44 (Int.ofNat 1)))) 6 (i64 (Int.add z44 (Int.ofNat 1)))) H43)))
 (fun i31 => fun a29 H30 =>
 Cd (eqN i31 4) (
 AsPtr (a29 7) fun p45 o46 =>
 Sc (a29 8) (St H30 p45 (Nat.add o46 2) [(a29 8)] fun H47 =>
 AsPtr (a29 7) fun p48 o49 =>
 Ld H47 p48 (Nat.add o49 0) fun v50 =>
 Ld H47 p48 (Nat.add o49 1) fun v51 =>
 Ld H47 p48 (Nat.add o49 2) fun v52 =>
 Nw H47 (mkRow 40 0 [v50,v51,v52]) fun p53 H54 =>
 App Try.prog 37 37 H54 (a29 5) (.slice (some ⟨p53,0,none⟩) 1 1) fun v55 H56 =>
 AsInt .i64 (a29 6) fun z57 =>
 InR (Int.add z57 (Int.ofNat 1)) (
 K .normal (upd (upd (upd (upd (upd (upd (upd (upd (upd (upd a29 59 (a29 8)) 60 (ptr p45 (Nat.add o46 2))) 61 (a29 5)) 62 (.agg ⟨[v50,v51,v52]⟩)) 63 (.slice (some ⟨p53,0,none⟩) 1 1)) 64 v55) 5 v55) 24 (a29 6)) 25 (i64 (Int.add z57 (Int.ofNat 1)))) 6 (i64 (Int.add z57 (Int.ofNat 1)))) H56))) (
 Cd (eqN i31 3) (
 AsInt .i64 (a29 6) fun z58 =>
 InR (Int.add z58 (Int.ofNat 1)) (
 K .normal (upd (upd (upd a29 24 (a29 6)) 25 (i64 (Int.add z58 (Int.ofNat 1)))) 6 (i64 (Int.add z58 (Int.ofNat 1)))) H30)) (
 K (.exit i31) a29 H30)))
 (fun a29 H30 =>
 K .ret a29 H30))))) (
 K (.exit 2) (upd (upd (upd (upd (upd (upd (upd a 17 (a 6)) 18 (a 0)) 19 (a 4)) 20 (ptr p1 (Nat.add o2 (Nat.mul n5 1)))) 21 v6) 22 (iN (l7))) 23 (.bool (ltZ z8 (Int.ofNat l7)))) H))) := by kernel_rfl
theorem l29placedC_W (con : CallT) (a : TF) (H : CH) (K : KX) : codeW (lpAt Try.prog 7 2) Try.prog con a H K =
 (AsPtr (a 7) fun p1 o2 =>
 Ld H p1 (Nat.add o2 2) fun v3 =>
 AsLen v3 fun l4 =>
 AsInt .i64 (a 9) fun z5 =>
 Cd (ltZ z5 (Int.ofNat l4)) (
 AsPtr (a 7) fun p6 o7 =>
 Ld H p6 (Nat.add o7 2) fun v8 =>
 AsSlc v8 fun p9 o10 l11 c12 =>
 AsCnt (a 9) fun n13 =>
 Must (ltN n13 l11) (
 Ld H p9 (Nat.add (Nat.add o10 (Nat.mul n13 3)) 0) fun v14 =>
 Ld H p9 (Nat.add (Nat.add o10 (Nat.mul n13 3)) 1) fun v15 =>
 Ld H p9 (Nat.add (Nat.add o10 (Nat.mul n13 3)) 2) fun v16 =>
 Nw H (mkRow 75 0 [(u64 (0)),(u64 (0)),(u64 (0))]) fun p17 H18 =>
 St H18 p17 0 [v14,v15,v16] fun H19 =>
 Ld H19 p17 0 fun v20 =>
 AsNat .u64 v20 fun n21 =>
 St H19 p17 0 [(u64 ((Nat.mod (Nat.add (Nat.mod n21 5) 1) 18446744073709551616)))] fun H22 =>
 Ld H22 p17 0 fun v23 =>
 Ld H22 p17 1 fun v24 =>
 Ld H22 p17 2 fun v25 =>
 Nw H22 (mkRow 75 0 [v23,v24,v25]) fun p26 H27 =>
 App Try.prog 38 38 H27 (a 8) (.slice (some ⟨p26,0,none⟩) 1 1) fun v28 H29 =>
 AsInt .i64 (a 9) fun z30 =>
 InR (Int.add z30 (Int.ofNat 1)) (
 K .normal (upd (upd (upd (upd (upd (upd (upd (upd (upd (upd (upd (upd (upd (upd (upd (upd (upd (upd (upd (upd (upd (upd (upd (upd a 38 (a 9)) 39 (ptr p1 (Nat.add o2 2))) 40 v3) 41 (iN (l4))) 42 (.bool (ltZ z5 (Int.ofNat l4)))) 45 (ptr p6 (Nat.add o7 2))) 46 v8) 47 (a 9)) 48 (ptr p9 (Nat.add o10 (Nat.mul n13 3)))) 49 (.agg ⟨[v14,v15,v16]⟩)) 10 (ptr p17 0)) 50 (ptr p17 0)) 51 v20) 52 (u64 ((Nat.mod n21 5)))) 53 (u64 ((Nat.mod (Nat.add (Nat.mod n21 5) 1) 18446744073709551616)))) 54 (ptr p17 0)) 55 (a 8)) 56 (.agg ⟨[v23,v24,v25]⟩)) 57 (.slice (some ⟨p26,0,none⟩) 1 1)) 58 v28) 8 v28) 43 (a 9)) 44 (i64 (Int.add z30 (Int.ofNat 1)))) 9 (i64 (Int.add z30 (Int.ofNat 1)))) H29))) (
 K (.exit 4) (upd (upd (upd (upd (upd a 38 (a 9)) 39 (ptr p1 (Nat.add o2 2))) 40 v3) 41 (iN (l4))) 42 (.bool (ltZ z5 (Int.ofNat l4)))) H)) := by kernel_rfl
theorem l29memory_W (con : CallT) (c : Int) (f0 f1 f2 f3 f4 : Nat) (H : CH) (K : KP) : funW Try.prog con 4 [i64 c,.agg ⟨[u64 f0,u64 f1,u64 f2,u64 f3,u64 f4]⟩] H K =
 (Nw H (mkRow 23 0 [(u64 (f0)),(u64 (f1)),(u64 (f2)),(u64 (f3)),(u64 (f4))]) fun p1 H2 =>
 Call1 Try.prog con 15 [(i64 c),(.bool false)] H2 fun v3 H4 =>
 AsTup v3 fun l5 =>
 Nth l5 0 fun v6 =>
 AsTup v3 fun l7 =>
 Nth l7 1 fun v8 =>
 AsInt .i64 v8 fun z9 =>
 Cd (notB (eqZ z9 (Int.ofNat 0))) (
 K (.tuple ⟨[(.pointer none),(.pointer none),(.bool false)]⟩) H4) (
 Call1 Try.prog con 16 [(i64 c),(.bool false)] H4 fun v10 H11 =>
 AsTup v10 fun l12 =>
 Nth l12 0 fun v13 =>
 AsTup v10 fun l14 =>
 Nth l14 1 fun v15 =>
 LoopC Try.prog con (lpAt Try.prog 4 0) (upd (upd (upd (upd (upd (upd (upd (upd (upd (upd (upd (upd (upd (upd (upd (upd (upd (upd (upd (upd (upd (upd (upd (upd (fun _ => undV) 1 (.agg ⟨[(u64 (f0)),(u64 (f1)),(u64 (f2)),(u64 (f3)),(u64 (f4))]⟩)) 0 (i64 c)) 3 (ptr p1 0)) 4 (.pointer none)) 5 (.pointer none)) 6 (.bool false)) 17 (i64 c)) 18 v3) 16 v3) 19 v6) 20 v8) 7 v6) 8 v8) 21 v8) 22 (.bool (notB (eqZ z9 (Int.ofNat 0))))) 24 (i64 c)) 25 v10) 23 v10) 26 v13) 27 v15) 9 v13) 10 v15) 11 (snil)) 12 (iN (0))) H11 (fun e => ceP e
 (fun a16 H17 =>
 Call1 Try.prog con 6 [(a16 7),(i64 (Int.negSucc 0))] H17 fun v19 H20 =>
 Call1 Try.prog con 17 [v19,(a16 11)] H20 fun v21 H22 =>
 AsTup v21 fun l23 =>
 Nth l23 0 fun v24 =>
 AsTup v21 fun l25 =>
 Nth l25 1 fun v26 =>
 Call1 Try.prog con 18 [(a16 9),(i64 (Int.negSucc 0)),(a16 11)] H22 fun v27 H28 =>
 AsTup v27 fun l29 =>
 Nth l29 0 fun v30 =>
 AsTup v27 fun l31 =>
 Nth l31 1 fun v32 =>
 AsNat .u64 v24 fun n33 =>
 Cd (eqN n33 1) (
 AsNat .u64 v30 fun n34 =>
 Cd (eqN n34 1) (
 AsInt .i64 v26 fun z35 =>
 Cd (eqZ z35 (Int.ofNat 0)) (
 AsInt .i64 v32 fun z36 =>
 K (.tuple ⟨[(a16 7),(a16 9),(.bool (eqZ z36 (Int.ofNat 0)))]⟩) H28) (
 K (.tuple ⟨[(a16 7),(a16 9),(.bool false)]⟩) H28)) (
 K (.tuple ⟨[(a16 7),(a16 9),(.bool false)]⟩) H28)) (
 K (.tuple ⟨[(a16 7),(a16 9),(.bool false)]⟩) H28))
 (fun i18 => fun a16 H17 =>
 Cd (eqN i18 0) (
 Call1 Try.prog con 6 [(a16 7),(i64 (Int.negSucc 0))] H17 fun v37 H38 =>
 Call1 Try.prog con 17 [v37,(a16 11)] H38 fun v39 H40 =>
 AsTup v39 fun l41 =>
 Nth l41 0 fun v42 =>
 AsTup v39 fun l43 =>
 Nth l43 1 fun v44 =>
 Call1 Try.prog con 18 [(a16 9),(i64 (Int.negSucc 0)),(a16 11)] H40 fun v45 H46 =>
 AsTup v45 fun l47 =>
 Nth l47 0 fun v48 =>
 AsTup v45 fun l49 =>
 Nth l49 1 fun v50 =>
 AsNat .u64 v42 fun n51 =>
 Cd (eqN n51 1) (
 AsNat .u64 v48 fun n52 =>
 Cd (eqN n52 1) (
 AsInt .i64 v44 fun z53 =>
 Cd (eqZ z53 (Int.ofNat 0)) (
 AsInt .i64 v50 fun z54 =>
 K (.tuple ⟨[(a16 7),(a16 9),(.bool (eqZ z54 (Int.ofNat 0)))]⟩) H46) (
 K (.tuple ⟨[(a16 7),(a16 9),(.bool false)]⟩) H46)) (
 K (.tuple ⟨[(a16 7),(a16 9),(.bool false)]⟩) H46)) (
 K (.tuple ⟨[(a16 7),(a16 9),(.bool false)]⟩) H46)) (
 False))
 (fun a16 H17 =>
 K (.tuple ⟨[(a16 4),(a16 5),(a16 6)]⟩) H17)))) := by kernel_rfl
theorem l29memoryL_W (con : CallT) (a : TF) (H : CH) (K : KX) : codeW (lpAt Try.prog 4 0) Try.prog con a H K =
 (AsInt .i64 (a 12) fun z1 =>
 Cd (ltZ z1 (Int.ofNat 5)) (
 AsPtr (a 3) fun p2 o3 =>
 AsCnt (a 12) fun n4 =>
 Must (ltN n4 5) (
 Ld H p2 (Nat.add o3 (Nat.mul n4 1)) fun v5 =>
 AsNat .u64 v5 fun n6 =>
 Nw H (mkRow 22 0 [(u64 ((Nat.mod n6 4611686018427387904)))]) fun p7 H8 =>
 App Try.prog 57 57 H8 (a 11) (.slice (some ⟨p7,0,none⟩) 1 1) fun v9 H10 =>
 AsInt .i64 (a 12) fun z11 =>
 InR (Int.add z11 (Int.ofNat 1)) (
 K .normal (upd (upd (upd (upd (upd (upd (upd (upd (upd (upd (upd (upd (upd a 28 (a 12)) 29 (.bool (ltZ z1 (Int.ofNat 5)))) 32 (a 11)) 33 (a 12)) 34 (ptr p2 (Nat.add o3 (Nat.mul n4 1)))) 35 v5) 36 (u64 ((Nat.mod n6 4611686018427387904)))) 37 (.slice (some ⟨p7,0,none⟩) 1 1)) 38 v9) 11 v9) 30 (a 12)) 31 (i64 (Int.add z11 (Int.ofNat 1)))) 12 (i64 (Int.add z11 (Int.ofNat 1)))) H10))) (
 K (.exit 0) (upd (upd a 28 (a 12)) 29 (.bool (ltZ z1 (Int.ofNat 5)))) H)) := by kernel_rfl
end Go.Proofs.Ytoogdnemkfbgdaa

/- What some functions' texts ask for,step by step,each checked by the kernel. No conditions. -/
set_option linter.unusedVariables false
set_option maxRecDepth 100000
namespace Go.Proofs.Ytoogdnemkfbgdaa
open Go Go.CM
theorem cloneEnt_W (con : CallT) (v : Value) (H : CH) (K : KP) : funW Try.prog con 29 [v] H K =
 (IsNil .slc v fun b1 =>
 Cd b1 (
 K (snil) H) (
 Nw H (mkRow 70 0 []) fun p2 H3 =>
 App Try.prog 71 71 H3 (.slice (some ⟨p2,0,none⟩) 0 0) v fun v4 H5 =>
 K v4 H5)) := by kernel_rfl
theorem l29entries_W (con : CallT) (v : Value) (H : CH) (K : KP) : funW Try.prog con 22 [v] H K =
 (LoopC Try.prog con (lpAt Try.prog 22 0) (upd (upd (upd (upd (fun _ => undV) 0 v) 2 (snil)) 3 (snil)) 4 (iN (0))) H (fun e => ceP e
 (fun a1 H2 =>
 K (a1 3) H2)
 (fun i3 => fun a1 H2 =>
 Cd (eqN i3 0) (
 K (a1 3) H2) (
 False))
 (fun a1 H2 =>
 K (a1 2) H2))) := by kernel_rfl
theorem l29entriesL_W (con : CallT) (a : TF) (H : CH) (K : KX) : codeW (lpAt Try.prog 22 0) Try.prog con a H K =
 (AsLen (a 0) fun l1 =>
 AsInt .i64 (a 4) fun z2 =>
 Cd (ltZ z2 (Int.ofNat l1)) (
 AsSlc (a 0) fun p3 o4 l5 c6 =>
 AsCnt (a 4) fun n7 =>
 Must (ltN n7 l5) (
 Ld H p3 (Nat.add (Nat.add o4 (Nat.mul n7 3)) 0) fun v8 =>
 AsSlc (a 0) fun p9 o10 l11 c12 =>
 AsCnt (a 4) fun n13 =>
 Must (ltN n13 l11) (
 Ld H p9 (Nat.add (Nat.add o10 (Nat.mul n13 3)) 1) fun v14 =>
 AsSlc (a 0) fun p15 o16 l17 c18 =>
 AsCnt (a 4) fun n19 =>
 Must (ltN n19 l17) (
 Ld H p15 (Nat.add (Nat.add o16 (Nat.mul n19 3)) 2) fun v20 =>
 Sc v8 (Sc v14 (Sc v20 (Nw H (mkRow 70 0 [v8,v14,v20]) fun p21 H22 =>
 App Try.prog 71 71 H22 (a 3) (.slice (some ⟨p21,0,none⟩) 1 1) fun v23 H24 =>
 AsInt .i64 (a 4) fun z25 =>
 InR (Int.add z25 (Int.ofNat 1)) (
 K .normal (upd (upd (upd (upd (upd (upd (upd (upd (upd (upd (upd (upd (upd (upd (upd (upd (upd (upd (upd (upd (upd (upd (upd (upd (upd (upd (upd a 5 (a 4)) 6 (a 0)) 7 (iN (l1))) 8 (.bool (ltZ z2 (Int.ofNat l1)))) 11 (a 3)) 12 (a 0)) 13 (a 4)) 14 (ptr p3 (Nat.add o4 (Nat.mul n7 3)))) 15 (ptr p3 (Nat.add (Nat.add o4 (Nat.mul n7 3)) 0))) 16 v8) 17 (a 0)) 18 (a 4)) 19 (ptr p9 (Nat.add o10 (Nat.mul n13 3)))) 20 (ptr p9 (Nat.add (Nat.add o10 (Nat.mul n13 3)) 1))) 21 v14) 22 (a 0)) 23 (a 4)) 24 (ptr p15 (Nat.add o16 (Nat.mul n19 3)))) 25 (ptr p15 (Nat.add (Nat.add o16 (Nat.mul n19 3)) 2))) 26 v20) 27 (.agg ⟨[v8,v14,v20]⟩)) 28 (.slice (some ⟨p21,0,none⟩) 1 1)) 29 v23) 3 v23) 9 (a 4)) 10 (i64 (Int.add z25 (Int.ofNat 1)))) 4 (i64 (Int.add z25 (Int.ofNat 1)))) H24)))))))) (
 K (.exit 0) (upd (upd (upd (upd a 5 (a 4)) 6 (a 0)) 7 (iN (l1))) 8 (.bool (ltZ z2 (Int.ofNat l1)))) H)) := by kernel_rfl
theorem l29begin_W (con : CallT) (xr : Bool) (xa : Nat) (xl : Value) (H : CH) (K : KP) : funW Try.prog con 8 [.agg ⟨[.bool xr,u64 xa,xl]⟩] H K =
 (Nw H (mkRow 40 0 [(.bool xr),(u64 (xa)),xl]) fun p1 H2 =>
 Nw H2 (mkRow 44 0 [(.pointer none),(.pointer none)]) fun p3 H4 =>
 Ld H4 p1 0 fun v5 =>
 AsBool v5 fun b6 =>
 Cd b6 (
 Ld H4 p1 1 fun v7 =>
 Call1 Try.prog con 21 [v7] H4 fun v8 H9 =>
 Sc v8 (St H9 p3 0 [(.pointer none),v8] fun H10 =>
 Ld H10 p3 0 fun v11 =>
 Ld H10 p3 1 fun v12 =>
 K (.tuple ⟨[(.agg ⟨[v11,v12]⟩),(.iface 42 v8)]⟩) H10)) (
 Ld H4 p1 2 fun v13 =>
 Call1 Try.prog con 22 [v13] H4 fun v14 H15 =>
 Call1 Try.prog con 19 [v14] H15 fun v16 H17 =>
 Sc v16 (St H17 p3 0 [v16,(.pointer none)] fun H18 =>
 Ld H18 p3 0 fun v19 =>
 Ld H18 p3 1 fun v20 =>
 K (.tuple ⟨[(.agg ⟨[v19,v20]⟩),(.iface 41 v16)]⟩) H18))) := by kernel_rfl
end Go.Proofs.Ytoogdnemkfbgdaa

/- What some functions' texts ask for,step by step,each checked by the kernel. No conditions. -/
set_option linter.unusedVariables false
set_option maxRecDepth 100000
namespace Go.Proofs.Ytoogdnemkfbgdaa
open Go Go.CM
theorem stepAlone_W (con : CallT) (q : Nat) (v : Value) (n : Int) (H : CH) (K : KP) : funW Try.prog con 9 [ptr q 0,v,i64 n] H K =
 (LoopC Try.prog con (lpAt Try.prog 9 0) (upd (upd (upd (upd (upd (upd (fun _ => undV) 2 (i64 n)) 1 v) 0 (ptr q 0)) 6 (.bool false)) 7 (i64 n)) 8 (iN (0))) H (fun e => ceP e
 (fun a1 H2 =>
 K (.bool false) H2)
 (fun i3 => fun a1 H2 =>
 Cd (eqN i3 0) (
 K (.bool false) H2) (
 False))
 (fun a1 H2 =>
 K (a1 6) H2))) := by kernel_rfl
theorem stepAloneL_W (con : CallT) (a : TF) (H : CH) (K : KX) : codeW (lpAt Try.prog 9 0) Try.prog con a H K =
 (AsInt .i64 (a 8) fun z1 =>
 AsInt .i64 (a 7) fun z2 =>
 Cd (ltZ z1 z2) (
 IsNil .ifc (a 1) fun b3 =>
 Cd b3 (
 K .ret (upd (upd (upd (upd (upd (upd (upd (upd (upd (upd (upd (upd a 9 (.bool (ltZ z1 z2))) 10 (a 1)) 11 (.bool b3)) 12 (.bool b3)) 12 (.bool true)) 13 unit) 12 (.bool true)) 14 unit) 12 (.bool true)) 15 unit) 16 (.bool true)) 6 (.bool true)) H) (
 Mth Try.prog con (a 1) "Step" [(a 0)] H fun v4 H5 =>
 AsBool v4 fun b6 =>
 Cd b6 (
 K .ret (upd (upd (upd (upd (upd (upd (upd (upd (upd (upd (upd (upd a 9 (.bool (ltZ z1 z2))) 10 (a 1)) 11 (.bool b3)) 12 (.bool b3)) 12 (.bool false)) 13 (a 1)) 12 (.bool false)) 14 (a 0)) 12 (.bool false)) 15 v4) 16 v4) 6 (.bool true)) H5) (
 AsInt .i64 (a 8) fun z7 =>
 InR (Int.add z7 (Int.ofNat 1)) (
 K .normal (upd (upd (upd (upd (upd (upd (upd (upd (upd (upd (upd (upd (upd a 9 (.bool (ltZ z1 z2))) 10 (a 1)) 11 (.bool b3)) 12 (.bool b3)) 12 (.bool false)) 13 (a 1)) 12 (.bool false)) 14 (a 0)) 12 (.bool false)) 15 v4) 16 v4) 17 (i64 (Int.add z7 (Int.ofNat 1)))) 8 (i64 (Int.add z7 (Int.ofNat 1)))) H5)))) (
 K (.exit 0) (upd a 9 (.bool (ltZ z1 z2))) H)) := by kernel_rfl
theorem l29fits_W (con : CallT) (g0 g1 g2 g3 g4 : Nat) (xr : Bool) (xa : Nat) (xl : Value) (dn : Bool) (dv : Nat) (z1 z2 : Int) (H : CH) (K : KP) : funW Try.prog con 13 [.agg ⟨[u64 g0,u64 g1,u64 g2,u64 g3,u64 g4]⟩,.agg ⟨[.bool xr,u64 xa,xl,.bool dn,u64 dv,i64 z1,i64 z2]⟩] H K =
 (Nw H (mkRow 23 0 [(u64 (g0)),(u64 (g1)),(u64 (g2)),(u64 (g3)),(u64 (g4))]) fun p1 H2 =>
 Nw H2 (mkRow 51 0 [(.bool xr),(u64 (xa)),xl,(.bool dn),(u64 (dv)),(i64 z1),(i64 z2)]) fun p3 H4 =>
 Nw H4 (mkRow 23 0 [(u64 (0)),(u64 (0)),(u64 (0)),(u64 (0)),(u64 (0))]) fun p5 H6 =>
 Ld H6 p3 0 fun v7 =>
 AsBool v7 fun b8 =>
 Cd b8 (
 Ld H6 p1 0 fun v9 =>
 Ld H6 p1 1 fun v10 =>
 Ld H6 p1 2 fun v11 =>
 Ld H6 p1 3 fun v12 =>
 Ld H6 p1 4 fun v13 =>
 Ld H6 p3 1 fun v14 =>
 AsNat .u64 v14 fun n15 =>
 Must (ltN (Go.CM.subM 18446744073709551616 n15 1) 5) (
 Ld H6 p1 (Nat.add 0 (Nat.mul (Go.CM.subM 18446744073709551616 n15 1) 1)) fun v16 =>
 Ld H6 p3 4 fun v17 =>
 AsNat .u64 v16 fun n18 =>
 AsNat .u64 v17 fun n19 =>
 St H6 p5 0 [v9,v10,v11,v12,v13] fun H20 =>
 AsNat .u64 v16 fun n21 =>
 AsNat .u64 v17 fun n22 =>
 Same (.bool (eqN n18 n19)) (.bool (eqN n21 n22)) (
 AsNat .u64 v16 fun n23 =>
 AsNat .u64 v17 fun n24 =>
 Same (.bool (eqN n18 n19)) (.bool (eqN n23 n24)) (
 Ld H6 p3 4 fun v25 =>
 Same v17 v25 (
 Ld H20 p3 4 fun v26 =>
 Same v17 v26 (
 Ld H6 p1 (Nat.add 0 (Nat.mul (Go.CM.subM 18446744073709551616 n15 1) 1)) fun v27 =>
 Same v16 v27 (
 Ld H20 p1 (Nat.add 0 (Nat.mul (Go.CM.subM 18446744073709551616 n15 1) 1)) fun v28 =>
 Same v16 v28 (
 Ld H6 p3 1 fun v29 =>
 Same v14 v29 (
 Ld H20 p3 1 fun v30 =>
 Same v14 v30 (
 Ld H20 p5 0 fun v31 =>
 Ld H20 p5 1 fun v32 =>
 Ld H20 p5 2 fun v33 =>
 Ld H20 p5 3 fun v34 =>
 Ld H20 p5 4 fun v35 =>
 K (.tuple ⟨[(.agg ⟨[v31,v32,v33,v34,v35]⟩),(.bool (eqN n18 n19))]⟩) H20)))))))))) (
 LoopC Try.prog con (lpAt Try.prog 13 0) (upd (upd (upd (upd (upd (upd (upd (upd (upd (upd (upd (fun _ => undV) 1 (.agg ⟨[(.bool xr),(u64 (xa)),xl,(.bool dn),(u64 (dv)),(i64 z1),(i64 z2)]⟩)) 0 (.agg ⟨[(u64 (g0)),(u64 (g1)),(u64 (g2)),(u64 (g3)),(u64 (g4))]⟩)) 2 (ptr p1 0)) 3 (ptr p3 0)) 4 (ptr p5 0)) 5 (.bool false)) 9 (ptr p3 0)) 10 (ptr p3 0)) 11 v7) 6 (.bool true)) 7 (iN (0))) H6 (fun e => ceP e
 (fun a36 H37 =>
 AsPtr (a36 3) fun p39 o40 =>
 Ld H37 p39 (Nat.add o40 3) fun v41 =>
 AsBool (a36 6) fun b42 =>
 AsBool v41 fun b43 =>
 Cd (notB (eqB b42 b43)) (
 AsPtr (a36 2) fun p44 o45 =>
 Ld H37 p44 (Nat.add o45 0) fun v46 =>
 Ld H37 p44 (Nat.add o45 1) fun v47 =>
 Ld H37 p44 (Nat.add o45 2) fun v48 =>
 Ld H37 p44 (Nat.add o45 3) fun v49 =>
 Ld H37 p44 (Nat.add o45 4) fun v50 =>
 AsPtr (a36 4) fun p51 o52 =>
 St H37 p51 o52 [v46,v47,v48,v49,v50] fun H53 =>
 AsPtr (a36 4) fun p54 o55 =>
 Ld H53 p54 (Nat.add o55 0) fun v56 =>
 Ld H53 p54 (Nat.add o55 1) fun v57 =>
 Ld H53 p54 (Nat.add o55 2) fun v58 =>
 Ld H53 p54 (Nat.add o55 3) fun v59 =>
 Ld H53 p54 (Nat.add o55 4) fun v60 =>
 K (.tuple ⟨[(.agg ⟨[v56,v57,v58,v59,v60]⟩),(.bool false)]⟩) H53) (
 LoopC Try.prog con (lpAt Try.prog 13 1) (upd (upd (upd (upd (upd a36 51 (a36 6)) 52 (ptr p39 (Nat.add o40 3))) 53 v41) 54 (.bool (notB (eqB b42 b43)))) 8 (iN (0))) H37 (fun e => ceP e
 (fun a61 H62 =>
 AsPtr (a61 2) fun p64 o65 =>
 Ld H62 p64 (Nat.add o65 0) fun v66 =>
 Ld H62 p64 (Nat.add o65 1) fun v67 =>
 Ld H62 p64 (Nat.add o65 2) fun v68 =>
 Ld H62 p64 (Nat.add o65 3) fun v69 =>
 Ld H62 p64 (Nat.add o65 4) fun v70 =>
 AsPtr (a61 4) fun p71 o72 =>
 St H62 p71 o72 [v66,v67,v68,v69,v70] fun H73 =>
 AsPtr (a61 4) fun p74 o75 =>
 Ld H73 p74 (Nat.add o75 0) fun v76 =>
 Ld H73 p74 (Nat.add o75 1) fun v77 =>
 Ld H73 p74 (Nat.add o75 2) fun v78 =>
 Ld H73 p74 (Nat.add o75 3) fun v79 =>
 Ld H73 p74 (Nat.add o75 4) fun v80 =>
 K (.tuple ⟨[(.agg ⟨[v76,v77,v78,v79,v80]⟩),(.bool true)]⟩) H73)
 (fun i63 => fun a61 H62 =>
 Cd (eqN i63 2) (
 AsPtr (a61 2) fun p81 o82 =>
 Ld H62 p81 (Nat.add o82 0) fun v83 =>
 Ld H62 p81 (Nat.add o82 1) fun v84 =>
 Ld H62 p81 (Nat.add o82 2) fun v85 =>
 Ld H62 p81 (Nat.add o82 3) fun v86 =>
 Ld H62 p81 (Nat.add o82 4) fun v87 =>
 AsPtr (a61 4) fun p88 o89 =>
 St H62 p88 o89 [v83,v84,v85,v86,v87] fun H90 =>
 AsPtr (a61 4) fun p91 o92 =>
 Ld H90 p91 (Nat.add o92 0) fun v93 =>
 Ld H90 p91 (Nat.add o92 1) fun v94 =>
 Ld H90 p91 (Nat.add o92 2) fun v95 =>
 Ld H90 p91 (Nat.add o92 3) fun v96 =>
 Ld H90 p91 (Nat.add o92 4) fun v97 =>
 K (.tuple ⟨[(.agg ⟨[v93,v94,v95,v96,v97]⟩),(.bool true)]⟩) H90) (
 False))
 (fun a61 H62 =>
 AsPtr (a61 4) fun p98 o99 =>
 Ld H62 p98 (Nat.add o99 0) fun v100 =>
 Ld H62 p98 (Nat.add o99 1) fun v101 =>
 Ld H62 p98 (Nat.add o99 2) fun v102 =>
 Ld H62 p98 (Nat.add o99 3) fun v103 =>
 Ld H62 p98 (Nat.add o99 4) fun v104 =>
 K (.tuple ⟨[(.agg ⟨[v100,v101,v102,v103,v104]⟩),(a61 5)]⟩) H62))))
 (fun i38 => fun a36 H37 =>
 Cd (eqN i38 0) (
 AsPtr (a36 3) fun p105 o106 =>
 Ld H37 p105 (Nat.add o106 3) fun v107 =>
 AsBool (a36 6) fun b108 =>
 AsBool v107 fun b109 =>
 Cd (notB (eqB b108 b109)) (
 AsPtr (a36 2) fun p110 o111 =>
 Ld H37 p110 (Nat.add o111 0) fun v112 =>
 Ld H37 p110 (Nat.add o111 1) fun v113 =>
 Ld H37 p110 (Nat.add o111 2) fun v114 =>
 Ld H37 p110 (Nat.add o111 3) fun v115 =>
 Ld H37 p110 (Nat.add o111 4) fun v116 =>
 AsPtr (a36 4) fun p117 o118 =>
 St H37 p117 o118 [v112,v113,v114,v115,v116] fun H119 =>
 AsPtr (a36 4) fun p120 o121 =>
 Ld H119 p120 (Nat.add o121 0) fun v122 =>
 Ld H119 p120 (Nat.add o121 1) fun v123 =>
 Ld H119 p120 (Nat.add o121 2) fun v124 =>
 Ld H119 p120 (Nat.add o121 3) fun v125 =>
 Ld H119 p120 (Nat.add o121 4) fun v126 =>
 K (.tuple ⟨[(.agg ⟨[v122,v123,v124,v125,v126]⟩),(.bool false)]⟩) H119) (
 LoopC Try.prog con (lpAt Try.prog 13 1) (upd (upd (upd (upd (upd a36 51 (a36 6)) 52 (ptr p105 (Nat.add o106 3))) 53 v107) 54 (.bool (notB (eqB b108 b109)))) 8 (iN (0))) H37 (fun e => ceP e
 (fun a127 H128 =>
 AsPtr (a127 2) fun p130 o131 =>
 Ld H128 p130 (Nat.add o131 0) fun v132 =>
 Ld H128 p130 (Nat.add o131 1) fun v133 =>
 Ld H128 p130 (Nat.add o131 2) fun v134 =>
 Ld H128 p130 (Nat.add o131 3) fun v135 =>
 Ld H128 p130 (Nat.add o131 4) fun v136 =>
 AsPtr (a127 4) fun p137 o138 =>
 St H128 p137 o138 [v132,v133,v134,v135,v136] fun H139 =>
 AsPtr (a127 4) fun p140 o141 =>
 Ld H139 p140 (Nat.add o141 0) fun v142 =>
 Ld H139 p140 (Nat.add o141 1) fun v143 =>
 Ld H139 p140 (Nat.add o141 2) fun v144 =>
 Ld H139 p140 (Nat.add o141 3) fun v145 =>
 Ld H139 p140 (Nat.add o141 4) fun v146 =>
 K (.tuple ⟨[(.agg ⟨[v142,v143,v144,v145,v146]⟩),(.bool true)]⟩) H139)
 (fun i129 => fun a127 H128 =>
 Cd (eqN i129 2) (
 AsPtr (a127 2) fun p147 o148 =>
 Ld H128 p147 (Nat.add o148 0) fun v149 =>
 Ld H128 p147 (Nat.add o148 1) fun v150 =>
 Ld H128 p147 (Nat.add o148 2) fun v151 =>
 Ld H128 p147 (Nat.add o148 3) fun v152 =>
 Ld H128 p147 (Nat.add o148 4) fun v153 =>
 AsPtr (a127 4) fun p154 o155 =>
 St H128 p154 o155 [v149,v150,v151,v152,v153] fun H156 =>
 AsPtr (a127 4) fun p157 o158 =>
 Ld H156 p157 (Nat.add o158 0) fun v159 =>
 Ld H156 p157 (Nat.add o158 1) fun v160 =>
 Ld H156 p157 (Nat.add o158 2) fun v161 =>
 Ld H156 p157 (Nat.add o158 3) fun v162 =>
 Ld H156 p157 (Nat.add o158 4) fun v163 =>
 K (.tuple ⟨[(.agg ⟨[v159,v160,v161,v162,v163]⟩),(.bool true)]⟩) H156) (
 False))
 (fun a127 H128 =>
 AsPtr (a127 4) fun p164 o165 =>
 Ld H128 p164 (Nat.add o165 0) fun v166 =>
 Ld H128 p164 (Nat.add o165 1) fun v167 =>
 Ld H128 p164 (Nat.add o165 2) fun v168 =>
 Ld H128 p164 (Nat.add o165 3) fun v169 =>
 Ld H128 p164 (Nat.add o165 4) fun v170 =>
 K (.tuple ⟨[(.agg ⟨[v166,v167,v168,v169,v170]⟩),(a127 5)]⟩) H128)))) (
 False))
 (fun a36 H37 =>
 AsPtr (a36 4) fun p171 o172 =>
 Ld H37 p171 (Nat.add o172 0) fun v173 =>
 Ld H37 p171 (Nat.add o172 1) fun v174 =>
 Ld H37 p171 (Nat.add o172 2) fun v175 =>
 Ld H37 p171 (Nat.add o172 3) fun v176 =>
 Ld H37 p171 (Nat.add o172 4) fun v177 =>
 K (.tuple ⟨[(.agg ⟨[v173,v174,v175,v176,v177]⟩),(a36 5)]⟩) H37)))) := by kernel_rfl
theorem l29fitsA_W (con : CallT) (a : TF) (H : CH) (K : KX) : codeW (lpAt Try.prog 13 0) Try.prog con a H K =
 (AsPtr (a 3) fun p1 o2 =>
 Ld H p1 (Nat.add (Nat.add o2 0) 2) fun v3 =>
 AsLen v3 fun l4 =>
 AsInt .i64 (a 7) fun z5 =>
 Cd (ltZ z5 (Int.ofNat l4)) (
 AsWant (a 6) (False) fun b6 =>
 Cd b6 (
 AsPtr (a 3) fun p7 o8 =>
 Ld H p7 (Nat.add (Nat.add o8 0) 2) fun v9 =>
 AsSlc v9 fun p10 o11 l12 c13 =>
 AsCnt (a 7) fun n14 =>
 Must (ltN n14 l12) (
 Ld H p10 (Nat.add (Nat.add o11 (Nat.mul n14 3)) 0) fun v15 =>
 AsNat .u64 v15 fun n16 =>
 AsPtr (a 2) fun p17 o18 =>
 Must (ltN (Go.CM.subM 18446744073709551616 n16 1) 5) (
 Ld H p17 (Nat.add o18 (Nat.mul (Go.CM.subM 18446744073709551616 n16 1) 1)) fun v19 =>
 AsPtr (a 3) fun p20 o21 =>
 Ld H p20 (Nat.add (Nat.add o21 0) 2) fun v22 =>
 AsSlc v22 fun p23 o24 l25 c26 =>
 AsCnt (a 7) fun n27 =>
 Must (ltN n27 l25) (
 Ld H p23 (Nat.add (Nat.add o24 (Nat.mul n27 3)) 1) fun v28 =>
 AsNat .u64 v19 fun n29 =>
 AsNat .u64 v28 fun n30 =>
 AsInt .i64 (a 7) fun z31 =>
 InR (Int.add z31 (Int.ofNat 1)) (
 K .normal (upd (upd (upd (upd (upd (upd (upd (upd (upd (upd (upd (upd (upd (upd (upd (upd (upd (upd (upd (upd (upd (upd (upd (upd (upd (upd (upd (upd (upd (upd (upd (upd (upd (upd (upd (upd (upd (upd (upd (upd (upd (upd (upd (upd (upd (upd (upd (upd (upd a 22 (a 7)) 23 (ptr p1 (Nat.add o2 0))) 24 (ptr p1 (Nat.add (Nat.add o2 0) 2))) 25 v3) 26 (iN (l4))) 27 (.bool (ltZ z5 (Int.ofNat l4)))) 30 (a 6)) 31 (a 6)) 31 (.bool true)) 32 (ptr p7 (Nat.add o8 0))) 31 (.bool true)) 33 (ptr p7 (Nat.add (Nat.add o8 0) 2))) 31 (.bool true)) 34 v9) 31 (.bool true)) 35 (a 7)) 31 (.bool true)) 36 (ptr p10 (Nat.add o11 (Nat.mul n14 3)))) 31 (.bool true)) 37 (ptr p10 (Nat.add (Nat.add o11 (Nat.mul n14 3)) 0))) 31 (.bool true)) 38 v15) 31 (.bool true)) 39 (u64 ((Go.CM.subM 18446744073709551616 n16 1)))) 31 (.bool true)) 40 (ptr p17 (Nat.add o18 (Nat.mul (Go.CM.subM 18446744073709551616 n16 1) 1)))) 31 (.bool true)) 41 v19) 31 (.bool true)) 42 (ptr p20 (Nat.add o21 0))) 31 (.bool true)) 43 (ptr p20 (Nat.add (Nat.add o21 0) 2))) 31 (.bool true)) 44 v22) 31 (.bool true)) 45 (a 7)) 31 (.bool true)) 46 (ptr p23 (Nat.add o24 (Nat.mul n27 3)))) 31 (.bool true)) 47 (ptr p23 (Nat.add (Nat.add o24 (Nat.mul n27 3)) 1))) 31 (.bool true)) 48 v28) 31 (.bool true)) 49 (.bool (eqN n29 n30))) 50 (.bool (eqN n29 n30))) 6 (.bool (eqN n29 n30))) 28 (a 7)) 29 (i64 (Int.add z31 (Int.ofNat 1)))) 7 (i64 (Int.add z31 (Int.ofNat 1)))) H))))) (
 AsInt .i64 (a 7) fun z32 =>
 InR (Int.add z32 (Int.ofNat 1)) (
 K .normal (upd (upd (upd (upd (upd (upd (upd (upd (upd (upd (upd (upd (upd (upd (upd (upd (upd (upd (upd (upd (upd (upd (upd (upd (upd (upd (upd (upd (upd (upd (upd (upd (upd (upd (upd (upd (upd (upd (upd (upd (upd (upd (upd (upd (upd (upd (upd (upd (upd a 22 (a 7)) 23 (ptr p1 (Nat.add o2 0))) 24 (ptr p1 (Nat.add (Nat.add o2 0) 2))) 25 v3) 26 (iN (l4))) 27 (.bool (ltZ z5 (Int.ofNat l4)))) 30 (a 6)) 31 (a 6)) 31 (.bool false)) 32 unit) 31 (.bool false)) 33 unit) 31 (.bool false)) 34 unit) 31 (.bool false)) 35 unit) 31 (.bool false)) 36 unit) 31 (.bool false)) 37 unit) 31 (.bool false)) 38 unit) 31 (.bool false)) 39 unit) 31 (.bool false)) 40 unit) 31 (.bool false)) 41 unit) 31 (.bool false)) 42 unit) 31 (.bool false)) 43 unit) 31 (.bool false)) 44 unit) 31 (.bool false)) 45 unit) 31 (.bool false)) 46 unit) 31 (.bool false)) 47 unit) 31 (.bool false)) 48 unit) 31 (.bool false)) 49 unit) 50 (.bool false)) 6 (.bool false)) 28 (a 7)) 29 (i64 (Int.add z32 (Int.ofNat 1)))) 7 (i64 (Int.add z32 (Int.ofNat 1)))) H))) (
 K (.exit 0) (upd (upd (upd (upd (upd (upd a 22 (a 7)) 23 (ptr p1 (Nat.add o2 0))) 24 (ptr p1 (Nat.add (Nat.add o2 0) 2))) 25 v3) 26 (iN (l4))) 27 (.bool (ltZ z5 (Int.ofNat l4)))) H)) := by kernel_rfl
theorem l29fitsB_W (con : CallT) (a : TF) (H : CH) (K : KX) : codeW (lpAt Try.prog 13 1) Try.prog con a H K =
 (AsWant (a 6) (False) fun b1 =>
 Cd b1 (
 AsPtr (a 3) fun p2 o3 =>
 Ld H p2 (Nat.add (Nat.add o3 0) 2) fun v4 =>
 AsLen v4 fun l5 =>
 AsInt .i64 (a 8) fun z6 =>
 Cd (ltZ z6 (Int.ofNat l5)) (
 AsPtr (a 3) fun p7 o8 =>
 Ld H p7 (Nat.add (Nat.add o8 0) 2) fun v9 =>
 AsSlc v9 fun p10 o11 l12 c13 =>
 AsCnt (a 8) fun n14 =>
 Must (ltN n14 l12) (
 Ld H p10 (Nat.add (Nat.add o11 (Nat.mul n14 3)) 0) fun v15 =>
 AsNat .u64 v15 fun n16 =>
 AsPtr (a 3) fun p17 o18 =>
 Ld H p17 (Nat.add (Nat.add o18 0) 2) fun v19 =>
 AsSlc v19 fun p20 o21 l22 c23 =>
 AsCnt (a 8) fun n24 =>
 Must (ltN n24 l22) (
 Ld H p20 (Nat.add (Nat.add o21 (Nat.mul n24 3)) 2) fun v25 =>
 AsPtr (a 2) fun p26 o27 =>
 Must (ltN (Go.CM.subM 18446744073709551616 n16 1) 5) (
 Sc v25 (St H p26 (Nat.add o27 (Nat.mul (Go.CM.subM 18446744073709551616 n16 1) 1)) [v25] fun H28 =>
 AsInt .i64 (a 8) fun z29 =>
 InR (Int.add z29 (Int.ofNat 1)) (
 K .normal (upd (upd (upd (upd (upd (upd (upd (upd (upd (upd (upd (upd (upd (upd (upd (upd (upd (upd (upd (upd (upd (upd (upd (upd (upd (upd (upd (upd (upd (upd (upd (upd (upd (upd a 56 (a 6)) 57 (a 6)) 57 (.bool true)) 58 (a 8)) 57 (.bool true)) 59 (ptr p2 (Nat.add o3 0))) 57 (.bool true)) 60 (ptr p2 (Nat.add (Nat.add o3 0) 2))) 57 (.bool true)) 61 v4) 57 (.bool true)) 62 (iN (l5))) 57 (.bool true)) 63 (.bool (ltZ z6 (Int.ofNat l5)))) 64 (.bool (ltZ z6 (Int.ofNat l5)))) 67 (ptr p7 (Nat.add o8 0))) 68 (ptr p7 (Nat.add (Nat.add o8 0) 2))) 69 v9) 70 (a 8)) 71 (ptr p10 (Nat.add o11 (Nat.mul n14 3)))) 72 (ptr p10 (Nat.add (Nat.add o11 (Nat.mul n14 3)) 0))) 73 v15) 74 (u64 ((Go.CM.subM 18446744073709551616 n16 1)))) 75 (ptr p17 (Nat.add o18 0))) 76 (ptr p17 (Nat.add (Nat.add o18 0) 2))) 77 v19) 78 (a 8)) 79 (ptr p20 (Nat.add o21 (Nat.mul n24 3)))) 80 (ptr p20 (Nat.add (Nat.add o21 (Nat.mul n24 3)) 2))) 81 v25) 82 (ptr p26 (Nat.add o27 (Nat.mul (Go.CM.subM 18446744073709551616 n16 1) 1)))) 65 (a 8)) 66 (i64 (Int.add z29 (Int.ofNat 1)))) 8 (i64 (Int.add z29 (Int.ofNat 1)))) H28)))))) (
 K (.exit 2) (upd (upd (upd (upd (upd (upd (upd (upd (upd (upd (upd (upd (upd (upd (upd a 56 (a 6)) 57 (a 6)) 57 (.bool true)) 58 (a 8)) 57 (.bool true)) 59 (ptr p2 (Nat.add o3 0))) 57 (.bool true)) 60 (ptr p2 (Nat.add (Nat.add o3 0) 2))) 57 (.bool true)) 61 v4) 57 (.bool true)) 62 (iN (l5))) 57 (.bool true)) 63 (.bool (ltZ z6 (Int.ofNat l5)))) 64 (.bool (ltZ z6 (Int.ofNat l5)))) H)) (
 K (.exit 2) (upd (upd (upd (upd (upd (upd (upd (upd (upd (upd (upd (upd (upd (upd (upd a 56 (a 6)) 57 (a 6)) 57 (.bool false)) 58 unit) 57 (.bool false)) 59 unit) 57 (.bool false)) 60 unit) 57 (.bool false)) 61 unit) 57 (.bool false)) 62 unit) 57 (.bool false)) 63 unit) 64 (.bool false)) H)) := by kernel_rfl
theorem multiAlone_W (con : CallT) (c : Int) (f0 f1 f2 f3 f4 : Nat) (v w : Value) (H : CH) (K : KP) : funW Try.prog con 3 [i64 c,.agg ⟨[u64 f0,u64 f1,u64 f2,u64 f3,u64 f4,v,w]⟩] H K =
 (Nw H (mkRow 27 0 [(u64 (f0)),(u64 (f1)),(u64 (f2)),(u64 (f3)),(u64 (f4)),v,w]) fun p1 H2 =>
 Must (cvOk .i64 c) (
 InR (Int.add (Int.ofNat 128) (IntKind.wrap .i64 (Int.ofNat (Nat.mod (wrapN .u64 c) 2000)))) (
 Ld H2 p1 0 fun v3 =>
 Ld H2 p1 1 fun v4 =>
 Ld H2 p1 2 fun v5 =>
 Ld H2 p1 3 fun v6 =>
 Ld H2 p1 4 fun v7 =>
 Call1 Try.prog con 4 [(i64 (Int.add (Int.ofNat 128) (IntKind.wrap .i64 (Int.ofNat (Nat.mod (wrapN .u64 c) 2000))))),(.agg ⟨[v3,v4,v5,v6,v7]⟩)] H2 fun v8 H9 =>
 AsTup v8 fun l10 =>
 Nth l10 0 fun v11 =>
 AsTup v8 fun l12 =>
 Nth l12 1 fun v13 =>
 AsTup v8 fun l14 =>
 Nth l14 2 fun v15 =>
 Call1 Try.prog con 5 [] H9 fun v16 H17 =>
 AsBool v16 fun b18 =>
 Cd (notB b18) (
 K (.bool false) H17) (
 AsBool v15 fun b19 =>
 Cd (notB b19) (
 K (.bool false) H17) (
 Call1 Try.prog con 6 [v11,(iN (0))] H17 fun v20 H21 =>
 Nw H21 (mkRow 23 0 [(u64 (0)),(u64 (0)),(u64 (0)),(u64 (0)),(u64 (0))]) fun p22 H23 =>
 LoopC Try.prog con (lpAt Try.prog 3 0) (upd (upd (upd (upd (upd (upd (upd (upd (upd (upd (upd (upd (upd (upd (upd (upd (upd (upd (upd (upd (upd (upd (upd (upd (upd (upd (upd (upd (upd (upd (upd (upd (fun _ => undV) 1 (.agg ⟨[(u64 (f0)),(u64 (f1)),(u64 (f2)),(u64 (f3)),(u64 (f4)),v,w]⟩)) 0 (i64 c)) 3 (ptr p1 0)) 4 (.bool false)) 22 (i64 c)) 23 (u64 ((wrapN .u64 c)))) 24 (u64 ((Nat.mod (wrapN .u64 c) 2000)))) 25 (i64 (IntKind.wrap .i64 (Int.ofNat (Nat.mod (wrapN .u64 c) 2000))))) 26 (i64 (Int.add (Int.ofNat 128) (IntKind.wrap .i64 (Int.ofNat (Nat.mod (wrapN .u64 c) 2000)))))) 27 (ptr p1 0)) 28 (.agg ⟨[v3,v4,v5,v6,v7]⟩)) 29 v8) 21 v8) 30 v11) 31 v13) 32 v15) 5 v11) 6 v13) 7 v15) 33 v16) 34 (.bool (notB b18))) 35 (.bool (notB b18))) 35 (.bool false)) 36 v15) 35 (.bool false)) 37 (.bool (notB b19))) 38 (.bool (notB b19))) 39 v11) 40 v20) 8 v20) 9 (ptr p22 0)) 10 (iN (0))) H23 (fun e => ceP e
 (fun a24 H25 =>
 AsPtr (a24 3) fun p27 o28 =>
 Ld H25 p27 (Nat.add o28 5) fun v29 =>
 Call1 Try.prog con 7 [v29] H25 fun v30 H31 =>
 LoopC Try.prog con (lpAt Try.prog 3 1) (upd (upd (upd (upd (upd a24 52 (ptr p27 (Nat.add o28 5))) 53 v29) 54 v30) 11 v30) 12 (iN (0))) H31 (fun e => ceP e
 (fun a32 H33 =>
 K (.bool true) H33)
 (fun i34 => fun a32 H33 =>
 Cd (eqN i34 2) (
 K (.bool true) H33) (
 False))
 (fun a32 H33 =>
 K (a32 4) H33)))
 (fun i26 => fun a24 H25 =>
 Cd (eqN i26 0) (
 AsPtr (a24 3) fun p35 o36 =>
 Ld H25 p35 (Nat.add o36 5) fun v37 =>
 Call1 Try.prog con 7 [v37] H25 fun v38 H39 =>
 LoopC Try.prog con (lpAt Try.prog 3 1) (upd (upd (upd (upd (upd a24 52 (ptr p35 (Nat.add o36 5))) 53 v37) 54 v38) 11 v38) 12 (iN (0))) H39 (fun e => ceP e
 (fun a40 H41 =>
 K (.bool true) H41)
 (fun i42 => fun a40 H41 =>
 Cd (eqN i42 2) (
 K (.bool true) H41) (
 False))
 (fun a40 H41 =>
 K (a40 4) H41))) (
 False))
 (fun a24 H25 =>
 K (a24 4) H25))))))) := by kernel_rfl
theorem multiAloneA_W (con : CallT) (a : TF) (H : CH) (K : KX) : codeW (lpAt Try.prog 3 0) Try.prog con a H K =
 (AsInt .i64 (a 10) fun z1 =>
 Cd (ltZ z1 (Int.ofNat 5)) (
 AsPtr (a 3) fun p2 o3 =>
 AsCnt (a 10) fun n4 =>
 Must (ltN n4 5) (
 Ld H p2 (Nat.add (Nat.add o3 0) (Nat.mul n4 1)) fun v5 =>
 AsNat .u64 v5 fun n6 =>
 AsPtr (a 9) fun p7 o8 =>
 AsCnt (a 10) fun n9 =>
 Must (ltN n9 5) (
 St H p7 (Nat.add o8 (Nat.mul n9 1)) [(u64 ((Nat.mod n6 4611686018427387904)))] fun H10 =>
 AsInt .i64 (a 10) fun z11 =>
 InR (Int.add z11 (Int.ofNat 1)) (
 K .normal (upd (upd (upd (upd (upd (upd (upd (upd (upd (upd (upd (upd a 41 (a 10)) 42 (.bool (ltZ z1 (Int.ofNat 5)))) 45 (a 10)) 46 (a 10)) 47 (ptr p2 (Nat.add o3 0))) 48 (ptr p2 (Nat.add (Nat.add o3 0) (Nat.mul n4 1)))) 49 v5) 50 (u64 ((Nat.mod n6 4611686018427387904)))) 51 (ptr p7 (Nat.add o8 (Nat.mul n9 1)))) 43 (a 10)) 44 (i64 (Int.add z11 (Int.ofNat 1)))) 10 (i64 (Int.add z11 (Int.ofNat 1)))) H10)))) (
 K (.exit 0) (upd (upd a 41 (a 10)) 42 (.bool (ltZ z1 (Int.ofNat 5)))) H)) := by kernel_rfl
theorem multiAloneB_W (con : CallT) (a : TF) (H : CH) (K : KX) : codeW (lpAt Try.prog 3 1) Try.prog con a H K =
 (AsLen (a 11) fun l1 =>
 AsInt .i64 (a 12) fun z2 =>
 Cd (ltZ z2 (Int.ofNat l1)) (
 LoopC Try.prog con (lpAt Try.prog 3 2) (upd (upd (upd (upd (upd a 55 (a 12)) 56 (a 11)) 57 (iN (l1))) 58 (.bool (ltZ z2 (Int.ofNat l1)))) 13 (iN (0))) H (fun e => ceP e
 (fun a3 H4 =>
 AsInt .i64 (a3 12) fun z6 =>
 InR (Int.add z6 (Int.ofNat 1)) (
 K .normal (upd (upd (upd a3 59 (a3 12)) 60 (i64 (Int.add z6 (Int.ofNat 1)))) 12 (i64 (Int.add z6 (Int.ofNat 1)))) H4))
 (fun i5 => fun a3 H4 =>
 Cd (eqN i5 4) (
 AsInt .i64 (a3 12) fun z7 =>
 InR (Int.add z7 (Int.ofNat 1)) (
 K .normal (upd (upd (upd a3 59 (a3 12)) 60 (i64 (Int.add z7 (Int.ofNat 1)))) 12 (i64 (Int.add z7 (Int.ofNat 1)))) H4)) (
 Cd (eqN i5 3) (
 AsInt .i64 (a3 12) fun z8 =>
 InR (Int.add z8 (Int.ofNat 1)) (
 K .normal (upd (upd (upd a3 59 (a3 12)) 60 (i64 (Int.add z8 (Int.ofNat 1)))) 12 (i64 (Int.add z8 (Int.ofNat 1)))) H4)) (
 K (.exit i5) a3 H4)))
 (fun a3 H4 =>
 K .ret a3 H4))) (
 K (.exit 2) (upd (upd (upd (upd a 55 (a 12)) 56 (a 11)) 57 (iN (l1))) 58 (.bool (ltZ z2 (Int.ofNat l1)))) H)) := by kernel_rfl
theorem multiAloneD_W (con : CallT) (a : TF) (H : CH) (K : KX) : codeW (lpAt Try.prog 3 3) Try.prog con a H K =
 (AsWant (a 19) (False) fun b1 =>
 Cd b1 (
 AsInt .i64 (a 20) fun z2 =>
 Cd (ltZ z2 (Int.ofNat 5)) (
 AsSlc (a 18) fun p3 o4 l5 c6 =>
 AsCnt (a 20) fun n7 =>
 Must (ltN n7 l5) (
 Ld H p3 (Nat.add o4 (Nat.mul n7 1)) fun v8 =>
 AsPtr (a 9) fun p9 o10 =>
 AsCnt (a 20) fun n11 =>
 Must (ltN n11 5) (
 Ld H p9 (Nat.add o10 (Nat.mul n11 1)) fun v12 =>
 AsNat .u64 v8 fun n13 =>
 AsNat .u64 v12 fun n14 =>
 AsInt .i64 (a 20) fun z15 =>
 InR (Int.add z15 (Int.ofNat 1)) (
 K .normal (upd (upd (upd (upd (upd (upd (upd (upd (upd (upd (upd (upd (upd (upd (upd (upd (upd (upd (upd a 125 (a 19)) 126 (a 19)) 126 (.bool true)) 127 (a 20)) 126 (.bool true)) 128 (.bool (ltZ z2 (Int.ofNat 5)))) 129 (.bool (ltZ z2 (Int.ofNat 5)))) 132 (a 18)) 133 (a 20)) 134 (ptr p3 (Nat.add o4 (Nat.mul n7 1)))) 135 v8) 136 (a 20)) 137 (ptr p9 (Nat.add o10 (Nat.mul n11 1)))) 138 v12) 139 (.bool (eqN n13 n14))) 19 (.bool (eqN n13 n14))) 130 (a 20)) 131 (i64 (Int.add z15 (Int.ofNat 1)))) 20 (i64 (Int.add z15 (Int.ofNat 1)))) H)))) (
 K (.exit 7) (upd (upd (upd (upd (upd (upd (upd a 125 (a 19)) 126 (a 19)) 126 (.bool true)) 127 (a 20)) 126 (.bool true)) 128 (.bool (ltZ z2 (Int.ofNat 5)))) 129 (.bool (ltZ z2 (Int.ofNat 5)))) H)) (
 K (.exit 7) (upd (upd (upd (upd (upd (upd (upd a 125 (a 19)) 126 (a 19)) 126 (.bool false)) 127 unit) 126 (.bool false)) 128 unit) 129 (.bool false)) H)) := by kernel_rfl
theorem maC0_W (con : CallT) (a : TF) (H : CH) (K : KX) : codeW (takeC 2 (blkC (lpAt Try.prog 3 2))) Try.prog con a H K =
 (AsSlc (a 11) fun p1 o2 l3 c4 =>
 AsCnt (a 12) fun n5 =>
 Must (ltN n5 l3) (
 Ld H p1 (Nat.add o2 (Nat.mul n5 1)) fun v6 =>
 AsLen v6 fun l7 =>
 AsInt .i64 (a 13) fun z8 =>
 Cd (ltZ z8 (Int.ofNat l7)) (
 K .normal (upd (upd (upd (upd (upd (upd (upd a 61 (a 13)) 62 (a 11)) 63 (a 12)) 64 (ptr p1 (Nat.add o2 (Nat.mul n5 1)))) 65 v6) 66 (iN (l7))) 67 (.bool (ltZ z8 (Int.ofNat l7)))) H) (
 K (.exit 4) (upd (upd (upd (upd (upd (upd (upd a 61 (a 13)) 62 (a 11)) 63 (a 12)) 64 (ptr p1 (Nat.add o2 (Nat.mul n5 1)))) 65 v6) 66 (iN (l7))) 67 (.bool (ltZ z8 (Int.ofNat l7)))) H))) := by kernel_rfl
theorem maC1_W (con : CallT) (a : TF) (H : CH) (K : KX) : codeW (takeC 2 (blkC ((flatC (blkC (lpAt Try.prog 3 2))).getD 2 .skip))) Try.prog con a H K =
 (AsSlc (a 11) fun p1 o2 l3 c4 =>
 AsCnt (a 12) fun n5 =>
 Must (ltN n5 l3) (
 Ld H p1 (Nat.add o2 (Nat.mul n5 1)) fun v6 =>
 AsSlc v6 fun p7 o8 l9 c10 =>
 AsCnt (a 13) fun n11 =>
 Must (ltN n11 l9) (
 Ld H p7 (Nat.add (Nat.add o8 (Nat.mul n11 3)) 0) fun v12 =>
 Ld H p7 (Nat.add (Nat.add o8 (Nat.mul n11 3)) 1) fun v13 =>
 Ld H p7 (Nat.add (Nat.add o8 (Nat.mul n11 3)) 2) fun v14 =>
 Nw H (mkRow 40 0 [(.bool false),(u64 (0)),(snil)]) fun p15 H16 =>
 St H16 p15 0 [v12,v13,v14] fun H17 =>
 Ld H17 p15 0 fun v18 =>
 Ld H17 p15 1 fun v19 =>
 Ld H17 p15 2 fun v20 =>
 Call1 Try.prog con 8 [(.agg ⟨[v18,v19,v20]⟩)] H17 fun v21 H22 =>
 AsTup v21 fun l23 =>
 Nth l23 0 fun v24 =>
 AsTup v21 fun l25 =>
 Nth l25 1 fun v26 =>
 Nw H22 (mkRow 44 0 [(.pointer none),(.pointer none)]) fun p27 H28 =>
 AsAgg v24 fun l29 =>
 Must (eqN (lenF l29) 2) (
 Nth l29 0 fun v30 =>
 Nth l29 1 fun v31 =>
 St H28 p27 0 [v30,v31] fun H32 =>
 K .normal (upd (upd (upd (upd (upd (upd (upd (upd (upd (upd (upd (upd (upd (upd (upd a 70 (a 11)) 71 (a 12)) 72 (ptr p1 (Nat.add o2 (Nat.mul n5 1)))) 73 v6) 74 (a 13)) 75 (ptr p7 (Nat.add o8 (Nat.mul n11 3)))) 76 (.agg ⟨[v12,v13,v14]⟩)) 14 (ptr p15 0)) 78 (.agg ⟨[v18,v19,v20]⟩)) 79 v21) 77 v21) 80 v24) 81 v26) 15 (ptr p27 0)) 16 v26) H32)))) := by kernel_rfl
theorem maC2_W (con : CallT) (a : TF) (H : CH) (K : KX) : codeW (sliceC 2 2 (blkC ((flatC (blkC (lpAt Try.prog 3 2))).getD 2 .skip))) Try.prog con a H K =
 (Call1 Try.prog con 9 [(a 8),(a 16),(iN (1000))] H fun v1 H2 =>
 AsBool v1 fun b3 =>
 Cd (notB b3) (
 K .ret (upd (upd (upd (upd (upd a 82 (a 8)) 83 (a 16)) 84 v1) 85 (.bool (notB b3))) 4 (.bool false)) H2) (
 K .normal (upd (upd (upd (upd a 82 (a 8)) 83 (a 16)) 84 v1) 85 (.bool (notB b3))) H2)) := by kernel_rfl
theorem maC3_W (con : CallT) (a : TF) (H : CH) (K : KX) : codeW (sliceC 4 2 (blkC ((flatC (blkC (lpAt Try.prog 3 2))).getD 2 .skip))) Try.prog con a H K =
 (AsPtr (a 14) fun p1 o2 =>
 Ld H p1 (Nat.add o2 0) fun v3 =>
 Ld H p1 (Nat.add o2 1) fun v4 =>
 Ld H p1 (Nat.add o2 2) fun v5 =>
 Nw H (mkRow 51 0 [(.bool false),(u64 (0)),(snil),(.bool false),(u64 (0)),(iN (0)),(iN (0))]) fun p6 H7 =>
 St H7 p6 0 [v3,v4,v5,(.bool false),(u64 (0)),(iN (0)),(iN (0))] fun H8 =>
 AsPtr (a 14) fun p9 o10 =>
 Ld H8 p9 (Nat.add o10 0) fun v11 =>
 AsBool v11 fun b12 =>
 Cd b12 (
 AsPtr (a 15) fun p13 o14 =>
 Ld H8 p13 (Nat.add o14 1) fun v15 =>
 Call1 Try.prog con 10 [v15] H8 fun v16 H17 =>
 Sc v16 (St H17 p6 4 [v16] fun H18 =>
 K .normal (upd (upd (upd (upd (upd (upd (upd (upd (upd (upd a 86 (.agg ⟨[v3,v4,v5]⟩)) 87 (.agg ⟨[v3,v4,v5,(.bool false),(u64 (0)),(iN (0)),(iN (0))]⟩)) 17 (ptr p6 0)) 89 (ptr p9 (Nat.add o10 0))) 90 v11) 88 v11) 91 (ptr p13 (Nat.add o14 1))) 92 v15) 93 v16) 94 (ptr p6 4)) H18)) (
 AsPtr (a 15) fun p19 o20 =>
 Ld H8 p19 (Nat.add o20 0) fun v21 =>
 Call1 Try.prog con 11 [v21] H8 fun v22 H23 =>
 AsInt .i64 v22 fun z24 =>
 Cd (eqZ z24 (Int.ofNat 0)) (
 AsPtr (a 15) fun p25 o26 =>
 Ld H23 p25 (Nat.add o26 0) fun v27 =>
 Call1 Try.prog con 12 [v27] H23 fun v28 H29 =>
 Sc v28 (St H29 p6 3 [v28] fun H30 =>
 K .normal (upd (upd (upd (upd (upd (upd (upd (upd (upd (upd (upd (upd (upd (upd (upd a 86 (.agg ⟨[v3,v4,v5]⟩)) 87 (.agg ⟨[v3,v4,v5,(.bool false),(u64 (0)),(iN (0)),(iN (0))]⟩)) 17 (ptr p6 0)) 89 (ptr p9 (Nat.add o10 0))) 90 v11) 88 v11) 96 (ptr p19 (Nat.add o20 0))) 97 v21) 98 v22) 99 (.bool (eqZ z24 (Int.ofNat 0)))) 95 (.bool (eqZ z24 (Int.ofNat 0)))) 100 (ptr p25 (Nat.add o26 0))) 101 v27) 102 v28) 103 (ptr p6 3)) H30)) (
 K .normal (upd (upd (upd (upd (upd (upd (upd (upd (upd (upd (upd a 86 (.agg ⟨[v3,v4,v5]⟩)) 87 (.agg ⟨[v3,v4,v5,(.bool false),(u64 (0)),(iN (0)),(iN (0))]⟩)) 17 (ptr p6 0)) 89 (ptr p9 (Nat.add o10 0))) 90 v11) 88 v11) 96 (ptr p19 (Nat.add o20 0))) 97 v21) 98 v22) 99 (.bool (eqZ z24 (Int.ofNat 0)))) 95 (.bool (eqZ z24 (Int.ofNat 0)))) H23))) := by kernel_rfl
theorem maC4_W (con : CallT) (a : TF) (H : CH) (K : KX) : codeW (sliceC 6 1 (blkC ((flatC (blkC (lpAt Try.prog 3 2))).getD 2 .skip))) Try.prog con a H K =
 (AsPtr (a 14) fun p1 o2 =>
 Ld H p1 (Nat.add o2 0) fun v3 =>
 AsWant v3 (False) fun b4 =>
 Cd b4 (
 K .normal (upd (upd (upd (upd (upd (upd (upd (upd (upd (upd (upd (upd a 104 (ptr p1 (Nat.add o2 0))) 105 v3) 106 v3) 106 (.bool true)) 107 unit) 106 (.bool true)) 108 unit) 106 (.bool true)) 109 unit) 106 (.bool true)) 110 unit) 111 (.bool true)) H) (
 AsPtr (a 15) fun p5 o6 =>
 Ld H p5 (Nat.add o6 0) fun v7 =>
 Call1 Try.prog con 11 [v7] H fun v8 H9 =>
 AsInt .i64 v8 fun z10 =>
 K .normal (upd (upd (upd (upd (upd (upd (upd (upd (upd (upd (upd (upd a 104 (ptr p1 (Nat.add o2 0))) 105 v3) 106 v3) 106 (.bool false)) 107 (ptr p5 (Nat.add o6 0))) 106 (.bool false)) 108 v7) 106 (.bool false)) 109 v8) 106 (.bool false)) 110 (.bool (eqZ z10 (Int.ofNat 0)))) 111 (.bool (eqZ z10 (Int.ofNat 0)))) H9)) := by kernel_rfl
theorem maC5_W (con : CallT) (a : TF) (H : CH) (K : KX) : codeW (sliceC 7 1 (blkC ((flatC (blkC (lpAt Try.prog 3 2))).getD 2 .skip))) Try.prog con a H K =
 (AsBool (a 111) fun b1 =>
 Cd b1 (
 AsPtr (a 9) fun p2 o3 =>
 Ld H p2 (Nat.add o3 0) fun v4 =>
 Ld H p2 (Nat.add o3 1) fun v5 =>
 Ld H p2 (Nat.add o3 2) fun v6 =>
 Ld H p2 (Nat.add o3 3) fun v7 =>
 Ld H p2 (Nat.add o3 4) fun v8 =>
 AsPtr (a 17) fun p9 o10 =>
 Ld H p9 (Nat.add o10 0) fun v11 =>
 Ld H p9 (Nat.add o10 1) fun v12 =>
 Ld H p9 (Nat.add o10 2) fun v13 =>
 Ld H p9 (Nat.add o10 3) fun v14 =>
 Ld H p9 (Nat.add o10 4) fun v15 =>
 Ld H p9 (Nat.add o10 5) fun v16 =>
 Ld H p9 (Nat.add o10 6) fun v17 =>
 Call1 Try.prog con 13 [(.agg ⟨[v4,v5,v6,v7,v8]⟩),(.agg ⟨[v11,v12,v13,v14,v15,v16,v17]⟩)] H fun v18 H19 =>
 AsTup v18 fun l20 =>
 Nth l20 0 fun v21 =>
 AsTup v18 fun l22 =>
 Nth l22 1 fun v23 =>
 AsPtr (a 9) fun p24 o25 =>
 AsAgg v21 fun l26 =>
 Must (eqN (lenF l26) 5) (
 Nth l26 0 fun v27 =>
 Nth l26 1 fun v28 =>
 Nth l26 2 fun v29 =>
 Nth l26 3 fun v30 =>
 Nth l26 4 fun v31 =>
 St H19 p24 o25 [v27,v28,v29,v30,v31] fun H32 =>
 AsBool v23 fun b33 =>
 Cd (notB b33) (
 K .ret (upd (upd (upd (upd (upd (upd (upd (upd (upd (upd a 113 (.agg ⟨[v4,v5,v6,v7,v8]⟩)) 114 (.agg ⟨[v11,v12,v13,v14,v15,v16,v17]⟩)) 115 v18) 112 v18) 116 v21) 117 v23) 7 v23) 118 v23) 119 (.bool (notB b33))) 4 (.bool false)) H32) (
 K .normal (upd (upd (upd (upd (upd (upd (upd (upd (upd a 113 (.agg ⟨[v4,v5,v6,v7,v8]⟩)) 114 (.agg ⟨[v11,v12,v13,v14,v15,v16,v17]⟩)) 115 v18) 112 v18) 116 v21) 117 v23) 7 v23) 118 v23) 119 (.bool (notB b33))) H32))) (
 K .normal a H)) := by kernel_rfl
theorem maC6_W (con : CallT) (a : TF) (H : CH) (K : KX) : codeW (sliceC 8 2 (blkC ((flatC (blkC (lpAt Try.prog 3 2))).getD 2 .skip))) Try.prog con a H K =
 (Call1 Try.prog con 14 [(a 5),(u64 (1)),(iN (5))] H fun v1 H2 =>
 AsTup v1 fun l3 =>
 Nth l3 0 fun v4 =>
 AsTup v1 fun l5 =>
 Nth l5 1 fun v6 =>
 K .normal (upd (upd (upd (upd (upd (upd (upd (upd a 121 (a 5)) 122 v1) 120 v1) 123 v4) 124 v6) 18 v4) 19 v6) 20 (iN (0))) H2) := by kernel_rfl
theorem maC7_W (con : CallT) (a : TF) (H : CH) (K : KX) : codeW (sliceC 10 1 (blkC ((flatC (blkC (lpAt Try.prog 3 2))).getD 2 .skip))) Try.prog con a H K =
 (LoopC Try.prog con (lpAt Try.prog 3 3) a H (fun e => ceP e
 (fun a1 H2 =>
 K .normal a1 H2)
 (fun i3 => fun a1 H2 =>
 Cd (eqN i3 7) (
 K .normal a1 H2) (
 K (.exit i3) a1 H2))
 (fun a1 H2 =>
 K .ret a1 H2))) := by kernel_rfl
theorem maC8_W (con : CallT) (a : TF) (H : CH) (K : KX) : codeW (dropC 11 (blkC ((flatC (blkC (lpAt Try.prog 3 2))).getD 2 .skip))) Try.prog con a H K =
 (AsBool (a 19) fun b1 =>
 Cd (notB b1) (
 K .ret (upd (upd (upd a 140 (a 19)) 141 (.bool (notB b1))) 4 (.bool false)) H) (
 K .normal (upd (upd a 140 (a 19)) 141 (.bool (notB b1))) H)) := by kernel_rfl
theorem maCZ_W (con : CallT) (a : TF) (H : CH) (K : KX) : codeW (dropC 3 (blkC (lpAt Try.prog 3 2))) Try.prog con a H K =
 (AsInt .i64 (a 13) fun z1 =>
 InR (Int.add z1 (Int.ofNat 1)) (
 K .normal (upd (upd (upd a 68 (a 13)) 69 (i64 (Int.add z1 (Int.ofNat 1)))) 13 (i64 (Int.add z1 (Int.ofNat 1)))) H)) := by kernel_rfl
end Go.Proofs.Ytoogdnemkfbgdaa

