/- What some functions' texts ask for, step by step, each checked by the kernel. No conditions. -/
import Derived.Test.YtnkbmaccgifeoaaGreatProg
import Derived.Test.YtnkbmaccgifeoaaGreatCmE
set_option linter.unusedVariables false
set_option linter.unusedSimpArgs false

/- What some functions' texts ask for,step by step,each checked by the kernel. No conditions. -/
set_option linter.unusedVariables false
set_option maxRecDepth 100000
namespace Go.Proofs.YtnkbmaccgifeoaaGreat
open Go Go.CM
theorem arenaNew_W (con : CallT) (z : Int) (b : Bool) (H : CH) (K : KP) : funW Tryz.prog con 6 [i64 z,.bool b] H K =
 (Cd (ltZ z (Int.ofNat 128)) (
 K (.tuple ⟨[(.pointer none),(iN (2))]⟩) H) (
 Cd (ltZ (Int.ofNat 4194304) z) (
 K (.tuple ⟨[(.pointer none),(iN (2))]⟩) H) (
 Cd b (
 MkS Tryz.prog H 103 (i64 z) (i64 z) fun v1 H2 =>
 Sc v1 (Nw H2 (mkRow 110 0 [v1,(iN (0))]) fun p3 H4 =>
 Call1 Tryz.prog con 29 [(ptr p3 1),(iN (1))] H4 fun v5 H6 =>
 Nw H6 (mkRow 115 0 [(.iface 102 (ptr p3 0)),(.bool true),(snil)]) fun p7 H8 =>
 K (.tuple ⟨[(ptr p7 0),(iN (0))]⟩) H8)) (
 MkS Tryz.prog H 22 (i64 z) (i64 z) fun v9 H10 =>
 Sc v9 (Nw H10 (mkRow 118 0 [v9,(iN (1))]) fun p11 H12 =>
 Nw H12 (mkRow 115 0 [(.iface 116 (ptr p11 0)),(.bool false),(snil)]) fun p13 H14 =>
 K (.tuple ⟨[(ptr p13 0),(iN (0))]⟩) H14))))) := by kernel_rfl
theorem memView_W (con : CallT) (m : Nat) (z : Int) (H : CH) (K : KP) : funW Tryz.prog con 8 [ptr m 0,i64 z] H K =
 (Nw H (mkRow 120 0 [(ptr m 0),(i64 z),(iN (0))]) fun p1 H2 =>
 K (ptr p1 0) H2) := by kernel_rfl
theorem viewLoad_W (con : CallT) (p a : Nat) (H : CH) (K : KP) : funW Tryz.prog con 97 [ptr p 0,u64 (a)] H K =
 (Ld H p 0 fun v1 =>
 Call1 Tryz.prog con 53 [v1,(u64 (a))] H fun v2 H3 =>
 Sc v2 (Call1 Tryz.prog con 31 [(ptr p 0),(.agg ⟨[(iN (0)),(u8 (1)),(u64 (a)),(u64 (0)),(u64 (0)),(snil),v2,(.bool false)]⟩)] H3 fun v4 H5 =>
 K v2 H5)) := by kernel_rfl
theorem memPeek_W (con : CallT) (m a : Nat) (H : CH) (K : KP) : funW Tryz.prog con 53 [ptr m 0,u64 (a)] H K =
 (Call1 Tryz.prog con 30 [(ptr m 0),(u64 (a))] H fun v1 H2 =>
 AsBool v1 fun b3 =>
 Cd (notB b3) (
 K (u64 (0)) H2) (
 Ld H2 m 0 fun v4 =>
 Mth Tryz.prog con v4 "shutter/arena.load" [(u64 (a))] H2 fun v5 H6 =>
 K v5 H6)) := by kernel_rfl
theorem memHas_W (con : CallT) (m a : Nat) (H : CH) (K : KP) : funW Tryz.prog con 30 [ptr m 0,u64 (a)] H K =
 (Ld H m 0 fun v1 =>
 Mth Tryz.prog con v1 "shutter/arena.size" [] H fun v2 H3 =>
 AsInt .i64 v2 fun z4 =>
 Must (cvOk .i64 z4) (
 K (.bool (ltN a (wrapN .u64 z4))) H3)) := by kernel_rfl
theorem viewNote_W (con : CallT) (p : Nat) (c0 c1 c2 c3 c4 c5 c6 c7 : Value) (H : CH) (K : KP) : funW Tryz.prog con 31 [ptr p 0,.agg ⟨[c0,c1,c2,c3,c4,c5,c6,c7]⟩] H K =
 (Nw H (mkRow 125 0 [c0,c1,c2,c3,c4,c5,c6,c7]) fun p1 H2 =>
 Ld H2 p 2 fun v3 =>
 AsInt .i64 v3 fun z4 =>
 InR (Int.add z4 (Int.ofNat 1)) (
 St H2 p 2 [(i64 (Int.add z4 (Int.ofNat 1)))] fun H5 =>
 Ld H5 p 0 fun v6 =>
 NotNil Tryz.prog v6 (
 AsPtr v6 fun p7 o8 =>
 Ld H5 p7 (Nat.add o8 1) fun v9 =>
 AsBool v9 fun b10 =>
 Cd (notB b10) (
 Ld H5 p 1 fun v11 =>
 Sc v11 (St H5 p1 0 [v11] fun H12 =>
 Ld H12 p 0 fun v13 =>
 Ld H12 p 0 fun v14 =>
 NotNil Tryz.prog v14 (
 AsPtr v14 fun p15 o16 =>
 Ld H12 p15 (Nat.add o16 2) fun v17 =>
 Ld H12 p1 0 fun v18 =>
 Ld H12 p1 1 fun v19 =>
 Ld H12 p1 2 fun v20 =>
 Ld H12 p1 3 fun v21 =>
 Ld H12 p1 4 fun v22 =>
 Ld H12 p1 5 fun v23 =>
 Ld H12 p1 6 fun v24 =>
 Ld H12 p1 7 fun v25 =>
 Nw H12 (mkRow 125 0 [v18,v19,v20,v21,v22,v23,v24,v25]) fun p26 H27 =>
 App Tryz.prog 63 63 H27 v17 (.slice (some ⟨p26,0,none⟩) 1 1) fun v28 H29 =>
 NotNil Tryz.prog v13 (
 AsPtr v13 fun p30 o31 =>
 Sc v28 (St H29 p30 (Nat.add o31 2) [v28] fun H32 =>
 Ld H12 p15 (Nat.add o16 2) fun v33 =>
 Same v17 v33 (
 Ld H27 p15 (Nat.add o16 2) fun v34 =>
 Same v17 v34 (
 Ld H12 p 0 fun v35 =>
 Same v14 v35 (
 Ld H27 p 0 fun v36 =>
 Same v14 v36 (
 Ld H12 p 0 fun v37 =>
 Same v13 v37 (
 Ld H27 p 0 fun v38 =>
 Same v13 v38 (
 Ld H29 p 0 fun v39 =>
 Same v13 v39 (
 K unit H32)))))))))))) (
 K unit H5)))) := by kernel_rfl
theorem memTrace_W (con : CallT) (m : Nat) (H : CH) (K : KP) : funW Tryz.prog con 19 [ptr m 0] H K =
 (Ld H m 2 fun v1 =>
 Call1 Tryz.prog con 47 [v1] H fun v2 H3 =>
 AsLen v2 fun l4 =>
 LoopC Tryz.prog con (lpAt Tryz.prog 19 0) (upd (upd (upd (upd (upd (upd (upd (upd (upd (upd (upd (upd (upd (fun _ => undV) 0 (ptr m 0)) 2 (snil)) 5 (ptr m 0)) 6 (.bool false)) 7 (ptr m 0)) 8 (ptr m 0)) 9 (ptr m 2)) 10 v1) 11 v2) 3 v2) 12 v2) 13 (iN (l4))) 14 (iN (0))) H3 (fun e => ceP e
 (fun a5 H6 =>
 K (a5 3) H6)
 (fun i7 => fun a5 H6 =>
 Cd (eqN i7 0) (
 K (a5 3) H6) (
 False))
 (fun a5 H6 =>
 K (a5 2) H6))) := by kernel_rfl
theorem memMade_W (con : CallT) (m : Nat) (H : CH) (K : KP) : funW Tryz.prog con 69 [ptr m 0] H K =
 (Ld H m 2 fun v1 =>
 AsLen v1 fun l2 =>
 K (iN (l2)) H) := by kernel_rfl
theorem viewCas_W (con : CallT) (p a x y : Nat) (H : CH) (K : KP) : funW Tryz.prog con 108 [ptr p 0,u64 (a),u64 (x),u64 (y)] H K =
 (Ld H p 0 fun v1 =>
 Call1 Tryz.prog con 30 [v1,(u64 (a))] H fun v2 H3 =>
 AsWant v2 (False) fun b4 =>
 Cd b4 (
 Ld H3 p 0 fun v5 =>
 NotNil Tryz.prog v5 (
 AsPtr v5 fun p6 o7 =>
 Ld H3 p6 (Nat.add o7 0) fun v8 =>
 Mth Tryz.prog con v8 "shutter/arena.cas" [(u64 (a)), (u64 (x)), (u64 (y))] H3 fun v9 H10 =>
 Sc v9 (Call1 Tryz.prog con 31 [(ptr p 0),(.agg ⟨[(iN (0)),(u8 (3)),(u64 (a)),(u64 (x)),(u64 (y)),(snil),(u64 (0)),v9]⟩)] H10 fun v11 H12 =>
 K v9 H12))) (
 Call1 Tryz.prog con 31 [(ptr p 0),(.agg ⟨[(iN (0)),(u8 (3)),(u64 (a)),(u64 (x)),(u64 (y)),(snil),(u64 (0)),(.bool false)]⟩)] H3 fun v13 H14 =>
 K (.bool false) H14)) := by kernel_rfl
theorem viewAlloc_W (con : CallT) (p : Nat) (v : Value) (H : CH) (K : KP) : funW Tryz.prog con 64 [ptr p 0,v] H K =
 (AsLen v fun l1 =>
 Cd (ltZ (Int.ofNat 0) (Int.ofNat l1)) (
 Ld H p 0 fun v2 =>
 NotNil Tryz.prog v2 (
 AsPtr v2 fun p3 o4 =>
 Ld H p3 (Nat.add o4 0) fun v5 =>
 Mth Tryz.prog con v5 "shutter/arena.alloc" [v] H fun v6 H7 =>
 Call1 Tryz.prog con 48 [v] H7 fun v8 H9 =>
 Sc v6 (Sc v8 (Call1 Tryz.prog con 31 [(ptr p 0),(.agg ⟨[(iN (0)),(u8 (5)),v6,(u64 (0)),(u64 (0)),v8,(u64 (0)),(.bool false)]⟩)] H9 fun v10 H11 =>
 K v6 H11)))) (
 Call1 Tryz.prog con 48 [v] H fun v12 H13 =>
 Sc v12 (Call1 Tryz.prog con 31 [(ptr p 0),(.agg ⟨[(iN (0)),(u8 (5)),(u64 (0)),(u64 (0)),(u64 (0)),v12,(u64 (0)),(.bool false)]⟩)] H13 fun v14 H15 =>
 K (u64 (0)) H15))) := by kernel_rfl
theorem plainAlloc_W (con : CallT) (p : Nat) (v : Value) (H : CH) (K : KP) : funW Tryz.prog con 147 [ptr p 0,v] H K =
 (AsLen v fun l1 =>
 Ld H p 0 fun v2 =>
 AsLen v2 fun l3 =>
 Ld H p 1 fun v4 =>
 AsInt .i64 v4 fun z5 =>
 InR (Int.sub (Int.ofNat l3) z5) (
 Cd (ltZ (Int.sub (Int.ofNat l3) z5) (Int.ofNat l1)) (
 K (u64 (0)) H) (
 Ld H p 1 fun v6 =>
 Ld H p 1 fun v7 =>
 Ld H p 0 fun v8 =>
 Slc Tryz.prog H 22 v8 (some v6) none none fun v9 =>
 Cpy Tryz.prog 22 H v9 v fun v10 H11 =>
 AsInt .i64 v7 fun z12 =>
 AsInt .i64 v10 fun z13 =>
 InR (Int.add z12 z13) (
 St H11 p 1 [(i64 (Int.add z12 z13))] fun H14 =>
 Ld H p 1 fun v15 =>
 Same v7 v15 (
 Ld H11 p 1 fun v16 =>
 Same v7 v16 (
 AsInt .i64 v6 fun z17 =>
 Must (cvOk .i64 z17) (
 K (u64 ((wrapN .u64 z17))) H14))))))) := by kernel_rfl
theorem plainCas_W (con : CallT) (p a x y : Nat) (H : CH) (K : KP) : funW Tryz.prog con 148 [ptr p 0,u64 (a),u64 (x),u64 (y)] H K =
 (Ld H p 0 fun v1 =>
 AsSlc v1 fun p2 o3 l4 c5 =>
 Must (ltN a l4) (
 Ld H p2 (Nat.add o3 (Nat.mul a 1)) fun v6 =>
 AsNat .u64 v6 fun n7 =>
 Cd (notB (eqN n7 x)) (
 K (.bool false) H) (
 Ld H p 0 fun v8 =>
 AsSlc v8 fun p9 o10 l11 c12 =>
 Must (ltN a l11) (
 St H p9 (Nat.add o10 (Nat.mul a 1)) [(u64 (y))] fun H13 =>
 K (.bool true) H13)))) := by kernel_rfl
theorem plainLoad_W (con : CallT) (p a : Nat) (H : CH) (K : KP) : funW Tryz.prog con 150 [ptr p 0,u64 (a)] H K =
 (Ld H p 0 fun v1 =>
 AsSlc v1 fun p2 o3 l4 c5 =>
 Must (ltN a l4) (
 Ld H p2 (Nat.add o3 (Nat.mul a 1)) fun v6 =>
 K v6 H)) := by kernel_rfl
theorem plainSize_W (con : CallT) (p : Nat) (H : CH) (K : KP) : funW Tryz.prog con 152 [ptr p 0] H K =
 (Ld H p 0 fun v1 =>
 AsLen v1 fun l2 =>
 K (iN (l2)) H) := by kernel_rfl
theorem cloneN_W (con : CallT) (v : Value) (H : CH) (K : KP) : funW Tryz.prog con 48 [v] H K =
 (IsNil .slc v fun b1 =>
 Cd b1 (
 K (snil) H) (
 Nw H (mkRow 23 0 []) fun p2 H3 =>
 App Tryz.prog 22 22 H3 (.slice (some ⟨p2,0,none⟩) 0 0) v fun v4 H5 =>
 K v4 H5)) := by kernel_rfl
theorem cloneA_W (con : CallT) (v : Value) (H : CH) (K : KP) : funW Tryz.prog con 47 [v] H K =
 (IsNil .slc v fun b1 =>
 Cd b1 (
 K (snil) H) (
 Nw H (mkRow 125 0 []) fun p2 H3 =>
 App Tryz.prog 63 63 H3 (.slice (some ⟨p2,0,none⟩) 0 0) v fun v4 H5 =>
 K v4 H5)) := by kernel_rfl
theorem refNew_W (con : CallT) (z : Int) (b : Bool) (H : CH) (K : KP) : funW Tryz.prog con 7 [i64 z,.bool b] H K =
 (Cd (ltZ z (Int.ofNat 128)) (
 K (.tuple ⟨[(.pointer none),(iN (2))]⟩) H) (
 Cd (ltZ (Int.ofNat 4194304) z) (
 K (.tuple ⟨[(.pointer none),(iN (2))]⟩) H) (
 MkS Tryz.prog H 22 (i64 z) (i64 z) fun v1 H2 =>
 Sc v1 (Nw H2 (mkRow 66 0 [v1,(iN (1)),(snil),(.bool b)]) fun p3 H4 =>
 K (.tuple ⟨[(ptr p3 0),(iN (0))]⟩) H4)))) := by kernel_rfl
theorem refLoad_W (con : CallT) (p a : Nat) (t : Int) (H : CH) (K : KP) : funW Tryz.prog con 37 [ptr p 0,i64 t,u64 (a)] H K =
 (Call1 Tryz.prog con 54 [(ptr p 0),(u64 (a))] H fun v1 H2 =>
 Sc v1 (Call1 Tryz.prog con 33 [(ptr p 0),(.agg ⟨[(i64 t),(u8 (1)),(u64 (a)),(u64 (0)),(u64 (0)),(snil),v1,(.bool false)]⟩)] H2 fun v3 H4 =>
 K v1 H4)) := by kernel_rfl
theorem refPeek_W (con : CallT) (p a : Nat) (H : CH) (K : KP) : funW Tryz.prog con 54 [ptr p 0,u64 (a)] H K =
 (Ld H p 0 fun v1 =>
 AsLen v1 fun l2 =>
 Must (cvOk .i64 (Int.ofNat l2)) (
 Cd (leN (wrapN .u64 (Int.ofNat l2)) a) (
 K (u64 (0)) H) (
 Ld H p 0 fun v3 =>
 AsSlc v3 fun p4 o5 l6 c7 =>
 Must (ltN a l6) (
 Ld H p4 (Nat.add o5 (Nat.mul a 1)) fun v8 =>
 K v8 H)))) := by kernel_rfl
theorem refSet_W (con : CallT) (p a x : Nat) (H : CH) (K : KP) : funW Tryz.prog con 32 [ptr p 0,u64 (a),u64 (x)] H K =
 (Ld H p 0 fun v1 =>
 AsLen v1 fun l2 =>
 Must (cvOk .i64 (Int.ofNat l2)) (
 Cd (ltN a (wrapN .u64 (Int.ofNat l2))) (
 Ld H p 0 fun v3 =>
 AsSlc v3 fun p4 o5 l6 c7 =>
 Must (ltN a l6) (
 St H p4 (Nat.add o5 (Nat.mul a 1)) [(u64 (x))] fun H8 =>
 K unit H8)) (
 K unit H))) := by kernel_rfl
theorem refNote_W (con : CallT) (p : Nat) (c0 c1 c2 c3 c4 c5 c6 c7 : Value) (H : CH) (K : KP) : funW Tryz.prog con 33 [ptr p 0,.agg ⟨[c0,c1,c2,c3,c4,c5,c6,c7]⟩] H K =
 (Nw H (mkRow 125 0 [c0,c1,c2,c3,c4,c5,c6,c7]) fun p1 H2 =>
 Ld H2 p 3 fun v3 =>
 AsBool v3 fun b4 =>
 Cd (notB b4) (
 Ld H2 p 2 fun v5 =>
 Ld H2 p1 0 fun v6 =>
 Ld H2 p1 1 fun v7 =>
 Ld H2 p1 2 fun v8 =>
 Ld H2 p1 3 fun v9 =>
 Ld H2 p1 4 fun v10 =>
 Ld H2 p1 5 fun v11 =>
 Ld H2 p1 6 fun v12 =>
 Ld H2 p1 7 fun v13 =>
 Nw H2 (mkRow 125 0 [v6,v7,v8,v9,v10,v11,v12,v13]) fun p14 H15 =>
 App Tryz.prog 63 63 H15 v5 (.slice (some ⟨p14,0,none⟩) 1 1) fun v16 H17 =>
 Sc v16 (St H17 p 2 [v16] fun H18 =>
 Ld H2 p 2 fun v19 =>
 Same v5 v19 (
 Ld H15 p 2 fun v20 =>
 Same v5 v20 (
 K unit H18)))) (
 K unit H2)) := by kernel_rfl
theorem refAlloc_W (con : CallT) (p : Nat) (t : Int) (v : Value) (H : CH) (K : KP) : funW Tryz.prog con 43 [ptr p 0,i64 t,v] H K =
 (AsLen v fun l1 =>
 Cd (ltZ (Int.ofNat 0) (Int.ofNat l1)) (
 AsLen v fun l2 =>
 Call1 Tryz.prog con 62 [(ptr p 0)] H fun v3 H4 =>
 AsInt .i64 v3 fun z5 =>
 Cd (leZ (Int.ofNat l2) z5) (
 Ld H4 p 1 fun v6 =>
 Ld H4 p 1 fun v7 =>
 AsLen v fun l8 =>
 AsInt .i64 v7 fun z9 =>
 InR (Int.add z9 (Int.ofNat l8)) (
 St H4 p 1 [(i64 (Int.add z9 (Int.ofNat l8)))] fun H10 =>
 LoopC Tryz.prog con (lpAt Tryz.prog 43 0) (upd (upd (upd (upd (upd (upd (upd (upd (upd (upd (upd (upd (upd (upd (upd (upd (upd (upd (upd (upd (upd (upd (upd (upd (upd (upd (upd (upd (upd (upd (upd (upd (upd (upd (upd (upd (upd (fun _ => undV) 2 v) 1 (i64 t)) 0 (ptr p 0)) 6 (u64 (0))) 10 (ptr p 0)) 11 (.bool false)) 7 (iN (0))) 12 v) 13 (iN (l1))) 14 (.bool (ltZ (Int.ofNat 0) (Int.ofNat l1)))) 15 (.bool (ltZ (Int.ofNat 0) (Int.ofNat l1)))) 15 (.bool true)) 16 v) 15 (.bool true)) 17 (iN (l2))) 15 (.bool true)) 18 (ptr p 0)) 15 (.bool true)) 19 v3) 15 (.bool true)) 20 (.bool (leZ (Int.ofNat l2) z5))) 21 (.bool (leZ (Int.ofNat l2) z5))) 22 (ptr p 0)) 23 (ptr p 0)) 24 (ptr p 1)) 25 v6) 7 v6) 26 (ptr p 0)) 27 (ptr p 0)) 28 (ptr p 1)) 29 v7) 30 v) 31 (iN (l8))) 32 (i64 (Int.add z9 (Int.ofNat l8)))) 33 (ptr p 0)) 34 (ptr p 1)) 8 (iN (0))) H10 (fun e => ceP e
 (fun a11 H12 =>
 App Tryz.prog 22 22 H12 (snil) (a11 2) fun v14 H15 =>
 AsInt .i64 (a11 7) fun z16 =>
 Must (cvOk .i64 z16) (
 Sc (a11 1) (Sc v14 (Call1 Tryz.prog con 33 [(a11 0),(.agg ⟨[(a11 1),(u8 (5)),(u64 ((wrapN .u64 z16))),(u64 (0)),(u64 (0)),v14,(u64 (0)),(.bool false)]⟩)] H15 fun v17 H18 =>
 AsInt .i64 (a11 7) fun z19 =>
 Must (cvOk .i64 z19) (
 K (u64 ((wrapN .u64 z19))) H18)))))
 (fun i13 => fun a11 H12 =>
 Cd (eqN i13 0) (
 App Tryz.prog 22 22 H12 (snil) (a11 2) fun v20 H21 =>
 AsInt .i64 (a11 7) fun z22 =>
 Must (cvOk .i64 z22) (
 Sc (a11 1) (Sc v20 (Call1 Tryz.prog con 33 [(a11 0),(.agg ⟨[(a11 1),(u8 (5)),(u64 ((wrapN .u64 z22))),(u64 (0)),(u64 (0)),v20,(u64 (0)),(.bool false)]⟩)] H21 fun v23 H24 =>
 AsInt .i64 (a11 7) fun z25 =>
 Must (cvOk .i64 z25) (
 K (u64 ((wrapN .u64 z25))) H24))))) (
 False))
 (fun a11 H12 =>
 K (a11 6) H12)))) (
 App Tryz.prog 22 22 H4 (snil) v fun v26 H27 =>
 Must (cvOk .i64 (Int.ofNat 0)) (
 Sc v26 (Call1 Tryz.prog con 33 [(ptr p 0),(.agg ⟨[(i64 t),(u8 (5)),(u64 ((wrapN .u64 (Int.ofNat 0)))),(u64 (0)),(u64 (0)),v26,(u64 (0)),(.bool false)]⟩)] H27 fun v28 H29 =>
 Must (cvOk .i64 (Int.ofNat 0)) (
 K (u64 ((wrapN .u64 (Int.ofNat 0)))) H29))))) (
 App Tryz.prog 22 22 H (snil) v fun v30 H31 =>
 Must (cvOk .i64 (Int.ofNat 0)) (
 Sc v30 (Call1 Tryz.prog con 33 [(ptr p 0),(.agg ⟨[(i64 t),(u8 (5)),(u64 ((wrapN .u64 (Int.ofNat 0)))),(u64 (0)),(u64 (0)),v30,(u64 (0)),(.bool false)]⟩)] H31 fun v32 H33 =>
 Must (cvOk .i64 (Int.ofNat 0)) (
 K (u64 ((wrapN .u64 (Int.ofNat 0)))) H33))))) := by kernel_rfl
theorem refLeft_W (con : CallT) (p : Nat) (H : CH) (K : KP) : funW Tryz.prog con 62 [ptr p 0] H K =
 (Ld H p 0 fun v1 =>
 AsLen v1 fun l2 =>
 Ld H p 1 fun v3 =>
 AsInt .i64 v3 fun z4 =>
 InR (Int.sub (Int.ofNat l2) z4) (
 K (i64 (Int.sub (Int.ofNat l2) z4)) H)) := by kernel_rfl
theorem sameTrace_W (con : CallT) (v w : Value) (H : CH) (K : KP) : funW Tryz.prog con 18 [v,w] H K =
 (AsLen v fun l1 =>
 AsLen w fun l2 =>
 Cd (notB (eqZ (Int.ofNat l1) (Int.ofNat l2))) (
 K (.bool false) H) (
 LoopC Tryz.prog con (lpAt Tryz.prog 18 0) (upd (upd (upd (upd (upd (upd (upd (upd (upd (fun _ => undV) 1 w) 0 v) 4 (.bool false)) 6 v) 7 (iN (l1))) 8 w) 9 (iN (l2))) 10 (.bool (notB (eqZ (Int.ofNat l1) (Int.ofNat l2))))) 5 (iN (0))) H (fun e => ceP e
 (fun a3 H4 =>
 K (.bool true) H4)
 (fun i5 => fun a3 H4 =>
 Cd (eqN i5 0) (
 K (.bool true) H4) (
 False))
 (fun a3 H4 =>
 K (a3 4) H4)))) := by kernel_rfl
theorem sameAccess_W (con : CallT) (c0 c1 c2 c3 c4 c5 c6 c7 d0 d1 d2 d3 d4 d5 d6 d7 : Value) (H : CH) (K : KP) : funW Tryz.prog con 46 [.agg ⟨[c0,c1,c2,c3,c4,c5,c6,c7]⟩,.agg ⟨[d0,d1,d2,d3,d4,d5,d6,d7]⟩] H K =
 (Nw H (mkRow 125 0 [c0,c1,c2,c3,c4,c5,c6,c7]) fun p1 H2 =>
 Nw H2 (mkRow 125 0 [d0,d1,d2,d3,d4,d5,d6,d7]) fun p3 H4 =>
 Ld H4 p1 0 fun v5 =>
 Ld H4 p3 0 fun v6 =>
 AsInt .i64 v5 fun z7 =>
 AsInt .i64 v6 fun z8 =>
 Cd (notB (eqZ z7 z8)) (
 K (.bool false) H4) (
 Ld H4 p1 1 fun v9 =>
 Ld H4 p3 1 fun v10 =>
 AsNat .u8 v9 fun n11 =>
 AsNat .u8 v10 fun n12 =>
 Cd (notB (eqN n11 n12)) (
 K (.bool false) H4) (
 Ld H4 p1 2 fun v13 =>
 Ld H4 p3 2 fun v14 =>
 AsNat .u64 v13 fun n15 =>
 AsNat .u64 v14 fun n16 =>
 Cd (notB (eqN n15 n16)) (
 K (.bool false) H4) (
 Ld H4 p1 3 fun v17 =>
 Ld H4 p3 3 fun v18 =>
 AsNat .u64 v17 fun n19 =>
 AsNat .u64 v18 fun n20 =>
 Cd (notB (eqN n19 n20)) (
 K (.bool false) H4) (
 Ld H4 p1 4 fun v21 =>
 Ld H4 p3 4 fun v22 =>
 AsNat .u64 v21 fun n23 =>
 AsNat .u64 v22 fun n24 =>
 Cd (notB (eqN n23 n24)) (
 K (.bool false) H4) (
 Ld H4 p1 6 fun v25 =>
 Ld H4 p3 6 fun v26 =>
 AsNat .u64 v25 fun n27 =>
 AsNat .u64 v26 fun n28 =>
 Cd (notB (eqN n27 n28)) (
 K (.bool false) H4) (
 Ld H4 p1 7 fun v29 =>
 Ld H4 p3 7 fun v30 =>
 AsBool v29 fun b31 =>
 AsBool v30 fun b32 =>
 Cd (notB (eqB b31 b32)) (
 K (.bool false) H4) (
 Ld H4 p1 5 fun v33 =>
 AsLen v33 fun l34 =>
 Ld H4 p3 5 fun v35 =>
 AsLen v35 fun l36 =>
 Cd (notB (eqZ (Int.ofNat l34) (Int.ofNat l36))) (
 K (.bool false) H4) (
 LoopC Tryz.prog con (lpAt Tryz.prog 46 0) (upd (upd (upd (upd (upd (upd (upd (upd (upd (upd (upd (upd (upd (upd (upd (upd (upd (upd (upd (upd (upd (upd (upd (upd (upd (upd (upd (upd (upd (upd (upd (upd (upd (upd (upd (upd (upd (upd (upd (upd (upd (upd (upd (upd (upd (upd (upd (upd (upd (upd (upd (upd (upd (upd (upd (upd (upd (upd (upd (upd (upd (upd (upd (upd (upd (upd (upd (upd (upd (upd (upd (upd (upd (upd (upd (upd (upd (upd (upd (upd (upd (upd (upd (upd (upd (upd (upd (upd (upd (upd (upd (upd (upd (upd (upd (upd (upd (upd (upd (fun _ => undV) 1 (.agg ⟨[d0,d1,d2,d3,d4,d5,d6,d7]⟩)) 0 (.agg ⟨[c0,c1,c2,c3,c4,c5,c6,c7]⟩)) 2 (ptr p1 0)) 3 (ptr p3 0)) 4 (.bool false)) 6 (ptr p1 0)) 7 v5) 8 (ptr p3 0)) 9 v6) 10 (.bool (notB (eqZ z7 z8)))) 11 (.bool (notB (eqZ z7 z8)))) 11 (.bool false)) 12 (ptr p1 1)) 11 (.bool false)) 13 v9) 11 (.bool false)) 14 (ptr p3 1)) 11 (.bool false)) 15 v10) 11 (.bool false)) 16 (.bool (notB (eqN n11 n12)))) 17 (.bool (notB (eqN n11 n12)))) 18 (.bool (notB (eqN n11 n12)))) 18 (.bool false)) 19 (ptr p1 2)) 18 (.bool false)) 20 v13) 18 (.bool false)) 21 (ptr p3 2)) 18 (.bool false)) 22 v14) 18 (.bool false)) 23 (.bool (notB (eqN n15 n16)))) 24 (.bool (notB (eqN n15 n16)))) 25 (.bool (notB (eqN n15 n16)))) 25 (.bool false)) 26 (ptr p1 3)) 25 (.bool false)) 27 v17) 25 (.bool false)) 28 (ptr p3 3)) 25 (.bool false)) 29 v18) 25 (.bool false)) 30 (.bool (notB (eqN n19 n20)))) 31 (.bool (notB (eqN n19 n20)))) 32 (.bool (notB (eqN n19 n20)))) 32 (.bool false)) 33 (ptr p1 4)) 32 (.bool false)) 34 v21) 32 (.bool false)) 35 (ptr p3 4)) 32 (.bool false)) 36 v22) 32 (.bool false)) 37 (.bool (notB (eqN n23 n24)))) 38 (.bool (notB (eqN n23 n24)))) 39 (.bool (notB (eqN n23 n24)))) 39 (.bool false)) 40 (ptr p1 6)) 39 (.bool false)) 41 v25) 39 (.bool false)) 42 (ptr p3 6)) 39 (.bool false)) 43 v26) 39 (.bool false)) 44 (.bool (notB (eqN n27 n28)))) 45 (.bool (notB (eqN n27 n28)))) 46 (.bool (notB (eqN n27 n28)))) 46 (.bool false)) 47 (ptr p1 7)) 46 (.bool false)) 48 v29) 46 (.bool false)) 49 (ptr p3 7)) 46 (.bool false)) 50 v30) 46 (.bool false)) 51 (.bool (notB (eqB b31 b32)))) 52 (.bool (notB (eqB b31 b32)))) 53 (.bool (notB (eqB b31 b32)))) 53 (.bool false)) 54 (ptr p1 5)) 53 (.bool false)) 55 v33) 53 (.bool false)) 56 (iN (l34))) 53 (.bool false)) 57 (ptr p3 5)) 53 (.bool false)) 58 v35) 53 (.bool false)) 59 (iN (l36))) 53 (.bool false)) 60 (.bool (notB (eqZ (Int.ofNat l34) (Int.ofNat l36))))) 61 (.bool (notB (eqZ (Int.ofNat l34) (Int.ofNat l36))))) 5 (iN (0))) H4 (fun e => ceP e
 (fun a37 H38 =>
 K (.bool true) H38)
 (fun i39 => fun a37 H38 =>
 Cd (eqN i39 0) (
 K (.bool true) H38) (
 False))
 (fun a37 H38 =>
 K (a37 4) H38))))))))))) := by kernel_rfl
end Go.Proofs.YtnkbmaccgifeoaaGreat

/- What some functions' texts ask for,step by step,each checked by the kernel. No conditions. -/
set_option linter.unusedVariables false
set_option maxRecDepth 100000
namespace Go.Proofs.YtnkbmaccgifeoaaGreat
open Go Go.CM
theorem sameAccessL_W (con : CallT) (a : TF) (H : CH) (K : KX) : codeW (lpAt Tryz.prog 46 0) Tryz.prog con a H K =
 (AsPtr (a 2) fun p1 o2 =>
 Ld H p1 (Nat.add o2 5) fun v3 =>
 AsLen v3 fun l4 =>
 AsInt .i64 (a 5) fun z5 =>
 Cd (ltZ z5 (Int.ofNat l4)) (
 AsPtr (a 2) fun p6 o7 =>
 Ld H p6 (Nat.add o7 5) fun v8 =>
 AsSlc v8 fun p9 o10 l11 c12 =>
 AsCnt (a 5) fun n13 =>
 Must (ltN n13 l11) (
 Ld H p9 (Nat.add o10 (Nat.mul n13 1)) fun v14 =>
 AsPtr (a 3) fun p15 o16 =>
 Ld H p15 (Nat.add o16 5) fun v17 =>
 AsSlc v17 fun p18 o19 l20 c21 =>
 AsCnt (a 5) fun n22 =>
 Must (ltN n22 l20) (
 Ld H p18 (Nat.add o19 (Nat.mul n22 1)) fun v23 =>
 AsNat .u64 v14 fun n24 =>
 AsNat .u64 v23 fun n25 =>
 Cd (notB (eqN n24 n25)) (
 K .ret (upd (upd (upd (upd (upd (upd (upd (upd (upd (upd (upd (upd (upd (upd (upd (upd (upd a 62 (a 5)) 63 (ptr p1 (Nat.add o2 5))) 64 v3) 65 (iN (l4))) 66 (.bool (ltZ z5 (Int.ofNat l4)))) 69 (ptr p6 (Nat.add o7 5))) 70 v8) 71 (a 5)) 72 (ptr p9 (Nat.add o10 (Nat.mul n13 1)))) 73 v14) 74 (ptr p15 (Nat.add o16 5))) 75 v17) 76 (a 5)) 77 (ptr p18 (Nat.add o19 (Nat.mul n22 1)))) 78 v23) 79 (.bool (notB (eqN n24 n25)))) 4 (.bool false)) H) (
 AsInt .i64 (a 5) fun z26 =>
 InR (Int.add z26 (Int.ofNat 1)) (
 K .normal (upd (upd (upd (upd (upd (upd (upd (upd (upd (upd (upd (upd (upd (upd (upd (upd (upd (upd (upd a 62 (a 5)) 63 (ptr p1 (Nat.add o2 5))) 64 v3) 65 (iN (l4))) 66 (.bool (ltZ z5 (Int.ofNat l4)))) 69 (ptr p6 (Nat.add o7 5))) 70 v8) 71 (a 5)) 72 (ptr p9 (Nat.add o10 (Nat.mul n13 1)))) 73 v14) 74 (ptr p15 (Nat.add o16 5))) 75 v17) 76 (a 5)) 77 (ptr p18 (Nat.add o19 (Nat.mul n22 1)))) 78 v23) 79 (.bool (notB (eqN n24 n25)))) 67 (a 5)) 68 (i64 (Int.add z26 (Int.ofNat 1)))) 5 (i64 (Int.add z26 (Int.ofNat 1)))) H))))) (
 K (.exit 0) (upd (upd (upd (upd (upd a 62 (a 5)) 63 (ptr p1 (Nat.add o2 5))) 64 v3) 65 (iN (l4))) 66 (.bool (ltZ z5 (Int.ofNat l4)))) H)) := by kernel_rfl
theorem sameTraceL_W (con : CallT) (a : TF) (H : CH) (K : KX) : codeW (lpAt Tryz.prog 18 0) Tryz.prog con a H K =
 (AsLen (a 0) fun l1 =>
 AsInt .i64 (a 5) fun z2 =>
 Cd (ltZ z2 (Int.ofNat l1)) (
 AsSlc (a 0) fun p3 o4 l5 c6 =>
 AsCnt (a 5) fun n7 =>
 Must (ltN n7 l5) (
 Ld H p3 (Nat.add (Nat.add o4 (Nat.mul n7 8)) 0) fun v8 =>
 Ld H p3 (Nat.add (Nat.add o4 (Nat.mul n7 8)) 1) fun v9 =>
 Ld H p3 (Nat.add (Nat.add o4 (Nat.mul n7 8)) 2) fun v10 =>
 Ld H p3 (Nat.add (Nat.add o4 (Nat.mul n7 8)) 3) fun v11 =>
 Ld H p3 (Nat.add (Nat.add o4 (Nat.mul n7 8)) 4) fun v12 =>
 Ld H p3 (Nat.add (Nat.add o4 (Nat.mul n7 8)) 5) fun v13 =>
 Ld H p3 (Nat.add (Nat.add o4 (Nat.mul n7 8)) 6) fun v14 =>
 Ld H p3 (Nat.add (Nat.add o4 (Nat.mul n7 8)) 7) fun v15 =>
 AsSlc (a 1) fun p16 o17 l18 c19 =>
 AsCnt (a 5) fun n20 =>
 Must (ltN n20 l18) (
 Ld H p16 (Nat.add (Nat.add o17 (Nat.mul n20 8)) 0) fun v21 =>
 Ld H p16 (Nat.add (Nat.add o17 (Nat.mul n20 8)) 1) fun v22 =>
 Ld H p16 (Nat.add (Nat.add o17 (Nat.mul n20 8)) 2) fun v23 =>
 Ld H p16 (Nat.add (Nat.add o17 (Nat.mul n20 8)) 3) fun v24 =>
 Ld H p16 (Nat.add (Nat.add o17 (Nat.mul n20 8)) 4) fun v25 =>
 Ld H p16 (Nat.add (Nat.add o17 (Nat.mul n20 8)) 5) fun v26 =>
 Ld H p16 (Nat.add (Nat.add o17 (Nat.mul n20 8)) 6) fun v27 =>
 Ld H p16 (Nat.add (Nat.add o17 (Nat.mul n20 8)) 7) fun v28 =>
 Call1 Tryz.prog con 46 [(.agg ⟨[v8,v9,v10,v11,v12,v13,v14,v15]⟩),(.agg ⟨[v21,v22,v23,v24,v25,v26,v27,v28]⟩)] H fun v29 H30 =>
 AsBool v29 fun b31 =>
 Cd (notB b31) (
 K .ret (upd (upd (upd (upd (upd (upd (upd (upd (upd (upd (upd (upd (upd (upd (upd a 11 (a 5)) 12 (a 0)) 13 (iN (l1))) 14 (.bool (ltZ z2 (Int.ofNat l1)))) 17 (a 0)) 18 (a 5)) 19 (ptr p3 (Nat.add o4 (Nat.mul n7 8)))) 20 (.agg ⟨[v8,v9,v10,v11,v12,v13,v14,v15]⟩)) 21 (a 1)) 22 (a 5)) 23 (ptr p16 (Nat.add o17 (Nat.mul n20 8)))) 24 (.agg ⟨[v21,v22,v23,v24,v25,v26,v27,v28]⟩)) 25 v29) 26 (.bool (notB b31))) 4 (.bool false)) H30) (
 AsInt .i64 (a 5) fun z32 =>
 InR (Int.add z32 (Int.ofNat 1)) (
 K .normal (upd (upd (upd (upd (upd (upd (upd (upd (upd (upd (upd (upd (upd (upd (upd (upd (upd a 11 (a 5)) 12 (a 0)) 13 (iN (l1))) 14 (.bool (ltZ z2 (Int.ofNat l1)))) 17 (a 0)) 18 (a 5)) 19 (ptr p3 (Nat.add o4 (Nat.mul n7 8)))) 20 (.agg ⟨[v8,v9,v10,v11,v12,v13,v14,v15]⟩)) 21 (a 1)) 22 (a 5)) 23 (ptr p16 (Nat.add o17 (Nat.mul n20 8)))) 24 (.agg ⟨[v21,v22,v23,v24,v25,v26,v27,v28]⟩)) 25 v29) 26 (.bool (notB b31))) 15 (a 5)) 16 (i64 (Int.add z32 (Int.ofNat 1)))) 5 (i64 (Int.add z32 (Int.ofNat 1)))) H30))))) (
 K (.exit 0) (upd (upd (upd (upd a 11 (a 5)) 12 (a 0)) 13 (iN (l1))) 14 (.bool (ltZ z2 (Int.ofNat l1)))) H)) := by kernel_rfl
theorem memTraceL_W (con : CallT) (a : TF) (H : CH) (K : KX) : codeW (lpAt Tryz.prog 19 0) Tryz.prog con a H K =
 (AsInt .i64 (a 14) fun z1 =>
 AsInt .i64 (a 13) fun z2 =>
 Cd (ltZ z1 z2) (
 AsSlc (a 3) fun p3 o4 l5 c6 =>
 AsCnt (a 14) fun n7 =>
 Must (ltN n7 l5) (
 Ld H p3 (Nat.add (Nat.add o4 (Nat.mul n7 8)) 5) fun v8 =>
 Call1 Tryz.prog con 48 [v8] H fun v9 H10 =>
 AsSlc (a 3) fun p11 o12 l13 c14 =>
 AsCnt (a 14) fun n15 =>
 Must (ltN n15 l13) (
 Sc v9 (St H10 p11 (Nat.add (Nat.add o12 (Nat.mul n15 8)) 5) [v9] fun H16 =>
 AsInt .i64 (a 14) fun z17 =>
 InR (Int.add z17 (Int.ofNat 1)) (
 K .normal (upd (upd (upd (upd (upd (upd (upd (upd (upd (upd (upd (upd (upd (upd (upd a 15 (.bool (ltZ z1 z2))) 16 (a 14)) 4 (a 14)) 17 (a 3)) 18 (a 14)) 19 (a 3)) 20 (a 14)) 21 (ptr p3 (Nat.add o4 (Nat.mul n7 8)))) 22 (ptr p3 (Nat.add (Nat.add o4 (Nat.mul n7 8)) 5))) 23 v8) 24 v9) 25 (ptr p11 (Nat.add o12 (Nat.mul n15 8)))) 26 (ptr p11 (Nat.add (Nat.add o12 (Nat.mul n15 8)) 5))) 27 (i64 (Int.add z17 (Int.ofNat 1)))) 14 (i64 (Int.add z17 (Int.ofNat 1)))) H16))))) (
 K (.exit 0) (upd a 15 (.bool (ltZ z1 z2))) H)) := by kernel_rfl
theorem refAllocL_W (con : CallT) (a : TF) (H : CH) (K : KX) : codeW (lpAt Tryz.prog 43 0) Tryz.prog con a H K =
 (AsLen (a 2) fun l1 =>
 AsInt .i64 (a 8) fun z2 =>
 Cd (ltZ z2 (Int.ofNat l1)) (
 NotNil Tryz.prog (a 0) (
 AsPtr (a 0) fun p3 o4 =>
 Ld H p3 (Nat.add o4 0) fun v5 =>
 AsInt .i64 (a 7) fun z6 =>
 AsInt .i64 (a 8) fun z7 =>
 InR (Int.add z6 z7) (
 AsSlc (a 2) fun p8 o9 l10 c11 =>
 AsCnt (a 8) fun n12 =>
 Must (ltN n12 l10) (
 Ld H p8 (Nat.add o9 (Nat.mul n12 1)) fun v13 =>
 AsSlc v5 fun p14 o15 l16 c17 =>
 AsCnt (i64 (Int.add z6 z7)) fun n18 =>
 Must (ltN n18 l16) (
 Sc v13 (St H p14 (Nat.add o15 (Nat.mul n18 1)) [v13] fun H19 =>
 AsInt .i64 (a 8) fun z20 =>
 InR (Int.add z20 (Int.ofNat 1)) (
 K .normal (upd (upd (upd (upd (upd (upd (upd (upd (upd (upd (upd (upd (upd (upd (upd (upd (upd (upd (upd a 35 (a 8)) 36 (a 2)) 37 (iN (l1))) 38 (.bool (ltZ z2 (Int.ofNat l1)))) 41 (a 0)) 42 (a 0)) 43 (ptr p3 (Nat.add o4 0))) 44 v5) 45 (a 7)) 46 (a 8)) 47 (i64 (Int.add z6 z7))) 48 (a 2)) 49 (a 8)) 50 (ptr p8 (Nat.add o9 (Nat.mul n12 1)))) 51 v13) 52 (ptr p14 (Nat.add o15 (Nat.mul n18 1)))) 39 (a 8)) 40 (i64 (Int.add z20 (Int.ofNat 1)))) 8 (i64 (Int.add z20 (Int.ofNat 1)))) H19))))))) (
 K (.exit 0) (upd (upd (upd (upd a 35 (a 8)) 36 (a 2)) 37 (iN (l1))) 38 (.bool (ltZ z2 (Int.ofNat l1)))) H)) := by kernel_rfl
end Go.Proofs.YtnkbmaccgifeoaaGreat

/- What some functions' texts ask for,step by step,each checked by the kernel. No conditions. -/
set_option linter.unusedVariables false
set_option maxRecDepth 100000
namespace Go.Proofs.YtnkbmaccgifeoaaGreat
open Go Go.CM
theorem refCas_W (con : CallT) (p a x y : Nat) (t : Int) (H : CH) (K : KP) : funW Tryz.prog con 60 [ptr p 0,i64 t,u64 (a),u64 (x),u64 (y)] H K =
 (Ld H p 0 fun v1 =>
 AsLen v1 fun l2 =>
 Must (cvOk .i64 (Int.ofNat l2)) (
 Cd (ltN a (wrapN .u64 (Int.ofNat l2))) (
 Ld H p 0 fun v3 =>
 AsSlc v3 fun p4 o5 l6 c7 =>
 Must (ltN a l6) (
 Ld H p4 (Nat.add o5 (Nat.mul a 1)) fun v8 =>
 AsNat .u64 v8 fun n9 =>
 Cd (eqN n9 x) (
 Call1 Tryz.prog con 32 [(ptr p 0),(u64 (a)),(u64 (y))] H fun v10 H11 =>
 Call1 Tryz.prog con 33 [(ptr p 0),(.agg ⟨[(i64 t),(u8 (3)),(u64 (a)),(u64 (x)),(u64 (y)),(snil),(u64 (0)),(.bool (eqN n9 x))]⟩)] H11 fun v12 H13 =>
 K (.bool (eqN n9 x)) H13) (
 Call1 Tryz.prog con 33 [(ptr p 0),(.agg ⟨[(i64 t),(u8 (3)),(u64 (a)),(u64 (x)),(u64 (y)),(snil),(u64 (0)),(.bool (eqN n9 x))]⟩)] H fun v14 H15 =>
 K (.bool (eqN n9 x)) H15))) (
 Call1 Tryz.prog con 33 [(ptr p 0),(.agg ⟨[(i64 t),(u8 (3)),(u64 (a)),(u64 (x)),(u64 (y)),(snil),(u64 (0)),(.bool false)]⟩)] H fun v16 H17 =>
 K (.bool false) H17))) := by kernel_rfl
end Go.Proofs.YtnkbmaccgifeoaaGreat

/- What some functions' texts ask for,step by step,each checked by the kernel. No conditions. -/
set_option linter.unusedVariables false
set_option maxRecDepth 100000
namespace Go.Proofs.YtnkbmaccgifeoaaGreat
open Go Go.CM
theorem newMulti_W (con : CallT) (v : Value) (H : CH) (K : KP) : funW Tryz.prog con 35 [v] H K =
 (Call1 Tryz.prog con 59 [v] H fun v1 H2 =>
 Sc v1 (Nw H2 (mkRow 141 0 [v1,(iN (0)),(u64 (0)),(.pointer none),(.bool false),(iN (0))]) fun p3 H4 =>
 K (ptr p3 0) H4)) := by kernel_rfl
theorem newRead_W (con : CallT) (x : Nat) (H : CH) (K : KP) : funW Tryz.prog con 34 [u64 x] H K =
 (Nw H (mkRow 139 0 [(u64 (x)),(.pointer none),(.pointer none),(.bool false),(u64 (0))]) fun p1 H2 =>
 K (ptr p1 0) H2) := by kernel_rfl
theorem multiStep_W (con : CallT) (p v : Nat) (H : CH) (K : KP) : funW Tryz.prog con 92 [ptr p 0,ptr v 0] H K =
 (Ld H p 1 fun v1 =>
 AsInt .i64 v1 fun z2 =>
 Cd (eqZ z2 (Int.ofNat 0)) (
 Call1 Tryz.prog con 93 [(ptr p 0)] H fun v3 H4 =>
 AsInt .i64 v3 fun z5 =>
 Cd (notB (eqZ z5 (Int.ofNat 0))) (
 AsInt .i64 v3 fun z6 =>
 Call1 Tryz.prog con 94 [(ptr p 0),(.bool (eqZ z6 (Int.ofNat 0))),v3] H4 fun v7 H8 =>
 K v7 H8) (
 Ld H4 p 0 fun v9 =>
 AsLen v9 fun l10 =>
 Cd (eqZ (Int.ofNat l10) (Int.ofNat 0)) (
 AsInt .i64 v3 fun z11 =>
 Call1 Tryz.prog con 94 [(ptr p 0),(.bool (eqZ z11 (Int.ofNat 0))),v3] H4 fun v12 H13 =>
 K v12 H13) (
 Ld H4 p 0 fun v14 =>
 AsLen v14 fun l15 =>
 Must (cvOk .i64 (Int.ofNat l15)) (
 Nw H4 (mkRow 23 0 [(u64 (0)),(u64 ((wrapN .u64 (Int.ofNat l15))))]) fun p16 H17 =>
 Ld H17 p 0 fun v18 =>
 AsLen v18 fun l19 =>
 LoopC Tryz.prog con (lpAt Tryz.prog 92 0) (upd (upd (upd (upd (upd (upd (upd (upd (upd (upd (upd (upd (upd (upd (upd (upd (upd (upd (upd (upd (upd (upd (upd (upd (upd (upd (upd (upd (upd (upd (upd (upd (upd (upd (upd (upd (upd (upd (upd (upd (upd (upd (upd (upd (fun _ => undV) 1 (ptr v 0)) 0 (ptr p 0)) 4 (.bool false)) 9 (ptr p 0)) 10 (.bool false)) 11 (ptr p 0)) 12 (ptr p 0)) 13 (ptr p 1)) 14 v1) 16 (.bool (eqZ z2 (Int.ofNat 0)))) 15 (.bool (eqZ z2 (Int.ofNat 0)))) 17 (ptr p 0)) 18 v3) 5 v3) 19 v3) 20 (.bool (notB (eqZ z5 (Int.ofNat 0))))) 21 (.bool (notB (eqZ z5 (Int.ofNat 0))))) 21 (.bool false)) 22 (ptr p 0)) 21 (.bool false)) 23 (ptr p 0)) 21 (.bool false)) 24 (ptr p 0)) 21 (.bool false)) 25 v9) 21 (.bool false)) 26 (iN (l10))) 21 (.bool false)) 27 (.bool (eqZ (Int.ofNat l10) (Int.ofNat 0)))) 28 (.bool (eqZ (Int.ofNat l10) (Int.ofNat 0)))) 34 (ptr p 0)) 35 (ptr p 0)) 36 (ptr p 0)) 37 v14) 38 (iN (l15))) 39 (u64 ((wrapN .u64 (Int.ofNat l15))))) 40 (.slice (some ⟨p16,0,none⟩) 2 2)) 6 (.slice (some ⟨p16,0,none⟩) 2 2)) 41 (ptr p 0)) 42 (ptr p 0)) 43 (ptr p 0)) 44 v18) 45 (iN (l19))) 46 (iN (0))) H17 (fun e => ceP e
 (fun a20 H21 =>
 NotNil Tryz.prog (a20 0) (
 AsPtr (a20 0) fun p23 o24 =>
 St H21 p23 (Nat.add o24 1) [(iN (1))] fun H25 =>
 Call1 Tryz.prog con 64 [(a20 1),(a20 6)] H25 fun v26 H27 =>
 NotNil Tryz.prog (a20 0) (
 AsPtr (a20 0) fun p28 o29 =>
 Sc v26 (St H27 p28 (Nat.add o29 2) [v26] fun H30 =>
 NotNil Tryz.prog (a20 0) (
 AsPtr (a20 0) fun p31 o32 =>
 Ld H30 p31 (Nat.add o32 2) fun v33 =>
 AsNat .u64 v33 fun n34 =>
 Cd (eqN n34 0) (
 Call1 Tryz.prog con 94 [(a20 0),(.bool false),(iN (30))] H30 fun v35 H36 =>
 K v35 H36) (
 NotNil Tryz.prog (a20 0) (
 AsPtr (a20 0) fun p37 o38 =>
 Ld H30 p37 (Nat.add o38 2) fun v39 =>
 Call1 Tryz.prog con 95 [v39] H30 fun v40 H41 =>
 NotNil Tryz.prog (a20 0) (
 AsPtr (a20 0) fun p42 o43 =>
 Sc v40 (St H41 p42 (Nat.add o43 3) [v40] fun H44 =>
 NotNil Tryz.prog (a20 0) (
 AsPtr (a20 0) fun p45 o46 =>
 Ld H44 p45 (Nat.add o46 1) fun v47 =>
 AsInt .i64 v47 fun z48 =>
 K (.bool (eqZ z48 (Int.ofNat 3))) H44))))))))))
 (fun i22 => fun a20 H21 =>
 Cd (eqN i22 1) (
 NotNil Tryz.prog (a20 0) (
 AsPtr (a20 0) fun p49 o50 =>
 St H21 p49 (Nat.add o50 1) [(iN (1))] fun H51 =>
 Call1 Tryz.prog con 64 [(a20 1),(a20 6)] H51 fun v52 H53 =>
 NotNil Tryz.prog (a20 0) (
 AsPtr (a20 0) fun p54 o55 =>
 Sc v52 (St H53 p54 (Nat.add o55 2) [v52] fun H56 =>
 NotNil Tryz.prog (a20 0) (
 AsPtr (a20 0) fun p57 o58 =>
 Ld H56 p57 (Nat.add o58 2) fun v59 =>
 AsNat .u64 v59 fun n60 =>
 Cd (eqN n60 0) (
 Call1 Tryz.prog con 94 [(a20 0),(.bool false),(iN (30))] H56 fun v61 H62 =>
 K v61 H62) (
 NotNil Tryz.prog (a20 0) (
 AsPtr (a20 0) fun p63 o64 =>
 Ld H56 p63 (Nat.add o64 2) fun v65 =>
 Call1 Tryz.prog con 95 [v65] H56 fun v66 H67 =>
 NotNil Tryz.prog (a20 0) (
 AsPtr (a20 0) fun p68 o69 =>
 Sc v66 (St H67 p68 (Nat.add o69 3) [v66] fun H70 =>
 NotNil Tryz.prog (a20 0) (
 AsPtr (a20 0) fun p71 o72 =>
 Ld H70 p71 (Nat.add o72 1) fun v73 =>
 AsInt .i64 v73 fun z74 =>
 K (.bool (eqZ z74 (Int.ofNat 3))) H70)))))))))) (
 Cd (eqN i22 0) (
 NotNil Tryz.prog (a20 0) (
 AsPtr (a20 0) fun p75 o76 =>
 Ld H21 p75 (Nat.add o76 1) fun v77 =>
 AsInt .i64 v77 fun z78 =>
 K (.bool (eqZ z78 (Int.ofNat 3))) H21)) (
 False)))
 (fun a20 H21 =>
 K (a20 4) H21)))))) (
 AsInt .i64 v1 fun z79 =>
 Cd (eqZ z79 (Int.ofNat 1)) (
 Ld H p 3 fun v80 =>
 Call1 Tryz.prog con 96 [v80,(ptr v 0)] H fun v81 H82 =>
 AsBool v81 fun b83 =>
 Cd b83 (
 St H82 p 1 [(iN (2))] fun H84 =>
 Ld H84 p 1 fun v85 =>
 AsInt .i64 v85 fun z86 =>
 K (.bool (eqZ z86 (Int.ofNat 3))) H84) (
 Ld H82 p 1 fun v87 =>
 AsInt .i64 v87 fun z88 =>
 K (.bool (eqZ z88 (Int.ofNat 3))) H82)) (
 AsInt .i64 v1 fun z89 =>
 Cd (eqZ z89 (Int.ofNat 2)) (
 Ld H p 2 fun v90 =>
 Call1 Tryz.prog con 97 [(ptr v 0),v90] H fun v91 H92 =>
 AsNat .u64 v91 fun n93 =>
 Cd (eqN n93 1) (
 Call1 Tryz.prog con 94 [(ptr p 0),(.bool true),(iN (0))] H92 fun v94 H95 =>
 K v94 H95) (
 AsNat .u64 v91 fun n96 =>
 Cd (eqN n96 3) (
 Call1 Tryz.prog con 94 [(ptr p 0),(.bool false),(iN (30))] H92 fun v97 H98 =>
 K v97 H98) (
 Call1 Tryz.prog con 94 [(ptr p 0),(.bool false),(iN (0))] H92 fun v99 H100 =>
 K v99 H100))) (
 Ld H p 1 fun v101 =>
 AsInt .i64 v101 fun z102 =>
 K (.bool (eqZ z102 (Int.ofNat 3))) H)))) := by kernel_rfl
theorem multiStepA_W (con : CallT) (a : TF) (H : CH) (K : KX) : codeW (lpAt Tryz.prog 92 0) Tryz.prog con a H K =
 (AsInt .i64 (a 46) fun z1 =>
 AsInt .i64 (a 45) fun z2 =>
 Cd (ltZ z1 z2) (
 AsSlc (a 44) fun p3 o4 l5 c6 =>
 AsCnt (a 46) fun n7 =>
 Must (ltN n7 l5) (
 Ld H p3 (Nat.add (Nat.add o4 (Nat.mul n7 3)) 0) fun v8 =>
 Ld H p3 (Nat.add (Nat.add o4 (Nat.mul n7 3)) 1) fun v9 =>
 Ld H p3 (Nat.add (Nat.add o4 (Nat.mul n7 3)) 2) fun v10 =>
 Nw H (mkRow 142 0 [(u64 (0)),(u64 (0)),(u64 (0))]) fun p11 H12 =>
 St H12 p11 0 [v8,v9,v10] fun H13 =>
 Ld H13 p11 0 fun v14 =>
 Ld H13 p11 1 fun v15 =>
 AsNat .u64 v15 fun n16 =>
 Ld H13 p11 2 fun v17 =>
 AsNat .u64 v17 fun n18 =>
 Sc v14 (Nw H13 (mkRow 23 0 [v14,(u64 ((Nat.mod (Nat.mul 4 n16) 18446744073709551616))),(u64 ((Nat.mod (Nat.mul 4 n18) 18446744073709551616)))]) fun p19 H20 =>
 App Tryz.prog 22 22 H20 (a 6) (.slice (some ⟨p19,0,none⟩) 3 3) fun v21 H22 =>
 AsInt .i64 (a 46) fun z23 =>
 InR (Int.add z23 (Int.ofNat 1)) (
 K .normal (upd (upd (upd (upd (upd (upd (upd (upd (upd (upd (upd (upd (upd (upd (upd (upd (upd (upd a 47 (.bool (ltZ z1 z2))) 48 (ptr p3 (Nat.add o4 (Nat.mul n7 3)))) 49 (.agg ⟨[v8,v9,v10]⟩)) 8 (ptr p11 0)) 50 (a 6)) 51 (ptr p11 0)) 52 v14) 53 (ptr p11 1)) 54 v15) 55 (u64 ((Nat.mod (Nat.mul 4 n16) 18446744073709551616)))) 56 (ptr p11 2)) 57 v17) 58 (u64 ((Nat.mod (Nat.mul 4 n18) 18446744073709551616)))) 59 (.slice (some ⟨p19,0,none⟩) 3 3)) 60 v21) 6 v21) 61 (i64 (Int.add z23 (Int.ofNat 1)))) 46 (i64 (Int.add z23 (Int.ofNat 1)))) H22)))) (
 K (.exit 1) (upd a 47 (.bool (ltZ z1 z2))) H)) := by kernel_rfl
theorem multiWrong_W (con : CallT) (p : Nat) (H : CH) (K : KP) : funW Tryz.prog con 93 [ptr p 0] H K =
 (Ld H p 0 fun v1 =>
 AsLen v1 fun l2 =>
 Cd (ltZ (Int.ofNat 16) (Int.ofNat l2)) (
 K (iN (6)) H) (
 Ld H p 0 fun v3 =>
 Call1 Tryz.prog con 100 [v3,(.func (.func 98) ⟨[]⟩ ⟨[]⟩)] H fun v4 H5 =>
 Ld H5 p 0 fun v6 =>
 AsLen v6 fun l7 =>
 LoopC Tryz.prog con (lpAt Tryz.prog 93 0) (upd (upd (upd (upd (upd (upd (upd (upd (upd (upd (upd (upd (upd (upd (upd (upd (upd (upd (upd (upd (upd (upd (fun _ => undV) 0 (ptr p 0)) 2 (iN (0))) 7 (ptr p 0)) 8 (ptr p 0)) 9 (ptr p 0)) 10 v1) 11 (iN (l2))) 12 (.bool (ltZ (Int.ofNat 16) (Int.ofNat l2)))) 3 (.func (.func 98) ⟨[]⟩ ⟨[]⟩)) 13 (ptr p 0)) 14 (ptr p 0)) 15 (ptr p 0)) 16 v3) 17 (.func (.func 98) ⟨[]⟩ ⟨[]⟩)) 18 v4) 4 (.bool false)) 19 (ptr p 0)) 20 (ptr p 0)) 21 (ptr p 0)) 22 v6) 23 (iN (l7))) 24 (iN (0))) H5 (fun e => ceP e
 (fun a8 H9 =>
 AsBool (a8 4) fun b11 =>
 Cd b11 (
 K (iN (5)) H9) (
 K (iN (0)) H9))
 (fun i10 => fun a8 H9 =>
 Cd (eqN i10 0) (
 AsBool (a8 4) fun b12 =>
 Cd b12 (
 K (iN (5)) H9) (
 K (iN (0)) H9)) (
 False))
 (fun a8 H9 =>
 K (a8 2) H9)))) := by kernel_rfl
theorem multiWrongL_W (con : CallT) (a : TF) (H : CH) (K : KX) : codeW (lpAt Tryz.prog 93 0) Tryz.prog con a H K =
 (AsInt .i64 (a 24) fun z1 =>
 AsInt .i64 (a 23) fun z2 =>
 Cd (ltZ z1 z2) (
 AsSlc (a 22) fun p3 o4 l5 c6 =>
 AsCnt (a 24) fun n7 =>
 Must (ltN n7 l5) (
 Ld H p3 (Nat.add (Nat.add o4 (Nat.mul n7 3)) 0) fun v8 =>
 Ld H p3 (Nat.add (Nat.add o4 (Nat.mul n7 3)) 1) fun v9 =>
 Ld H p3 (Nat.add (Nat.add o4 (Nat.mul n7 3)) 2) fun v10 =>
 Nw H (mkRow 142 0 [(u64 (0)),(u64 (0)),(u64 (0))]) fun p11 H12 =>
 St H12 p11 0 [v8,v9,v10] fun H13 =>
 Ld H13 p11 0 fun v14 =>
 AsNat .u64 v14 fun n15 =>
 Cd (eqN n15 0) (
 K .ret (upd (upd (upd (upd (upd (upd (upd (upd (upd (upd (upd (upd (upd (upd (upd (upd (upd (upd (upd (upd (upd (upd (upd (upd (upd (upd a 25 (.bool (ltZ z1 z2))) 26 (a 24)) 27 (ptr p3 (Nat.add o4 (Nat.mul n7 3)))) 28 (.agg ⟨[v8,v9,v10]⟩)) 6 (ptr p11 0)) 5 (a 24)) 29 (ptr p11 0)) 30 v14) 31 (.bool (eqN n15 0))) 32 (.bool (eqN n15 0))) 32 (.bool true)) 33 unit) 32 (.bool true)) 34 unit) 32 (.bool true)) 35 unit) 36 (.bool true)) 37 (.bool true)) 37 (.bool true)) 38 unit) 37 (.bool true)) 39 unit) 37 (.bool true)) 40 unit) 41 (.bool true)) 2 (iN (2))) H13) (
 Ld H13 p11 1 fun v16 =>
 AsNat .u64 v16 fun n17 =>
 Cd (leN 4611686018427387904 n17) (
 K .ret (upd (upd (upd (upd (upd (upd (upd (upd (upd (upd (upd (upd (upd (upd (upd (upd (upd (upd (upd (upd (upd (upd (upd (upd (upd (upd a 25 (.bool (ltZ z1 z2))) 26 (a 24)) 27 (ptr p3 (Nat.add o4 (Nat.mul n7 3)))) 28 (.agg ⟨[v8,v9,v10]⟩)) 6 (ptr p11 0)) 5 (a 24)) 29 (ptr p11 0)) 30 v14) 31 (.bool (eqN n15 0))) 32 (.bool (eqN n15 0))) 32 (.bool false)) 33 (ptr p11 1)) 32 (.bool false)) 34 v16) 32 (.bool false)) 35 (.bool (leN 4611686018427387904 n17))) 36 (.bool (leN 4611686018427387904 n17))) 37 (.bool (leN 4611686018427387904 n17))) 37 (.bool true)) 38 unit) 37 (.bool true)) 39 unit) 37 (.bool true)) 40 unit) 41 (.bool true)) 2 (iN (2))) H13) (
 Ld H13 p11 2 fun v18 =>
 AsNat .u64 v18 fun n19 =>
 Cd (leN 4611686018427387904 n19) (
 K .ret (upd (upd (upd (upd (upd (upd (upd (upd (upd (upd (upd (upd (upd (upd (upd (upd (upd (upd (upd (upd (upd (upd (upd (upd (upd (upd a 25 (.bool (ltZ z1 z2))) 26 (a 24)) 27 (ptr p3 (Nat.add o4 (Nat.mul n7 3)))) 28 (.agg ⟨[v8,v9,v10]⟩)) 6 (ptr p11 0)) 5 (a 24)) 29 (ptr p11 0)) 30 v14) 31 (.bool (eqN n15 0))) 32 (.bool (eqN n15 0))) 32 (.bool false)) 33 (ptr p11 1)) 32 (.bool false)) 34 v16) 32 (.bool false)) 35 (.bool (leN 4611686018427387904 n17))) 36 (.bool (leN 4611686018427387904 n17))) 37 (.bool (leN 4611686018427387904 n17))) 37 (.bool false)) 38 (ptr p11 2)) 37 (.bool false)) 39 v18) 37 (.bool false)) 40 (.bool (leN 4611686018427387904 n19))) 41 (.bool (leN 4611686018427387904 n19))) 2 (iN (2))) H13) (
 AsWant (a 4) (False) fun b20 =>
 Cd b20 (
 AsInt .i64 (a 24) fun z21 =>
 InR (Int.add z21 (Int.ofNat 1)) (
 K .normal (upd (upd (upd (upd (upd (upd (upd (upd (upd (upd (upd (upd (upd (upd (upd (upd (upd (upd (upd (upd (upd (upd (upd (upd (upd (upd (upd (upd (upd (upd (upd (upd (upd (upd (upd (upd (upd (upd (upd (upd (upd (upd (upd (upd (upd (upd (upd (upd (upd (upd (upd (upd (upd (upd (upd (upd (upd (upd (upd (upd (upd (upd (upd a 25 (.bool (ltZ z1 z2))) 26 (a 24)) 27 (ptr p3 (Nat.add o4 (Nat.mul n7 3)))) 28 (.agg ⟨[v8,v9,v10]⟩)) 6 (ptr p11 0)) 5 (a 24)) 29 (ptr p11 0)) 30 v14) 31 (.bool (eqN n15 0))) 32 (.bool (eqN n15 0))) 32 (.bool false)) 33 (ptr p11 1)) 32 (.bool false)) 34 v16) 32 (.bool false)) 35 (.bool (leN 4611686018427387904 n17))) 36 (.bool (leN 4611686018427387904 n17))) 37 (.bool (leN 4611686018427387904 n17))) 37 (.bool false)) 38 (ptr p11 2)) 37 (.bool false)) 39 v18) 37 (.bool false)) 40 (.bool (leN 4611686018427387904 n19))) 41 (.bool (leN 4611686018427387904 n19))) 42 (a 4)) 43 (a 4)) 43 (.bool true)) 44 unit) 43 (.bool true)) 45 unit) 43 (.bool true)) 46 unit) 46 unit) 47 unit) 46 unit) 48 unit) 46 unit) 49 unit) 46 unit) 50 unit) 46 unit) 51 unit) 46 unit) 52 unit) 46 unit) 53 unit) 46 unit) 54 unit) 46 unit) 55 unit) 46 unit) 56 unit) 46 unit) 57 unit) 46 unit) 58 unit) 43 (.bool true)) 59 unit) 60 (.bool true)) 4 (.bool true)) 61 (i64 (Int.add z21 (Int.ofNat 1)))) 24 (i64 (Int.add z21 (Int.ofNat 1)))) H13)) (
 AsInt .i64 (a 24) fun z22 =>
 Cd (ltZ (Int.ofNat 0) z22) (
 NotNil Tryz.prog (a 0) (
 AsPtr (a 0) fun p23 o24 =>
 Ld H13 p23 (Nat.add o24 0) fun v25 =>
 AsInt .i64 (a 24) fun z26 =>
 InR (Int.sub z26 (Int.ofNat 1)) (
 AsSlc v25 fun p27 o28 l29 c30 =>
 AsCnt (i64 (Int.sub z26 (Int.ofNat 1))) fun n31 =>
 Must (ltN n31 l29) (
 Ld H13 p27 (Nat.add (Nat.add o28 (Nat.mul n31 3)) 0) fun v32 =>
 Ld H13 p11 0 fun v33 =>
 AsNat .u64 v32 fun n34 =>
 AsNat .u64 v33 fun n35 =>
 AsInt .i64 (a 24) fun z36 =>
 InR (Int.add z36 (Int.ofNat 1)) (
 K .normal (upd (upd (upd (upd (upd (upd (upd (upd (upd (upd (upd (upd (upd (upd (upd (upd (upd (upd (upd (upd (upd (upd (upd (upd (upd (upd (upd (upd (upd (upd (upd (upd (upd (upd (upd (upd (upd (upd (upd (upd (upd (upd (upd (upd (upd (upd (upd (upd (upd (upd (upd (upd (upd (upd (upd (upd (upd (upd (upd (upd (upd (upd (upd a 25 (.bool (ltZ z1 z2))) 26 (a 24)) 27 (ptr p3 (Nat.add o4 (Nat.mul n7 3)))) 28 (.agg ⟨[v8,v9,v10]⟩)) 6 (ptr p11 0)) 5 (a 24)) 29 (ptr p11 0)) 30 v14) 31 (.bool (eqN n15 0))) 32 (.bool (eqN n15 0))) 32 (.bool false)) 33 (ptr p11 1)) 32 (.bool false)) 34 v16) 32 (.bool false)) 35 (.bool (leN 4611686018427387904 n17))) 36 (.bool (leN 4611686018427387904 n17))) 37 (.bool (leN 4611686018427387904 n17))) 37 (.bool false)) 38 (ptr p11 2)) 37 (.bool false)) 39 v18) 37 (.bool false)) 40 (.bool (leN 4611686018427387904 n19))) 41 (.bool (leN 4611686018427387904 n19))) 42 (a 4)) 43 (a 4)) 43 (.bool false)) 44 (a 24)) 43 (.bool false)) 45 (.bool (ltZ (Int.ofNat 0) z22))) 43 (.bool false)) 46 (.bool (ltZ (Int.ofNat 0) z22))) 46 (.bool true)) 47 (a 0)) 46 (.bool true)) 48 (a 0)) 46 (.bool true)) 49 (ptr p23 (Nat.add o24 0))) 46 (.bool true)) 50 v25) 46 (.bool true)) 51 (a 24)) 46 (.bool true)) 52 (i64 (Int.sub z26 (Int.ofNat 1)))) 46 (.bool true)) 53 (ptr p27 (Nat.add o28 (Nat.mul n31 3)))) 46 (.bool true)) 54 (ptr p27 (Nat.add (Nat.add o28 (Nat.mul n31 3)) 0))) 46 (.bool true)) 55 v32) 46 (.bool true)) 56 (ptr p11 0)) 46 (.bool true)) 57 v33) 46 (.bool true)) 58 (.bool (eqN n34 n35))) 43 (.bool false)) 59 (.bool (eqN n34 n35))) 60 (.bool (eqN n34 n35))) 4 (.bool (eqN n34 n35))) 61 (i64 (Int.add z36 (Int.ofNat 1)))) 24 (i64 (Int.add z36 (Int.ofNat 1)))) H13))))) (
 AsInt .i64 (a 24) fun z37 =>
 InR (Int.add z37 (Int.ofNat 1)) (
 K .normal (upd (upd (upd (upd (upd (upd (upd (upd (upd (upd (upd (upd (upd (upd (upd (upd (upd (upd (upd (upd (upd (upd (upd (upd (upd (upd (upd (upd (upd (upd (upd (upd (upd (upd (upd (upd (upd (upd (upd (upd (upd (upd (upd (upd (upd (upd (upd (upd (upd (upd (upd (upd (upd (upd (upd (upd (upd (upd (upd (upd (upd (upd (upd a 25 (.bool (ltZ z1 z2))) 26 (a 24)) 27 (ptr p3 (Nat.add o4 (Nat.mul n7 3)))) 28 (.agg ⟨[v8,v9,v10]⟩)) 6 (ptr p11 0)) 5 (a 24)) 29 (ptr p11 0)) 30 v14) 31 (.bool (eqN n15 0))) 32 (.bool (eqN n15 0))) 32 (.bool false)) 33 (ptr p11 1)) 32 (.bool false)) 34 v16) 32 (.bool false)) 35 (.bool (leN 4611686018427387904 n17))) 36 (.bool (leN 4611686018427387904 n17))) 37 (.bool (leN 4611686018427387904 n17))) 37 (.bool false)) 38 (ptr p11 2)) 37 (.bool false)) 39 v18) 37 (.bool false)) 40 (.bool (leN 4611686018427387904 n19))) 41 (.bool (leN 4611686018427387904 n19))) 42 (a 4)) 43 (a 4)) 43 (.bool false)) 44 (a 24)) 43 (.bool false)) 45 (.bool (ltZ (Int.ofNat 0) z22))) 43 (.bool false)) 46 (.bool (ltZ (Int.ofNat 0) z22))) 46 (.bool false)) 47 unit) 46 (.bool false)) 48 unit) 46 (.bool false)) 49 unit) 46 (.bool false)) 50 unit) 46 (.bool false)) 51 unit) 46 (.bool false)) 52 unit) 46 (.bool false)) 53 unit) 46 (.bool false)) 54 unit) 46 (.bool false)) 55 unit) 46 (.bool false)) 56 unit) 46 (.bool false)) 57 unit) 46 (.bool false)) 58 unit) 43 (.bool false)) 59 (.bool false)) 60 (.bool false)) 4 (.bool false)) 61 (i64 (Int.add z37 (Int.ofNat 1)))) 24 (i64 (Int.add z37 (Int.ofNat 1)))) H13)))))))) (
 K (.exit 0) (upd a 25 (.bool (ltZ z1 z2))) H)) := by kernel_rfl
theorem multiEnd_W (con : CallT) (p : Nat) (b : Bool) (e : Int) (H : CH) (K : KP) : funW Tryz.prog con 94 [ptr p 0,.bool b,i64 e] H K =
 (St H p 1 [(iN (3))] fun H1 =>
 St H1 p 4 [(.bool b)] fun H2 =>
 St H2 p 5 [(i64 e)] fun H3 =>
 K (.bool true) H3) := by kernel_rfl
theorem multiHelp_W (con : CallT) (d : Nat) (H : CH) (K : KP) : funW Tryz.prog con 95 [u64 d] H K =
 (Nw H (mkRow 210 0 [(u64 (d)),(iN (0)),(u64 (0)),(u64 (0)),(u64 (0)),(u64 (0)),(u64 (0)),(u64 (0)),(u64 (0)),(u64 (0)),(.pointer none),(.bool false),(u64 (0))]) fun p1 H2 =>
 Nw H2 (mkRow 208 0 [(ptr p1 0)]) fun p3 H4 =>
 Nw H4 (mkRow 213 0 [(.slice (some ⟨p3,0,none⟩) 1 1)]) fun p5 H6 =>
 K (ptr p5 0) H6) := by kernel_rfl
theorem helperStep_W (con : CallT) (p v : Nat) (H : CH) (K : KP) : funW Tryz.prog con 96 [ptr p 0,ptr v 0] H K =
 (Ld H p 0 fun v1 =>
 AsLen v1 fun l2 =>
 Ld H p 0 fun v3 =>
 InR (Int.sub (Int.ofNat l2) (Int.ofNat 1)) (
 AsSlc v3 fun p4 o5 l6 c7 =>
 AsCnt (i64 (Int.sub (Int.ofNat l2) (Int.ofNat 1))) fun n8 =>
 Must (ltN n8 l6) (
 Ld H p4 (Nat.add o5 (Nat.mul n8 1)) fun v9 =>
 Call1 Tryz.prog con 101 [v9,(ptr v 0)] H fun v10 H11 =>
 NotNil Tryz.prog v9 (
 AsPtr v9 fun p12 o13 =>
 Ld H11 p12 (Nat.add o13 11) fun v14 =>
 AsBool v14 fun b15 =>
 Cd b15 (
 Ld H11 p 0 fun v16 =>
 NotNil Tryz.prog v9 (
 AsPtr v9 fun p17 o18 =>
 Ld H11 p17 (Nat.add o18 12) fun v19 =>
 Sc v19 (Nw H11 (mkRow 210 0 [v19,(iN (0)),(u64 (0)),(u64 (0)),(u64 (0)),(u64 (0)),(u64 (0)),(u64 (0)),(u64 (0)),(u64 (0)),(.pointer none),(.bool false),(u64 (0))]) fun p20 H21 =>
 Nw H21 (mkRow 208 0 [(ptr p20 0)]) fun p22 H23 =>
 App Tryz.prog 211 211 H23 v16 (.slice (some ⟨p22,0,none⟩) 1 1) fun v24 H25 =>
 Sc v24 (St H25 p 0 [v24] fun H26 =>
 Ld H11 p 0 fun v27 =>
 Same v16 v27 (
 Ld H21 p 0 fun v28 =>
 Same v16 v28 (
 Ld H23 p 0 fun v29 =>
 Same v16 v29 (
 NotNil Tryz.prog v9 (
 AsPtr v9 fun p30 o31 =>
 St H26 p30 (Nat.add o31 11) [(.bool false)] fun H32 =>
 NotNil Tryz.prog v9 (
 AsPtr v9 fun p33 o34 =>
 Ld H32 p33 (Nat.add o34 1) fun v35 =>
 AsInt .i64 v35 fun z36 =>
 Cd (eqZ z36 (Int.ofNat 15)) (
 Ld H32 p 0 fun v37 =>
 InR (Int.sub (Int.ofNat l2) (Int.ofNat 1)) (
 InR (Int.sub (Int.ofNat l2) (Int.ofNat 1)) (
 Slc Tryz.prog H32 211 v37 none (some (i64 (Int.sub (Int.ofNat l2) (Int.ofNat 1)))) (some (i64 (Int.sub (Int.ofNat l2) (Int.ofNat 1)))) fun v38 =>
 Sc v38 (St H32 p 0 [v38] fun H39 =>
 Ld H39 p 0 fun v40 =>
 AsLen v40 fun l41 =>
 K (.bool (eqZ (Int.ofNat l41) (Int.ofNat 0))) H39)))) (
 Ld H32 p 0 fun v42 =>
 AsLen v42 fun l43 =>
 K (.bool (eqZ (Int.ofNat l43) (Int.ofNat 0))) H32)))))))))) (
 NotNil Tryz.prog v9 (
 AsPtr v9 fun p44 o45 =>
 Ld H11 p44 (Nat.add o45 1) fun v46 =>
 AsInt .i64 v46 fun z47 =>
 Cd (eqZ z47 (Int.ofNat 15)) (
 Ld H11 p 0 fun v48 =>
 InR (Int.sub (Int.ofNat l2) (Int.ofNat 1)) (
 InR (Int.sub (Int.ofNat l2) (Int.ofNat 1)) (
 Slc Tryz.prog H11 211 v48 none (some (i64 (Int.sub (Int.ofNat l2) (Int.ofNat 1)))) (some (i64 (Int.sub (Int.ofNat l2) (Int.ofNat 1)))) fun v49 =>
 Sc v49 (St H11 p 0 [v49] fun H50 =>
 Ld H50 p 0 fun v51 =>
 AsLen v51 fun l52 =>
 K (.bool (eqZ (Int.ofNat l52) (Int.ofNat 0))) H50)))) (
 Ld H11 p 0 fun v53 =>
 AsLen v53 fun l54 =>
 K (.bool (eqZ (Int.ofNat l54) (Int.ofNat 0))) H11))))))) := by kernel_rfl
theorem mframeStep_W (con : CallT) (p v : Nat) (H : CH) (K : KP) : funW Tryz.prog con 101 [ptr p 0,ptr v 0] H K =
 (Ld H p 1 fun v1 =>
 AsInt .i64 v1 fun z2 =>
 Cd (eqZ z2 (Int.ofNat 0)) (
 Ld H p 0 fun v3 =>
 Call1 Tryz.prog con 97 [(ptr v 0),v3] H fun v4 H5 =>
 Sc v4 (St H5 p 2 [v4] fun H6 =>
 St H6 p 1 [(iN (1))] fun H7 =>
 K unit H7)) (
 AsInt .i64 v1 fun z8 =>
 Cd (eqZ z8 (Int.ofNat 1)) (
 Ld H p 0 fun v9 =>
 AsNat .u64 v9 fun n10 =>
 Call1 Tryz.prog con 97 [(ptr v 0),(u64 ((Nat.mod (Nat.add n10 1) 18446744073709551616)))] H fun v11 H12 =>
 AsNat .u64 v11 fun n13 =>
 St H12 p 3 [(u64 ((Nat.min n13 16)))] fun H14 =>
 St H14 p 1 [(iN (11))] fun H15 =>
 Ld H15 p 2 fun v16 =>
 AsNat .u64 v16 fun n17 =>
 Cd (eqN n17 0) (
 Call1 Tryz.prog con 105 [(ptr p 0),(u64 (0))] H15 fun v18 H19 =>
 K unit H19) (
 K unit H15)) (
 AsInt .i64 v1 fun z20 =>
 Cd (eqZ z20 (Int.ofNat 2)) (
 Call1 Tryz.prog con 106 [(ptr p 0),(u64 (0))] H fun v21 H22 =>
 Call1 Tryz.prog con 97 [(ptr v 0),v21] H22 fun v23 H24 =>
 Sc v23 (St H24 p 5 [v23] fun H25 =>
 St H25 p 1 [(iN (3))] fun H26 =>
 K unit H26)) (
 AsInt .i64 v1 fun z27 =>
 Cd (eqZ z27 (Int.ofNat 3)) (
 Call1 Tryz.prog con 106 [(ptr p 0),(u64 (1))] H fun v28 H29 =>
 Call1 Tryz.prog con 97 [(ptr v 0),v28] H29 fun v30 H31 =>
 Sc v30 (St H31 p 6 [v30] fun H32 =>
 St H32 p 1 [(iN (4))] fun H33 =>
 K unit H33)) (
 AsInt .i64 v1 fun z34 =>
 Cd (eqZ z34 (Int.ofNat 4)) (
 St H p 1 [(iN (5))] fun H35 =>
 Ld H35 p 0 fun v36 =>
 Ld H35 p 5 fun v37 =>
 Ld H35 p 6 fun v38 =>
 Ld H35 p 0 fun v39 =>
 Call1 Tryz.prog con 107 [v39] H35 fun v40 H41 =>
 Sc v36 (Sc v37 (Sc v38 (Sc v40 (Nw H41 (mkRow 23 0 [v36,v37,v38,v40]) fun p42 H43 =>
 Call1 Tryz.prog con 64 [(ptr v 0),(.slice (some ⟨p42,0,none⟩) 4 4)] H43 fun v44 H45 =>
 Sc v44 (St H45 p 7 [v44] fun H46 =>
 Ld H35 p 6 fun v47 =>
 Same v38 v47 (
 Ld H41 p 6 fun v48 =>
 Same v38 v48 (
 Ld H35 p 5 fun v49 =>
 Same v37 v49 (
 Ld H41 p 5 fun v50 =>
 Same v37 v50 (
 Ld H35 p 0 fun v51 =>
 Same v36 v51 (
 Ld H41 p 0 fun v52 =>
 Same v36 v52 (
 Ld H46 p 7 fun v53 =>
 AsNat .u64 v53 fun n54 =>
 Cd (eqN n54 0) (
 St H46 p 9 [(u64 (3))] fun H55 =>
 St H55 p 1 [(iN (10))] fun H56 =>
 K unit H56) (
 K unit H46))))))))))))) (
 AsInt .i64 v1 fun z57 =>
 Cd (eqZ z57 (Int.ofNat 5)) (
 St H p 1 [(iN (8))] fun H58 =>
 Ld H58 p 5 fun v59 =>
 Ld H58 p 6 fun v60 =>
 Ld H58 p 7 fun v61 =>
 Call1 Tryz.prog con 109 [v61] H58 fun v62 H63 =>
 Call1 Tryz.prog con 108 [(ptr v 0),v59,v60,v62] H63 fun v64 H65 =>
 Ld H58 p 6 fun v66 =>
 Same v60 v66 (
 Ld H63 p 6 fun v67 =>
 Same v60 v67 (
 Ld H58 p 5 fun v68 =>
 Same v59 v68 (
 Ld H63 p 5 fun v69 =>
 Same v59 v69 (
 AsBool v64 fun b70 =>
 Cd b70 (
 St H65 p 1 [(iN (6))] fun H71 =>
 K unit H71) (
 K unit H65)))))) (
 AsInt .i64 v1 fun z72 =>
 Cd (eqZ z72 (Int.ofNat 6)) (
 Ld H p 0 fun v73 =>
 Call1 Tryz.prog con 97 [(ptr v 0),v73] H fun v74 H75 =>
 Sc v74 (St H75 p 2 [v74] fun H76 =>
 St H76 p 1 [(iN (7))] fun H77 =>
 K unit H77)) (
 AsInt .i64 v1 fun z78 =>
 Cd (eqZ z78 (Int.ofNat 7)) (
 Ld H p 6 fun v79 =>
 Ld H p 2 fun v80 =>
 AsNat .u64 v80 fun n81 =>
 Cd (eqN n81 0) (
 Ld H p 0 fun v82 =>
 Call1 Tryz.prog con 107 [v82] H fun v83 H84 =>
 Ld H84 p 5 fun v85 =>
 Ld H84 p 7 fun v86 =>
 Call1 Tryz.prog con 109 [v86] H84 fun v87 H88 =>
 Call1 Tryz.prog con 108 [(ptr v 0),v85,v87,v83] H88 fun v89 H90 =>
 Ld H84 p 5 fun v91 =>
 Same v85 v91 (
 Ld H88 p 5 fun v92 =>
 Same v85 v92 (
 Call1 Tryz.prog con 105 [(ptr p 0),(u64 (1))] H90 fun v93 H94 =>
 K unit H94))) (
 Ld H p 5 fun v95 =>
 Ld H p 7 fun v96 =>
 Call1 Tryz.prog con 109 [v96] H fun v97 H98 =>
 Call1 Tryz.prog con 108 [(ptr v 0),v95,v97,v79] H98 fun v99 H100 =>
 Ld H p 5 fun v101 =>
 Same v95 v101 (
 Ld H98 p 5 fun v102 =>
 Same v95 v102 (
 Call1 Tryz.prog con 105 [(ptr p 0),(u64 (1))] H100 fun v103 H104 =>
 K unit H104)))) (
 AsInt .i64 v1 fun z105 =>
 Cd (eqZ z105 (Int.ofNat 8)) (
 Ld H p 5 fun v106 =>
 Call1 Tryz.prog con 97 [(ptr v 0),v106] H fun v107 H108 =>
 Call1 Tryz.prog con 110 [(ptr p 0),v107] H108 fun v109 H110 =>
 K unit H110) (
 AsInt .i64 v1 fun z111 =>
 Cd (eqZ z111 (Int.ofNat 9)) (
 Ld H p 10 fun v112 =>
 Call1 Tryz.prog con 111 [v112,(ptr v 0)] H fun v113 H114 =>
 AsBool v113 fun b115 =>
 Cd b115 (
 St H114 p 1 [(iN (5))] fun H116 =>
 K unit H116) (
 K unit H114)) (
 AsInt .i64 v1 fun z117 =>
 Cd (eqZ z117 (Int.ofNat 10)) (
 Ld H p 0 fun v118 =>
 Ld H p 9 fun v119 =>
 Call1 Tryz.prog con 108 [(ptr v 0),v118,(u64 (0)),v119] H fun v120 H121 =>
 St H121 p 1 [(iN (11))] fun H122 =>
 K unit H122) (
 AsInt .i64 v1 fun z123 =>
 Cd (eqZ z123 (Int.ofNat 11)) (
 Ld H p 0 fun v124 =>
 Call1 Tryz.prog con 97 [(ptr v 0),v124] H fun v125 H126 =>
 Sc v125 (St H126 p 2 [v125] fun H127 =>
 Call1 Tryz.prog con 112 [(ptr p 0),(u64 (0))] H127 fun v128 H129 =>
 K unit H129)) (
 AsInt .i64 v1 fun z130 =>
 Cd (eqZ z130 (Int.ofNat 12)) (
 Call1 Tryz.prog con 106 [(ptr p 0),(u64 (0))] H fun v131 H132 =>
 Call1 Tryz.prog con 97 [(ptr v 0),v131] H132 fun v133 H134 =>
 Sc v133 (St H134 p 5 [v133] fun H135 =>
 St H135 p 1 [(iN (13))] fun H136 =>
 K unit H136)) (
 AsInt .i64 v1 fun z137 =>
 Cd (eqZ z137 (Int.ofNat 13)) (
 Ld H p 2 fun v138 =>
 AsNat .u64 v138 fun n139 =>
 Cd (eqN n139 1) (
 Call1 Tryz.prog con 106 [(ptr p 0),(u64 (2))] H fun v140 H141 =>
 Call1 Tryz.prog con 97 [(ptr v 0),v140] H141 fun v142 H143 =>
 Sc v142 (St H143 p 8 [v142] fun H144 =>
 St H144 p 1 [(iN (14))] fun H145 =>
 K unit H145)) (
 Call1 Tryz.prog con 106 [(ptr p 0),(u64 (1))] H fun v146 H147 =>
 Call1 Tryz.prog con 97 [(ptr v 0),v146] H147 fun v148 H149 =>
 Sc v148 (St H149 p 8 [v148] fun H150 =>
 St H150 p 1 [(iN (14))] fun H151 =>
 K unit H151))) (
 AsInt .i64 v1 fun z152 =>
 Cd (eqZ z152 (Int.ofNat 14)) (
 Ld H p 5 fun v153 =>
 Ld H p 0 fun v154 =>
 Call1 Tryz.prog con 107 [v154] H fun v155 H156 =>
 Ld H156 p 8 fun v157 =>
 Call1 Tryz.prog con 108 [(ptr v 0),v153,v155,v157] H156 fun v158 H159 =>
 Ld H p 8 fun v160 =>
 Same v157 v160 (
 Ld H156 p 8 fun v161 =>
 Same v157 v161 (
 Ld H p 5 fun v162 =>
 Same v153 v162 (
 Ld H156 p 5 fun v163 =>
 Same v153 v163 (
 Ld H159 p 4 fun v164 =>
 AsNat .u64 v164 fun n165 =>
 Call1 Tryz.prog con 112 [(ptr p 0),(u64 ((Nat.mod (Nat.add n165 1) 18446744073709551616)))] H159 fun v166 H167 =>
 K unit H167))))) (
 K unit H)))))))))))))))) := by kernel_rfl
theorem mframeLook_W (con : CallT) (p r : Nat) (H : CH) (K : KP) : funW Tryz.prog con 110 [ptr p 0,u64 r] H K =
 (Cd (eqN (Nat.mod r 4) 1) (
 Nw H (mkRow 230 0 [(u64 (r)),(iN (0)),(u64 (0)),(u64 (0)),(u64 (0)),(u64 (0)),(u64 (0))]) fun p1 H2 =>
 St H2 p 10 [(ptr p1 0)] fun H3 =>
 St H3 p 1 [(iN (9))] fun H4 =>
 K unit H4) (
 Ld H p 6 fun v5 =>
 AsNat .u64 v5 fun n6 =>
 Cd (eqN r n6) (
 St H p 1 [(iN (5))] fun H7 =>
 K unit H7) (
 Ld H p 0 fun v8 =>
 Call1 Tryz.prog con 107 [v8] H fun v9 H10 =>
 AsNat .u64 v9 fun n11 =>
 Cd (eqN r n11) (
 Call1 Tryz.prog con 105 [(ptr p 0),(u64 (1))] H10 fun v12 H13 =>
 K unit H13) (
 Cd (eqN (Nat.mod r 4) 2) (
 St H10 p 11 [(.bool true)] fun H14 =>
 St H14 p 12 [(u64 ((Nat.mod (Nat.div r 4) 18446744073709551616)))] fun H15 =>
 St H15 p 1 [(iN (5))] fun H16 =>
 K unit H16) (
 St H10 p 9 [(u64 (2))] fun H17 =>
 St H17 p 1 [(iN (10))] fun H18 =>
 K unit H18))))) := by kernel_rfl
theorem mframeNext_W (con : CallT) (p b : Nat) (H : CH) (K : KP) : funW Tryz.prog con 105 [ptr p 0,u64 b] H K =
 (Ld H p 4 fun v1 =>
 AsNat .u64 v1 fun n2 =>
 St H p 4 [(u64 ((Nat.mod (Nat.add n2 b) 18446744073709551616)))] fun H3 =>
 St H3 p 1 [(iN (2))] fun H4 =>
 Ld H4 p 4 fun v5 =>
 Ld H4 p 3 fun v6 =>
 AsNat .u64 v5 fun n7 =>
 AsNat .u64 v6 fun n8 =>
 Cd (leN n8 n7) (
 St H4 p 9 [(u64 (1))] fun H9 =>
 St H9 p 1 [(iN (10))] fun H10 =>
 K unit H10) (
 K unit H4)) := by kernel_rfl
theorem mframeClear_W (con : CallT) (p i : Nat) (H : CH) (K : KP) : funW Tryz.prog con 112 [ptr p 0,u64 i] H K =
 (St H p 4 [(u64 (i))] fun H1 =>
 St H1 p 1 [(iN (12))] fun H2 =>
 Ld H2 p 4 fun v3 =>
 Ld H2 p 3 fun v4 =>
 AsNat .u64 v3 fun n5 =>
 AsNat .u64 v4 fun n6 =>
 Cd (leN n6 n5) (
 St H2 p 1 [(iN (15))] fun H7 =>
 K unit H7) (
 K unit H2)) := by kernel_rfl
theorem mframePart_W (con : CallT) (p n : Nat) (H : CH) (K : KP) : funW Tryz.prog con 106 [ptr p 0,u64 n] H K =
 (Ld H p 0 fun v1 =>
 AsNat .u64 v1 fun n2 =>
 Ld H p 4 fun v3 =>
 AsNat .u64 v3 fun n4 =>
 K (u64 ((Nat.mod (Nat.add (Nat.mod (Nat.add (Nat.mod (Nat.add n2 2) 18446744073709551616) (Nat.mod (Nat.mul 3 n4) 18446744073709551616)) 18446744073709551616) n) 18446744073709551616))) H) := by kernel_rfl
theorem settlerStep_W (con : CallT) (p v : Nat) (H : CH) (K : KP) : funW Tryz.prog con 111 [ptr p 0,ptr v 0] H K =
 (Ld H p 0 fun v1 =>
 AsNat .u64 v1 fun n2 =>
 Ld H p 1 fun v3 =>
 AsInt .i64 v3 fun z4 =>
 InR (Int.add z4 (Int.ofNat 1)) (
 St H p 1 [(i64 (Int.add z4 (Int.ofNat 1)))] fun H5 =>
 Ld H5 p 1 fun v6 =>
 AsInt .i64 v6 fun z7 =>
 Cd (eqZ z7 (Int.ofNat 1)) (
 Call1 Tryz.prog con 97 [(ptr v 0),(u64 ((Nat.mod (Nat.div n2 4) 18446744073709551616)))] H5 fun v8 H9 =>
 Sc v8 (St H9 p 2 [v8] fun H10 =>
 K (.bool false) H10)) (
 AsInt .i64 v6 fun z11 =>
 Cd (eqZ z11 (Int.ofNat 2)) (
 Call1 Tryz.prog con 97 [(ptr v 0),(u64 ((Nat.mod (Nat.add (Nat.mod (Nat.div n2 4) 18446744073709551616) 1) 18446744073709551616)))] H5 fun v12 H13 =>
 Sc v12 (St H13 p 3 [v12] fun H14 =>
 K (.bool false) H14)) (
 AsInt .i64 v6 fun z15 =>
 Cd (eqZ z15 (Int.ofNat 3)) (
 Call1 Tryz.prog con 97 [(ptr v 0),(u64 ((Nat.mod (Nat.add (Nat.mod (Nat.div n2 4) 18446744073709551616) 2) 18446744073709551616)))] H5 fun v16 H17 =>
 Sc v16 (St H17 p 4 [v16] fun H18 =>
 K (.bool false) H18)) (
 AsInt .i64 v6 fun z19 =>
 Cd (eqZ z19 (Int.ofNat 4)) (
 Call1 Tryz.prog con 97 [(ptr v 0),(u64 ((Nat.mod (Nat.add (Nat.mod (Nat.div n2 4) 18446744073709551616) 3) 18446744073709551616)))] H5 fun v20 H21 =>
 Sc v20 (St H21 p 5 [v20] fun H22 =>
 K (.bool false) H22)) (
 AsInt .i64 v6 fun z23 =>
 Cd (eqZ z23 (Int.ofNat 5)) (
 Ld H5 p 2 fun v24 =>
 Call1 Tryz.prog con 97 [(ptr v 0),v24] H5 fun v25 H26 =>
 Sc v25 (St H26 p 6 [v25] fun H27 =>
 K (.bool false) H27)) (
 Ld H5 p 4 fun v28 =>
 Ld H5 p 6 fun v29 =>
 AsNat .u64 v29 fun n30 =>
 Cd (eqN n30 0) (
 Ld H5 p 5 fun v31 =>
 Ld H5 p 3 fun v32 =>
 Ld H5 p 0 fun v33 =>
 Call1 Tryz.prog con 108 [(ptr v 0),v32,v33,v31] H5 fun v34 H35 =>
 K (.bool true) H35) (
 Ld H5 p 3 fun v36 =>
 Ld H5 p 0 fun v37 =>
 Call1 Tryz.prog con 108 [(ptr v 0),v36,v37,v28] H5 fun v38 H39 =>
 K (.bool true) H39)))))))) := by kernel_rfl
theorem lockWord_W (con : CallT) (x : Nat) (H : CH) (K : KP) : funW Tryz.prog con 109 [u64 x] H K =
 (K (u64 ((Nat.mod (Nat.add (Nat.mod (Nat.mul 4 x) 18446744073709551616) 1) 18446744073709551616))) H) := by kernel_rfl
theorem planWord_W (con : CallT) (x : Nat) (H : CH) (K : KP) : funW Tryz.prog con 107 [u64 x] H K =
 (K (u64 ((Nat.mod (Nat.add (Nat.mod (Nat.mul 4 x) 18446744073709551616) 2) 18446744073709551616))) H) := by kernel_rfl
theorem readStep_W (con : CallT) (p v : Nat) (H : CH) (K : KP) : funW Tryz.prog con 129 [ptr p 0,ptr v 0] H K =
 (Ld H p 3 fun v1 =>
 AsBool v1 fun b2 =>
 Cd b2 (
 K (.bool true) H) (
 Ld H p 1 fun v3 =>
 IsNil .ptr v3 fun b4 =>
 Cd (notB b4) (
 Ld H p 1 fun v5 =>
 Call1 Tryz.prog con 111 [v5,(ptr v 0)] H fun v6 H7 =>
 AsBool v6 fun b8 =>
 Cd b8 (
 St H7 p 1 [(.pointer none)] fun H9 =>
 K (.bool false) H9) (
 K (.bool false) H7)) (
 Ld H p 2 fun v10 =>
 IsNil .ptr v10 fun b11 =>
 Cd (notB b11) (
 Ld H p 2 fun v12 =>
 Call1 Tryz.prog con 96 [v12,(ptr v 0)] H fun v13 H14 =>
 AsBool v13 fun b15 =>
 Cd b15 (
 St H14 p 2 [(.pointer none)] fun H16 =>
 K (.bool false) H16) (
 K (.bool false) H14)) (
 Ld H p 0 fun v17 =>
 Call1 Tryz.prog con 97 [(ptr v 0),v17] H fun v18 H19 =>
 AsNat .u64 v18 fun n20 =>
 Cd (eqN (Nat.mod n20 4) 1) (
 Sc v18 (Nw H19 (mkRow 230 0 [v18,(iN (0)),(u64 (0)),(u64 (0)),(u64 (0)),(u64 (0)),(u64 (0))]) fun p21 H22 =>
 St H22 p 1 [(ptr p21 0)] fun H23 =>
 Ld H23 p 3 fun v24 =>
 K v24 H23)) (
 Cd (eqN (Nat.mod n20 4) 2) (
 AsNat .u64 v18 fun n25 =>
 Call1 Tryz.prog con 95 [(u64 ((Nat.mod (Nat.div n25 4) 18446744073709551616)))] H19 fun v26 H27 =>
 Sc v26 (St H27 p 2 [v26] fun H28 =>
 Ld H28 p 3 fun v29 =>
 K v29 H28)) (
 AsNat .u64 v18 fun n30 =>
 St H19 p 4 [(u64 ((Nat.mod (Nat.div n30 4) 18446744073709551616)))] fun H31 =>
 St H31 p 3 [(.bool true)] fun H32 =>
 Ld H32 p 3 fun v33 =>
 K v33 H32)))))) := by kernel_rfl
theorem rMultiStep_W (con : CallT) (p m : Nat) (t : Int) (H : CH) (K : KP) : funW Tryz.prog con 13 [ptr p 0,ptr m 0,i64 t] H K =
 (Ld H p 0 fun v1 =>
 AsInt .i64 v1 fun z2 =>
 Cd (eqZ z2 (Int.ofNat 0)) (
 Ld H p 1 fun v3 =>
 Call1 Tryz.prog con 42 [v3] H fun v4 H5 =>
 Sc v4 (St H5 p 5 [v4] fun H6 =>
 Ld H6 p 5 fun v7 =>
 AsInt .i64 v7 fun z8 =>
 Cd (notB (eqZ z8 (Int.ofNat 0))) (
 Ld H6 p 5 fun v9 =>
 AsInt .i64 v9 fun z10 =>
 St H6 p 4 [(.bool (eqZ z10 (Int.ofNat 0)))] fun H11 =>
 St H11 p 0 [(iN (3))] fun H12 =>
 K (.bool true) H12) (
 Ld H6 p 1 fun v13 =>
 AsLen v13 fun l14 =>
 Cd (eqZ (Int.ofNat l14) (Int.ofNat 0)) (
 Ld H6 p 5 fun v15 =>
 AsInt .i64 v15 fun z16 =>
 St H6 p 4 [(.bool (eqZ z16 (Int.ofNat 0)))] fun H17 =>
 St H17 p 0 [(iN (3))] fun H18 =>
 K (.bool true) H18) (
 Ld H6 p 1 fun v19 =>
 Call1 Tryz.prog con 44 [v19] H6 fun v20 H21 =>
 Call1 Tryz.prog con 43 [(ptr m 0),(i64 t),v20] H21 fun v22 H23 =>
 Sc v22 (St H23 p 2 [v22] fun H24 =>
 Ld H24 p 2 fun v25 =>
 Sc v25 (Nw H24 (mkRow 132 0 [(iN (0)),v25,(u64 (0)),(u64 (0)),(u64 (0)),(u64 (0)),(u64 (0)),(u64 (0)),(u64 (0)),(u64 (0)),(iN (0)),(u64 (0)),(u64 (0)),(u64 (0)),(u64 (0)),(u64 (0))]) fun p26 H27 =>
 St H27 p 3 [(.slice (some ⟨p26,0,none⟩) 1 1)] fun H28 =>
 St H28 p 0 [(iN (1))] fun H29 =>
 Ld H29 p 2 fun v30 =>
 AsNat .u64 v30 fun n31 =>
 Cd (eqN n31 0) (
 St H29 p 5 [(iN (30))] fun H32 =>
 St H32 p 0 [(iN (3))] fun H33 =>
 Ld H33 p 0 fun v34 =>
 AsInt .i64 v34 fun z35 =>
 K (.bool (eqZ z35 (Int.ofNat 3))) H33) (
 Ld H29 p 0 fun v36 =>
 AsInt .i64 v36 fun z37 =>
 K (.bool (eqZ z37 (Int.ofNat 3))) H29))))))) (
 AsInt .i64 v1 fun z38 =>
 Cd (eqZ z38 (Int.ofNat 1)) (
 Call1 Tryz.prog con 41 [(ptr p 3),(ptr m 0),(i64 t)] H fun v39 H40 =>
 AsBool v39 fun b41 =>
 Cd b41 (
 St H40 p 0 [(iN (2))] fun H42 =>
 Ld H42 p 0 fun v43 =>
 AsInt .i64 v43 fun z44 =>
 K (.bool (eqZ z44 (Int.ofNat 3))) H42) (
 Ld H40 p 0 fun v45 =>
 AsInt .i64 v45 fun z46 =>
 K (.bool (eqZ z46 (Int.ofNat 3))) H40)) (
 AsInt .i64 v1 fun z47 =>
 Cd (eqZ z47 (Int.ofNat 2)) (
 Ld H p 2 fun v48 =>
 Call1 Tryz.prog con 37 [(ptr m 0),(i64 t),v48] H fun v49 H50 =>
 AsNat .u64 v49 fun n51 =>
 St H50 p 4 [(.bool (eqN n51 1))] fun H52 =>
 AsNat .u64 v49 fun n53 =>
 Cd (eqN n53 3) (
 St H52 p 5 [(iN (30))] fun H54 =>
 St H54 p 0 [(iN (3))] fun H55 =>
 Ld H55 p 0 fun v56 =>
 AsInt .i64 v56 fun z57 =>
 K (.bool (eqZ z57 (Int.ofNat 3))) H55) (
 St H52 p 0 [(iN (3))] fun H58 =>
 Ld H58 p 0 fun v59 =>
 AsInt .i64 v59 fun z60 =>
 K (.bool (eqZ z60 (Int.ofNat 3))) H58)) (
 Ld H p 0 fun v61 =>
 AsInt .i64 v61 fun z62 =>
 K (.bool (eqZ z62 (Int.ofNat 3))) H)))) := by kernel_rfl
theorem rReadStep_W (con : CallT) (p m : Nat) (t : Int) (H : CH) (K : KP) : funW Tryz.prog con 12 [ptr p 0,ptr m 0,i64 t] H K =
 (Ld H p 0 fun v1 =>
 AsInt .i64 v1 fun z2 =>
 Cd (eqZ z2 (Int.ofNat 0)) (
 Ld H p 1 fun v3 =>
 Call1 Tryz.prog con 37 [(ptr m 0),(i64 t),v3] H fun v4 H5 =>
 Call1 Tryz.prog con 38 [v4] H5 fun v6 H7 =>
 AsBool v6 fun b8 =>
 Cd b8 (
 Sc v4 (St H7 p 2 [(iN (0)),v4,(u64 (0)),(u64 (0)),(u64 (0)),(u64 (0))] fun H9 =>
 St H9 p 0 [(iN (1))] fun H10 =>
 Ld H10 p 0 fun v11 =>
 AsInt .i64 v11 fun z12 =>
 K (.bool (eqZ z12 (Int.ofNat 3))) H10)) (
 Call1 Tryz.prog con 39 [v4] H7 fun v13 H14 =>
 AsBool v13 fun b15 =>
 Cd b15 (
 AsNat .u64 v4 fun n16 =>
 Nw H14 (mkRow 132 0 [(iN (0)),(u64 ((Nat.mod (Nat.div n16 4) 18446744073709551616))),(u64 (0)),(u64 (0)),(u64 (0)),(u64 (0)),(u64 (0)),(u64 (0)),(u64 (0)),(u64 (0)),(iN (0)),(u64 (0)),(u64 (0)),(u64 (0)),(u64 (0)),(u64 (0))]) fun p17 H18 =>
 St H18 p 8 [(.slice (some ⟨p17,0,none⟩) 1 1)] fun H19 =>
 St H19 p 0 [(iN (2))] fun H20 =>
 Ld H20 p 0 fun v21 =>
 AsInt .i64 v21 fun z22 =>
 K (.bool (eqZ z22 (Int.ofNat 3))) H20) (
 AsNat .u64 v4 fun n23 =>
 St H14 p 9 [(u64 ((Nat.mod (Nat.div n23 4) 18446744073709551616)))] fun H24 =>
 St H24 p 0 [(iN (3))] fun H25 =>
 Ld H25 p 0 fun v26 =>
 AsInt .i64 v26 fun z27 =>
 K (.bool (eqZ z27 (Int.ofNat 3))) H25))) (
 AsInt .i64 v1 fun z28 =>
 Cd (eqZ z28 (Int.ofNat 1)) (
 Call1 Tryz.prog con 40 [(ptr p 2),(ptr m 0),(i64 t)] H fun v29 H30 =>
 AsBool v29 fun b31 =>
 Cd b31 (
 St H30 p 0 [(iN (0))] fun H32 =>
 Ld H32 p 0 fun v33 =>
 AsInt .i64 v33 fun z34 =>
 K (.bool (eqZ z34 (Int.ofNat 3))) H32) (
 Ld H30 p 0 fun v35 =>
 AsInt .i64 v35 fun z36 =>
 K (.bool (eqZ z36 (Int.ofNat 3))) H30)) (
 AsInt .i64 v1 fun z37 =>
 Cd (eqZ z37 (Int.ofNat 2)) (
 Call1 Tryz.prog con 41 [(ptr p 8),(ptr m 0),(i64 t)] H fun v38 H39 =>
 AsBool v38 fun b40 =>
 Cd b40 (
 St H39 p 0 [(iN (0))] fun H41 =>
 Ld H41 p 0 fun v42 =>
 AsInt .i64 v42 fun z43 =>
 K (.bool (eqZ z43 (Int.ofNat 3))) H41) (
 Ld H39 p 0 fun v44 =>
 AsInt .i64 v44 fun z45 =>
 K (.bool (eqZ z45 (Int.ofNat 3))) H39)) (
 Ld H p 0 fun v46 =>
 AsInt .i64 v46 fun z47 =>
 K (.bool (eqZ z47 (Int.ofNat 3))) H)))) := by kernel_rfl
theorem rHelpStep_W (con : CallT) (p o m : Nat) (t : Int) (H : CH) (K : KP) : funW Tryz.prog con 41 [ptr p o,ptr m 0,i64 t] H K =
 (Ld H p (Nat.add o 0) fun v1 =>
 AsLen v1 fun l2 =>
 InR (Int.sub (Int.ofNat l2) (Int.ofNat 1)) (
 Ld H p (Nat.add o 0) fun v3 =>
 AsSlc v3 fun p4 o5 l6 c7 =>
 AsCnt (i64 (Int.sub (Int.ofNat l2) (Int.ofNat 1))) fun n8 =>
 Must (ltN n8 l6) (
 Call1 Tryz.prog con 61 [(ptr p4 (Nat.add o5 (Nat.mul n8 16))),(ptr m 0),(i64 t)] H fun v9 H10 =>
 AsTup v9 fun l11 =>
 Nth l11 0 fun v12 =>
 AsTup v9 fun l13 =>
 Nth l13 1 fun v14 =>
 AsBool v14 fun b15 =>
 Cd b15 (
 Ld H10 p (Nat.add o 0) fun v16 =>
 Sc v12 (Nw H10 (mkRow 132 0 [(iN (0)),v12,(u64 (0)),(u64 (0)),(u64 (0)),(u64 (0)),(u64 (0)),(u64 (0)),(u64 (0)),(u64 (0)),(iN (0)),(u64 (0)),(u64 (0)),(u64 (0)),(u64 (0)),(u64 (0))]) fun p17 H18 =>
 App Tryz.prog 47 47 H18 v16 (.slice (some ⟨p17,0,none⟩) 1 1) fun v19 H20 =>
 Sc v19 (St H20 p (Nat.add o 0) [v19] fun H21 =>
 K (.bool false) H21))) (
 LoopC Tryz.prog con (lpAt Tryz.prog 41 0) (upd (upd (upd (upd (upd (upd (upd (upd (upd (upd (upd (upd (upd (upd (upd (upd (upd (upd (upd (upd (upd (upd (upd (upd (upd (upd (fun _ => undV) 2 (i64 t)) 1 (ptr m 0)) 0 (ptr p o)) 6 (.bool false)) 10 (ptr p o)) 11 (ptr p o)) 12 (ptr p (Nat.add o 0))) 13 v1) 14 (iN (l2))) 15 (i64 (Int.sub (Int.ofNat l2) (Int.ofNat 1)))) 7 (i64 (Int.sub (Int.ofNat l2) (Int.ofNat 1)))) 17 (ptr p o)) 18 (ptr p o)) 19 (ptr p (Nat.add o 0))) 20 v3) 21 (i64 (Int.sub (Int.ofNat l2) (Int.ofNat 1)))) 22 (ptr p4 (Nat.add o5 (Nat.mul n8 16)))) 23 (ptr m 0)) 24 (i64 t)) 25 v9) 16 v9) 26 v12) 27 v14) 8 v12) 9 v14) 28 v14) H10 (fun e => ceP e
 (fun a22 H23 =>
 AsInt .i64 (a22 7) fun z25 =>
 K (.bool (ltZ z25 (Int.ofNat 0))) H23)
 (fun i24 => fun a22 H23 =>
 Cd (eqN i24 0) (
 AsInt .i64 (a22 7) fun z26 =>
 K (.bool (ltZ z26 (Int.ofNat 0))) H23) (
 False))
 (fun a22 H23 =>
 K (a22 6) H23)))))) := by kernel_rfl
theorem rHelpStepL_W (con : CallT) (a : TF) (H : CH) (K : KX) : codeW (lpAt Tryz.prog 41 0) Tryz.prog con a H K =
 (AsInt .i64 (a 7) fun z1 =>
 Cd (leZ (Int.ofNat 0) z1) (
 NotNil Tryz.prog (a 0) (
 AsPtr (a 0) fun p2 o3 =>
 Ld H p2 (Nat.add o3 0) fun v4 =>
 AsSlc v4 fun p5 o6 l7 c8 =>
 AsCnt (a 7) fun n9 =>
 Must (ltN n9 l7) (
 Ld H p5 (Nat.add (Nat.add o6 (Nat.mul n9 16)) 0) fun v10 =>
 AsInt .i64 v10 fun z11 =>
 Cd (eqZ z11 (Int.ofNat 15)) (
 NotNil Tryz.prog (a 0) (
 AsPtr (a 0) fun p12 o13 =>
 Ld H p12 (Nat.add o13 0) fun v14 =>
 Slc Tryz.prog H 47 v14 none (some (a 7)) none fun v15 =>
 NotNil Tryz.prog (a 0) (
 AsPtr (a 0) fun p16 o17 =>
 Sc v15 (St H p16 (Nat.add o17 0) [v15] fun H18 =>
 AsInt .i64 (a 7) fun z19 =>
 InR (Int.sub z19 (Int.ofNat 1)) (
 K .normal (upd (upd (upd (upd (upd (upd (upd (upd (upd (upd (upd (upd (upd (upd (upd (upd (upd (upd (upd (upd (upd (upd (upd (upd (upd (upd (upd (upd (upd (upd (upd (upd (upd (upd a 40 (a 7)) 41 (.bool (leZ (Int.ofNat 0) z1))) 42 (.bool (leZ (Int.ofNat 0) z1))) 42 (.bool true)) 43 (a 0)) 42 (.bool true)) 44 (a 0)) 42 (.bool true)) 45 (ptr p2 (Nat.add o3 0))) 42 (.bool true)) 46 v4) 42 (.bool true)) 47 (a 7)) 42 (.bool true)) 48 (ptr p5 (Nat.add o6 (Nat.mul n9 16)))) 42 (.bool true)) 49 (ptr p5 (Nat.add (Nat.add o6 (Nat.mul n9 16)) 0))) 42 (.bool true)) 50 v10) 42 (.bool true)) 51 (.bool (eqZ z11 (Int.ofNat 15)))) 52 (.bool (eqZ z11 (Int.ofNat 15)))) 53 (a 0)) 54 (a 0)) 55 (a 0)) 56 (ptr p12 (Nat.add o13 0))) 57 v14) 58 (a 7)) 59 v15) 60 (a 0)) 61 (ptr p16 (Nat.add o17 0))) 62 (a 7)) 63 (i64 (Int.sub z19 (Int.ofNat 1)))) 7 (i64 (Int.sub z19 (Int.ofNat 1)))) H18))))) (
 K (.exit 0) (upd (upd (upd (upd (upd (upd (upd (upd (upd (upd (upd (upd (upd (upd (upd (upd (upd (upd (upd (upd (upd (upd a 40 (a 7)) 41 (.bool (leZ (Int.ofNat 0) z1))) 42 (.bool (leZ (Int.ofNat 0) z1))) 42 (.bool true)) 43 (a 0)) 42 (.bool true)) 44 (a 0)) 42 (.bool true)) 45 (ptr p2 (Nat.add o3 0))) 42 (.bool true)) 46 v4) 42 (.bool true)) 47 (a 7)) 42 (.bool true)) 48 (ptr p5 (Nat.add o6 (Nat.mul n9 16)))) 42 (.bool true)) 49 (ptr p5 (Nat.add (Nat.add o6 (Nat.mul n9 16)) 0))) 42 (.bool true)) 50 v10) 42 (.bool true)) 51 (.bool (eqZ z11 (Int.ofNat 15)))) 52 (.bool (eqZ z11 (Int.ofNat 15)))) H)))) (
 K (.exit 0) (upd (upd (upd (upd (upd (upd (upd (upd (upd (upd (upd (upd (upd (upd (upd (upd (upd (upd (upd (upd (upd (upd a 40 (a 7)) 41 (.bool (leZ (Int.ofNat 0) z1))) 42 (.bool (leZ (Int.ofNat 0) z1))) 42 (.bool false)) 43 unit) 42 (.bool false)) 44 unit) 42 (.bool false)) 45 unit) 42 (.bool false)) 46 unit) 42 (.bool false)) 47 unit) 42 (.bool false)) 48 unit) 42 (.bool false)) 49 unit) 42 (.bool false)) 50 unit) 42 (.bool false)) 51 unit) 52 (.bool false)) H)) := by kernel_rfl
theorem rFrameStep_W (con : CallT) (p o m : Nat) (t : Int) (H : CH) (K : KP) : funW Tryz.prog con 61 [ptr p o,ptr m 0,i64 t] H K =
 (Ld H p (Nat.add o 0) fun v1 =>
 AsInt .i64 v1 fun z2 =>
 Cd (eqZ z2 (Int.ofNat 0)) (
 Ld H p (Nat.add o 1) fun v3 =>
 Call1 Tryz.prog con 37 [(ptr m 0),(i64 t),v3] H fun v4 H5 =>
 Sc v4 (St H5 p (Nat.add o 2) [v4] fun H6 =>
 St H6 p (Nat.add o 0) [(iN (1))] fun H7 =>
 K (.tuple ⟨[(u64 (0)),(.bool false)]⟩) H7)) (
 AsInt .i64 v1 fun z8 =>
 Cd (eqZ z8 (Int.ofNat 1)) (
 Ld H p (Nat.add o 1) fun v9 =>
 AsNat .u64 v9 fun n10 =>
 Call1 Tryz.prog con 37 [(ptr m 0),(i64 t),(u64 ((Nat.mod (Nat.add n10 1) 18446744073709551616)))] H fun v11 H12 =>
 Sc v11 (St H12 p (Nat.add o 3) [v11] fun H13 =>
 Ld H13 p (Nat.add o 3) fun v14 =>
 AsNat .u64 v14 fun n15 =>
 Cd (ltN 16 n15) (
 St H13 p (Nat.add o 3) [(u64 (16))] fun H16 =>
 St H16 p (Nat.add o 4) [(u64 (0))] fun H17 =>
 St H17 p (Nat.add o 0) [(iN (2))] fun H18 =>
 Ld H18 p (Nat.add o 2) fun v19 =>
 AsNat .u64 v19 fun n20 =>
 Cd (notB (eqN n20 0)) (
 St H18 p (Nat.add o 0) [(iN (11))] fun H21 =>
 K (.tuple ⟨[(u64 (0)),(.bool false)]⟩) H21) (
 Ld H18 p (Nat.add o 3) fun v22 =>
 AsNat .u64 v22 fun n23 =>
 Cd (eqN n23 0) (
 St H18 p (Nat.add o 9) [(u64 (1))] fun H24 =>
 St H24 p (Nat.add o 0) [(iN (10))] fun H25 =>
 K (.tuple ⟨[(u64 (0)),(.bool false)]⟩) H25) (
 K (.tuple ⟨[(u64 (0)),(.bool false)]⟩) H18))) (
 St H13 p (Nat.add o 4) [(u64 (0))] fun H26 =>
 St H26 p (Nat.add o 0) [(iN (2))] fun H27 =>
 Ld H27 p (Nat.add o 2) fun v28 =>
 AsNat .u64 v28 fun n29 =>
 Cd (notB (eqN n29 0)) (
 St H27 p (Nat.add o 0) [(iN (11))] fun H30 =>
 K (.tuple ⟨[(u64 (0)),(.bool false)]⟩) H30) (
 Ld H27 p (Nat.add o 3) fun v31 =>
 AsNat .u64 v31 fun n32 =>
 Cd (eqN n32 0) (
 St H27 p (Nat.add o 9) [(u64 (1))] fun H33 =>
 St H33 p (Nat.add o 0) [(iN (10))] fun H34 =>
 K (.tuple ⟨[(u64 (0)),(.bool false)]⟩) H34) (
 K (.tuple ⟨[(u64 (0)),(.bool false)]⟩) H27))))) (
 AsInt .i64 v1 fun z35 =>
 Cd (eqZ z35 (Int.ofNat 2)) (
 Ld H p (Nat.add o 1) fun v36 =>
 AsNat .u64 v36 fun n37 =>
 Ld H p (Nat.add o 4) fun v38 =>
 AsNat .u64 v38 fun n39 =>
 Call1 Tryz.prog con 37 [(ptr m 0),(i64 t),(u64 ((Nat.mod (Nat.add (Nat.mod (Nat.add n37 2) 18446744073709551616) (Nat.mod (Nat.mul 3 n39) 18446744073709551616)) 18446744073709551616)))] H fun v40 H41 =>
 Sc v40 (St H41 p (Nat.add o 5) [v40] fun H42 =>
 St H42 p (Nat.add o 0) [(iN (3))] fun H43 =>
 K (.tuple ⟨[(u64 (0)),(.bool false)]⟩) H43)) (
 AsInt .i64 v1 fun z44 =>
 Cd (eqZ z44 (Int.ofNat 3)) (
 Ld H p (Nat.add o 1) fun v45 =>
 AsNat .u64 v45 fun n46 =>
 Ld H p (Nat.add o 4) fun v47 =>
 AsNat .u64 v47 fun n48 =>
 Call1 Tryz.prog con 37 [(ptr m 0),(i64 t),(u64 ((Nat.mod (Nat.add (Nat.mod (Nat.add n46 3) 18446744073709551616) (Nat.mod (Nat.mul 3 n48) 18446744073709551616)) 18446744073709551616)))] H fun v49 H50 =>
 Sc v49 (St H50 p (Nat.add o 6) [v49] fun H51 =>
 St H51 p (Nat.add o 0) [(iN (4))] fun H52 =>
 K (.tuple ⟨[(u64 (0)),(.bool false)]⟩) H52)) (
 AsInt .i64 v1 fun z53 =>
 Cd (eqZ z53 (Int.ofNat 4)) (
 Ld H p (Nat.add o 1) fun v54 =>
 Ld H p (Nat.add o 5) fun v55 =>
 Ld H p (Nat.add o 6) fun v56 =>
 Ld H p (Nat.add o 1) fun v57 =>
 AsNat .u64 v57 fun n58 =>
 Sc v54 (Sc v55 (Sc v56 (Nw H (mkRow 23 0 [v54,v55,v56,(u64 ((Nat.mod (Nat.add (Nat.mod (Nat.mul 4 n58) 18446744073709551616) 2) 18446744073709551616)))]) fun p59 H60 =>
 Call1 Tryz.prog con 43 [(ptr m 0),(i64 t),(.slice (some ⟨p59,0,none⟩) 4 4)] H60 fun v61 H62 =>
 Sc v61 (St H62 p (Nat.add o 7) [v61] fun H63 =>
 St H63 p (Nat.add o 0) [(iN (5))] fun H64 =>
 Ld H64 p (Nat.add o 7) fun v65 =>
 AsNat .u64 v65 fun n66 =>
 Cd (eqN n66 0) (
 St H64 p (Nat.add o 9) [(u64 (3))] fun H67 =>
 St H67 p (Nat.add o 0) [(iN (10))] fun H68 =>
 K (.tuple ⟨[(u64 (0)),(.bool false)]⟩) H68) (
 K (.tuple ⟨[(u64 (0)),(.bool false)]⟩) H64)))))) (
 AsInt .i64 v1 fun z69 =>
 Cd (eqZ z69 (Int.ofNat 5)) (
 St H p (Nat.add o 0) [(iN (8))] fun H70 =>
 Ld H70 p (Nat.add o 5) fun v71 =>
 Ld H70 p (Nat.add o 6) fun v72 =>
 Ld H70 p (Nat.add o 7) fun v73 =>
 AsNat .u64 v73 fun n74 =>
 Call1 Tryz.prog con 60 [(ptr m 0),(i64 t),v71,v72,(u64 ((Nat.mod (Nat.add (Nat.mod (Nat.mul 4 n74) 18446744073709551616) 1) 18446744073709551616)))] H70 fun v75 H76 =>
 AsBool v75 fun b77 =>
 Cd b77 (
 St H76 p (Nat.add o 0) [(iN (6))] fun H78 =>
 K (.tuple ⟨[(u64 (0)),(.bool false)]⟩) H78) (
 K (.tuple ⟨[(u64 (0)),(.bool false)]⟩) H76)) (
 AsInt .i64 v1 fun z79 =>
 Cd (eqZ z79 (Int.ofNat 6)) (
 Ld H p (Nat.add o 1) fun v80 =>
 AsNat .u64 v80 fun n81 =>
 St H p (Nat.add o 8) [(u64 ((Nat.mod (Nat.add (Nat.mod (Nat.mul 4 n81) 18446744073709551616) 2) 18446744073709551616)))] fun H82 =>
 Ld H82 p (Nat.add o 1) fun v83 =>
 Call1 Tryz.prog con 37 [(ptr m 0),(i64 t),v83] H82 fun v84 H85 =>
 AsNat .u64 v84 fun n86 =>
 Cd (notB (eqN n86 0)) (
 Ld H85 p (Nat.add o 6) fun v87 =>
 Sc v87 (St H85 p (Nat.add o 8) [v87] fun H88 =>
 St H88 p (Nat.add o 0) [(iN (7))] fun H89 =>
 K (.tuple ⟨[(u64 (0)),(.bool false)]⟩) H89)) (
 St H85 p (Nat.add o 0) [(iN (7))] fun H90 =>
 K (.tuple ⟨[(u64 (0)),(.bool false)]⟩) H90)) (
 AsInt .i64 v1 fun z91 =>
 Cd (eqZ z91 (Int.ofNat 7)) (
 Ld H p (Nat.add o 5) fun v92 =>
 Ld H p (Nat.add o 7) fun v93 =>
 AsNat .u64 v93 fun n94 =>
 Ld H p (Nat.add o 8) fun v95 =>
 Call1 Tryz.prog con 60 [(ptr m 0),(i64 t),v92,(u64 ((Nat.mod (Nat.add (Nat.mod (Nat.mul 4 n94) 18446744073709551616) 1) 18446744073709551616))),v95] H fun v96 H97 =>
 Call1 Tryz.prog con 71 [(ptr p o)] H97 fun v98 H99 =>
 K (.tuple ⟨[(u64 (0)),(.bool false)]⟩) H99) (
 AsInt .i64 v1 fun z100 =>
 Cd (eqZ z100 (Int.ofNat 8)) (
 Ld H p (Nat.add o 5) fun v101 =>
 Call1 Tryz.prog con 37 [(ptr m 0),(i64 t),v101] H fun v102 H103 =>
 Call1 Tryz.prog con 72 [(ptr p o),v102] H103 fun v104 H105 =>
 AsTup v104 fun l106 =>
 Nth l106 0 fun v107 =>
 AsTup v104 fun l108 =>
 Nth l108 1 fun v109 =>
 K (.tuple ⟨[v107,v109]⟩) H105) (
 AsInt .i64 v1 fun z110 =>
 Cd (eqZ z110 (Int.ofNat 9)) (
 Call1 Tryz.prog con 40 [(ptr p (Nat.add o 10)),(ptr m 0),(i64 t)] H fun v111 H112 =>
 AsBool v111 fun b113 =>
 Cd b113 (
 St H112 p (Nat.add o 0) [(iN (5))] fun H114 =>
 K (.tuple ⟨[(u64 (0)),(.bool false)]⟩) H114) (
 K (.tuple ⟨[(u64 (0)),(.bool false)]⟩) H112)) (
 AsInt .i64 v1 fun z115 =>
 Cd (eqZ z115 (Int.ofNat 10)) (
 Ld H p (Nat.add o 1) fun v116 =>
 Ld H p (Nat.add o 9) fun v117 =>
 Call1 Tryz.prog con 60 [(ptr m 0),(i64 t),v116,(u64 (0)),v117] H fun v118 H119 =>
 St H119 p (Nat.add o 0) [(iN (11))] fun H120 =>
 K (.tuple ⟨[(u64 (0)),(.bool false)]⟩) H120) (
 Call1 Tryz.prog con 73 [(ptr p o),(ptr m 0),(i64 t)] H fun v121 H122 =>
 K (.tuple ⟨[(u64 (0)),(.bool false)]⟩) H122)))))))))))) := by kernel_rfl
theorem rFrameLay_W (con : CallT) (p o m : Nat) (t : Int) (H : CH) (K : KP) : funW Tryz.prog con 73 [ptr p o,ptr m 0,i64 t] H K =
 (Ld H p (Nat.add o 0) fun v1 =>
 AsInt .i64 v1 fun z2 =>
 Cd (eqZ z2 (Int.ofNat 11)) (
 Ld H p (Nat.add o 1) fun v3 =>
 Call1 Tryz.prog con 37 [(ptr m 0),(i64 t),v3] H fun v4 H5 =>
 Sc v4 (St H5 p (Nat.add o 2) [v4] fun H6 =>
 St H6 p (Nat.add o 4) [(u64 (0))] fun H7 =>
 St H7 p (Nat.add o 0) [(iN (12))] fun H8 =>
 Ld H8 p (Nat.add o 0) fun v9 =>
 AsInt .i64 v9 fun z10 =>
 Cd (eqZ z10 (Int.ofNat 12)) (
 Ld H8 p (Nat.add o 4) fun v11 =>
 Ld H8 p (Nat.add o 3) fun v12 =>
 AsNat .u64 v11 fun n13 =>
 AsNat .u64 v12 fun n14 =>
 Cd (leN n14 n13) (
 St H8 p (Nat.add o 0) [(iN (15))] fun H15 =>
 K unit H15) (
 K unit H8)) (
 K unit H8))) (
 AsInt .i64 v1 fun z16 =>
 Cd (eqZ z16 (Int.ofNat 12)) (
 Ld H p (Nat.add o 1) fun v17 =>
 AsNat .u64 v17 fun n18 =>
 Ld H p (Nat.add o 4) fun v19 =>
 AsNat .u64 v19 fun n20 =>
 Call1 Tryz.prog con 37 [(ptr m 0),(i64 t),(u64 ((Nat.mod (Nat.add (Nat.mod (Nat.add n18 2) 18446744073709551616) (Nat.mod (Nat.mul 3 n20) 18446744073709551616)) 18446744073709551616)))] H fun v21 H22 =>
 Sc v21 (St H22 p (Nat.add o 5) [v21] fun H23 =>
 St H23 p (Nat.add o 0) [(iN (13))] fun H24 =>
 Ld H24 p (Nat.add o 0) fun v25 =>
 AsInt .i64 v25 fun z26 =>
 Cd (eqZ z26 (Int.ofNat 12)) (
 Ld H24 p (Nat.add o 4) fun v27 =>
 Ld H24 p (Nat.add o 3) fun v28 =>
 AsNat .u64 v27 fun n29 =>
 AsNat .u64 v28 fun n30 =>
 Cd (leN n30 n29) (
 St H24 p (Nat.add o 0) [(iN (15))] fun H31 =>
 K unit H31) (
 K unit H24)) (
 K unit H24))) (
 AsInt .i64 v1 fun z32 =>
 Cd (eqZ z32 (Int.ofNat 13)) (
 Ld H p (Nat.add o 1) fun v33 =>
 AsNat .u64 v33 fun n34 =>
 Ld H p (Nat.add o 4) fun v35 =>
 AsNat .u64 v35 fun n36 =>
 Ld H p (Nat.add o 2) fun v37 =>
 AsNat .u64 v37 fun n38 =>
 Cd (eqN n38 1) (
 Call1 Tryz.prog con 37 [(ptr m 0),(i64 t),(u64 ((Nat.mod (Nat.add (Nat.mod (Nat.add (Nat.mod (Nat.add n34 3) 18446744073709551616) (Nat.mod (Nat.mul 3 n36) 18446744073709551616)) 18446744073709551616) 1) 18446744073709551616)))] H fun v39 H40 =>
 Sc v39 (St H40 p (Nat.add o 8) [v39] fun H41 =>
 St H41 p (Nat.add o 0) [(iN (14))] fun H42 =>
 Ld H42 p (Nat.add o 0) fun v43 =>
 AsInt .i64 v43 fun z44 =>
 Cd (eqZ z44 (Int.ofNat 12)) (
 Ld H42 p (Nat.add o 4) fun v45 =>
 Ld H42 p (Nat.add o 3) fun v46 =>
 AsNat .u64 v45 fun n47 =>
 AsNat .u64 v46 fun n48 =>
 Cd (leN n48 n47) (
 St H42 p (Nat.add o 0) [(iN (15))] fun H49 =>
 K unit H49) (
 K unit H42)) (
 K unit H42))) (
 Call1 Tryz.prog con 37 [(ptr m 0),(i64 t),(u64 ((Nat.mod (Nat.add (Nat.mod (Nat.add n34 3) 18446744073709551616) (Nat.mod (Nat.mul 3 n36) 18446744073709551616)) 18446744073709551616)))] H fun v50 H51 =>
 Sc v50 (St H51 p (Nat.add o 8) [v50] fun H52 =>
 St H52 p (Nat.add o 0) [(iN (14))] fun H53 =>
 Ld H53 p (Nat.add o 0) fun v54 =>
 AsInt .i64 v54 fun z55 =>
 Cd (eqZ z55 (Int.ofNat 12)) (
 Ld H53 p (Nat.add o 4) fun v56 =>
 Ld H53 p (Nat.add o 3) fun v57 =>
 AsNat .u64 v56 fun n58 =>
 AsNat .u64 v57 fun n59 =>
 Cd (leN n59 n58) (
 St H53 p (Nat.add o 0) [(iN (15))] fun H60 =>
 K unit H60) (
 K unit H53)) (
 K unit H53)))) (
 AsInt .i64 v1 fun z61 =>
 Cd (eqZ z61 (Int.ofNat 14)) (
 Ld H p (Nat.add o 5) fun v62 =>
 Ld H p (Nat.add o 1) fun v63 =>
 AsNat .u64 v63 fun n64 =>
 Ld H p (Nat.add o 8) fun v65 =>
 Call1 Tryz.prog con 60 [(ptr m 0),(i64 t),v62,(u64 ((Nat.mod (Nat.add (Nat.mod (Nat.mul 4 n64) 18446744073709551616) 2) 18446744073709551616))),v65] H fun v66 H67 =>
 Ld H67 p (Nat.add o 4) fun v68 =>
 AsNat .u64 v68 fun n69 =>
 St H67 p (Nat.add o 4) [(u64 ((Nat.mod (Nat.add n69 1) 18446744073709551616)))] fun H70 =>
 St H70 p (Nat.add o 0) [(iN (12))] fun H71 =>
 Ld H71 p (Nat.add o 0) fun v72 =>
 AsInt .i64 v72 fun z73 =>
 Cd (eqZ z73 (Int.ofNat 12)) (
 Ld H71 p (Nat.add o 4) fun v74 =>
 Ld H71 p (Nat.add o 3) fun v75 =>
 AsNat .u64 v74 fun n76 =>
 AsNat .u64 v75 fun n77 =>
 Cd (leN n77 n76) (
 St H71 p (Nat.add o 0) [(iN (15))] fun H78 =>
 K unit H78) (
 K unit H71)) (
 K unit H71)) (
 Ld H p (Nat.add o 0) fun v79 =>
 AsInt .i64 v79 fun z80 =>
 Cd (eqZ z80 (Int.ofNat 12)) (
 Ld H p (Nat.add o 4) fun v81 =>
 Ld H p (Nat.add o 3) fun v82 =>
 AsNat .u64 v81 fun n83 =>
 AsNat .u64 v82 fun n84 =>
 Cd (leN n84 n83) (
 St H p (Nat.add o 0) [(iN (15))] fun H85 =>
 K unit H85) (
 K unit H)) (
 K unit H)))))) := by kernel_rfl
theorem rFrameNext_W (con : CallT) (p o : Nat) (H : CH) (K : KP) : funW Tryz.prog con 71 [ptr p o] H K =
 (Ld H p (Nat.add o 4) fun v1 =>
 AsNat .u64 v1 fun n2 =>
 St H p (Nat.add o 4) [(u64 ((Nat.mod (Nat.add n2 1) 18446744073709551616)))] fun H3 =>
 St H3 p (Nat.add o 0) [(iN (2))] fun H4 =>
 Ld H4 p (Nat.add o 4) fun v5 =>
 Ld H4 p (Nat.add o 3) fun v6 =>
 AsNat .u64 v5 fun n7 =>
 AsNat .u64 v6 fun n8 =>
 Cd (leN n8 n7) (
 St H4 p (Nat.add o 9) [(u64 (1))] fun H9 =>
 St H9 p (Nat.add o 0) [(iN (10))] fun H10 =>
 K unit H10) (
 K unit H4)) := by kernel_rfl
theorem rFrameLooked_W (con : CallT) (p o r : Nat) (H : CH) (K : KP) : funW Tryz.prog con 72 [ptr p o,u64 r] H K =
 (St H p (Nat.add o 0) [(iN (5))] fun H1 =>
 Call1 Tryz.prog con 38 [(u64 (r))] H1 fun v2 H3 =>
 AsBool v2 fun b4 =>
 Cd b4 (
 St H3 p (Nat.add o 10) [(iN (0)),(u64 (r)),(u64 (0)),(u64 (0)),(u64 (0)),(u64 (0))] fun H5 =>
 St H5 p (Nat.add o 0) [(iN (9))] fun H6 =>
 K (.tuple ⟨[(u64 (0)),(.bool false)]⟩) H6) (
 Ld H3 p (Nat.add o 6) fun v7 =>
 AsNat .u64 v7 fun n8 =>
 Cd (eqN r n8) (
 K (.tuple ⟨[(u64 (0)),(.bool false)]⟩) H3) (
 Ld H3 p (Nat.add o 1) fun v9 =>
 AsNat .u64 v9 fun n10 =>
 Cd (eqN r (Nat.mod (Nat.add (Nat.mod (Nat.mul 4 n10) 18446744073709551616) 2) 18446744073709551616)) (
 Call1 Tryz.prog con 71 [(ptr p o)] H3 fun v11 H12 =>
 K (.tuple ⟨[(u64 (0)),(.bool false)]⟩) H12) (
 Call1 Tryz.prog con 39 [(u64 (r))] H3 fun v13 H14 =>
 AsBool v13 fun b15 =>
 Cd b15 (
 K (.tuple ⟨[(u64 ((Nat.mod (Nat.div r 4) 18446744073709551616))),(.bool true)]⟩) H14) (
 St H14 p (Nat.add o 9) [(u64 (2))] fun H16 =>
 St H16 p (Nat.add o 0) [(iN (10))] fun H17 =>
 K (.tuple ⟨[(u64 (0)),(.bool false)]⟩) H17))))) := by kernel_rfl
theorem rSettleStep_W (con : CallT) (p o m : Nat) (t : Int) (H : CH) (K : KP) : funW Tryz.prog con 40 [ptr p o,ptr m 0,i64 t] H K =
 (Ld H p (Nat.add o 1) fun v1 =>
 AsNat .u64 v1 fun n2 =>
 Ld H p (Nat.add o 0) fun v3 =>
 AsInt .i64 v3 fun z4 =>
 Cd (eqZ z4 (Int.ofNat 0)) (
 Call1 Tryz.prog con 37 [(ptr m 0),(i64 t),(u64 ((Nat.mod (Nat.div n2 4) 18446744073709551616)))] H fun v5 H6 =>
 Sc v5 (St H6 p (Nat.add o 2) [v5] fun H7 =>
 Ld H7 p (Nat.add o 0) fun v8 =>
 AsInt .i64 v8 fun z9 =>
 InR (Int.add z9 (Int.ofNat 1)) (
 St H7 p (Nat.add o 0) [(i64 (Int.add z9 (Int.ofNat 1)))] fun H10 =>
 Ld H10 p (Nat.add o 0) fun v11 =>
 AsInt .i64 v11 fun z12 =>
 K (.bool (eqZ z12 (Int.ofNat 6))) H10))) (
 AsInt .i64 v3 fun z13 =>
 Cd (eqZ z13 (Int.ofNat 1)) (
 Call1 Tryz.prog con 37 [(ptr m 0),(i64 t),(u64 ((Nat.mod (Nat.add (Nat.mod (Nat.div n2 4) 18446744073709551616) 1) 18446744073709551616)))] H fun v14 H15 =>
 Sc v14 (St H15 p (Nat.add o 3) [v14] fun H16 =>
 Ld H16 p (Nat.add o 0) fun v17 =>
 AsInt .i64 v17 fun z18 =>
 InR (Int.add z18 (Int.ofNat 1)) (
 St H16 p (Nat.add o 0) [(i64 (Int.add z18 (Int.ofNat 1)))] fun H19 =>
 Ld H19 p (Nat.add o 0) fun v20 =>
 AsInt .i64 v20 fun z21 =>
 K (.bool (eqZ z21 (Int.ofNat 6))) H19))) (
 AsInt .i64 v3 fun z22 =>
 Cd (eqZ z22 (Int.ofNat 2)) (
 Call1 Tryz.prog con 37 [(ptr m 0),(i64 t),(u64 ((Nat.mod (Nat.add (Nat.mod (Nat.div n2 4) 18446744073709551616) 2) 18446744073709551616)))] H fun v23 H24 =>
 Sc v23 (St H24 p (Nat.add o 4) [v23] fun H25 =>
 Ld H25 p (Nat.add o 0) fun v26 =>
 AsInt .i64 v26 fun z27 =>
 InR (Int.add z27 (Int.ofNat 1)) (
 St H25 p (Nat.add o 0) [(i64 (Int.add z27 (Int.ofNat 1)))] fun H28 =>
 Ld H28 p (Nat.add o 0) fun v29 =>
 AsInt .i64 v29 fun z30 =>
 K (.bool (eqZ z30 (Int.ofNat 6))) H28))) (
 AsInt .i64 v3 fun z31 =>
 Cd (eqZ z31 (Int.ofNat 3)) (
 Call1 Tryz.prog con 37 [(ptr m 0),(i64 t),(u64 ((Nat.mod (Nat.add (Nat.mod (Nat.div n2 4) 18446744073709551616) 3) 18446744073709551616)))] H fun v32 H33 =>
 Sc v32 (St H33 p (Nat.add o 5) [v32] fun H34 =>
 Ld H34 p (Nat.add o 0) fun v35 =>
 AsInt .i64 v35 fun z36 =>
 InR (Int.add z36 (Int.ofNat 1)) (
 St H34 p (Nat.add o 0) [(i64 (Int.add z36 (Int.ofNat 1)))] fun H37 =>
 Ld H37 p (Nat.add o 0) fun v38 =>
 AsInt .i64 v38 fun z39 =>
 K (.bool (eqZ z39 (Int.ofNat 6))) H37))) (
 AsInt .i64 v3 fun z40 =>
 Cd (eqZ z40 (Int.ofNat 4)) (
 Ld H p (Nat.add o 2) fun v41 =>
 Call1 Tryz.prog con 37 [(ptr m 0),(i64 t),v41] H fun v42 H43 =>
 AsNat .u64 v42 fun n44 =>
 Cd (notB (eqN n44 0)) (
 Ld H43 p (Nat.add o 4) fun v45 =>
 Sc v45 (St H43 p (Nat.add o 5) [v45] fun H46 =>
 Ld H46 p (Nat.add o 0) fun v47 =>
 AsInt .i64 v47 fun z48 =>
 InR (Int.add z48 (Int.ofNat 1)) (
 St H46 p (Nat.add o 0) [(i64 (Int.add z48 (Int.ofNat 1)))] fun H49 =>
 Ld H49 p (Nat.add o 0) fun v50 =>
 AsInt .i64 v50 fun z51 =>
 K (.bool (eqZ z51 (Int.ofNat 6))) H49))) (
 Ld H43 p (Nat.add o 0) fun v52 =>
 AsInt .i64 v52 fun z53 =>
 InR (Int.add z53 (Int.ofNat 1)) (
 St H43 p (Nat.add o 0) [(i64 (Int.add z53 (Int.ofNat 1)))] fun H54 =>
 Ld H54 p (Nat.add o 0) fun v55 =>
 AsInt .i64 v55 fun z56 =>
 K (.bool (eqZ z56 (Int.ofNat 6))) H54))) (
 AsInt .i64 v3 fun z57 =>
 Cd (eqZ z57 (Int.ofNat 5)) (
 Ld H p (Nat.add o 3) fun v58 =>
 Ld H p (Nat.add o 1) fun v59 =>
 Ld H p (Nat.add o 5) fun v60 =>
 Call1 Tryz.prog con 60 [(ptr m 0),(i64 t),v58,v59,v60] H fun v61 H62 =>
 Ld H62 p (Nat.add o 0) fun v63 =>
 AsInt .i64 v63 fun z64 =>
 InR (Int.add z64 (Int.ofNat 1)) (
 St H62 p (Nat.add o 0) [(i64 (Int.add z64 (Int.ofNat 1)))] fun H65 =>
 Ld H65 p (Nat.add o 0) fun v66 =>
 AsInt .i64 v66 fun z67 =>
 K (.bool (eqZ z67 (Int.ofNat 6))) H65)) (
 Ld H p (Nat.add o 0) fun v68 =>
 AsInt .i64 v68 fun z69 =>
 InR (Int.add z69 (Int.ofNat 1)) (
 St H p (Nat.add o 0) [(i64 (Int.add z69 (Int.ofNat 1)))] fun H70 =>
 Ld H70 p (Nat.add o 0) fun v71 =>
 AsInt .i64 v71 fun z72 =>
 K (.bool (eqZ z72 (Int.ofNat 6))) H70)))))))) := by kernel_rfl
theorem rWrong29_W (con : CallT) (v : Value) (H : CH) (K : KP) : funW Tryz.prog con 42 [v] H K =
 (AsLen v fun l1 =>
 Cd (ltZ (Int.ofNat 16) (Int.ofNat l1)) (
 K (iN (6)) H) (
 LoopC Tryz.prog con (lpAt Tryz.prog 42 0) (upd (upd (upd (upd (upd (upd (fun _ => undV) 0 v) 2 (iN (0))) 6 v) 7 (iN (l1))) 8 (.bool (ltZ (Int.ofNat 16) (Int.ofNat l1)))) 3 (iN (0))) H (fun e => ceP e
 (fun a2 H3 =>
 LoopC Tryz.prog con (lpAt Tryz.prog 42 1) (upd a2 4 (iN (0))) H3 (fun e => ceP e
 (fun a5 H6 =>
 K (iN (0)) H6)
 (fun i7 => fun a5 H6 =>
 Cd (eqN i7 2) (
 K (iN (0)) H6) (
 False))
 (fun a5 H6 =>
 K (a5 2) H6)))
 (fun i4 => fun a2 H3 =>
 Cd (eqN i4 0) (
 LoopC Tryz.prog con (lpAt Tryz.prog 42 1) (upd a2 4 (iN (0))) H3 (fun e => ceP e
 (fun a8 H9 =>
 K (iN (0)) H9)
 (fun i10 => fun a8 H9 =>
 Cd (eqN i10 2) (
 K (iN (0)) H9) (
 False))
 (fun a8 H9 =>
 K (a8 2) H9))) (
 False))
 (fun a2 H3 =>
 K (a2 2) H3)))) := by kernel_rfl
theorem rWrong29A_W (con : CallT) (a : TF) (H : CH) (K : KX) : codeW (lpAt Tryz.prog 42 0) Tryz.prog con a H K =
 (AsLen (a 0) fun l1 =>
 AsInt .i64 (a 3) fun z2 =>
 Cd (ltZ z2 (Int.ofNat l1)) (
 AsSlc (a 0) fun p3 o4 l5 c6 =>
 AsCnt (a 3) fun n7 =>
 Must (ltN n7 l5) (
 Ld H p3 (Nat.add (Nat.add o4 (Nat.mul n7 3)) 0) fun v8 =>
 AsNat .u64 v8 fun n9 =>
 Cd (eqN n9 0) (
 K .ret (upd (upd (upd (upd (upd (upd (upd (upd (upd (upd (upd (upd (upd (upd (upd (upd (upd (upd (upd (upd (upd (upd (upd (upd (upd (upd (upd (upd (upd (upd (upd (upd (upd (upd (upd (upd (upd (upd (upd a 9 (a 3)) 10 (a 0)) 11 (iN (l1))) 12 (.bool (ltZ z2 (Int.ofNat l1)))) 15 (a 0)) 16 (a 3)) 17 (ptr p3 (Nat.add o4 (Nat.mul n7 3)))) 18 (ptr p3 (Nat.add (Nat.add o4 (Nat.mul n7 3)) 0))) 19 v8) 20 (.bool (eqN n9 0))) 21 (.bool (eqN n9 0))) 21 (.bool true)) 22 unit) 21 (.bool true)) 23 unit) 21 (.bool true)) 24 unit) 21 (.bool true)) 25 unit) 21 (.bool true)) 26 unit) 21 (.bool true)) 27 unit) 28 (.bool true)) 29 (.bool true)) 29 (.bool true)) 30 unit) 29 (.bool true)) 31 unit) 29 (.bool true)) 32 unit) 29 (.bool true)) 33 unit) 29 (.bool true)) 34 unit) 29 (.bool true)) 35 unit) 36 (.bool true)) 2 (iN (2))) H) (
 AsSlc (a 0) fun p10 o11 l12 c13 =>
 AsCnt (a 3) fun n14 =>
 Must (ltN n14 l12) (
 Ld H p10 (Nat.add (Nat.add o11 (Nat.mul n14 3)) 1) fun v15 =>
 AsNat .u64 v15 fun n16 =>
 Cd (leN 4611686018427387904 n16) (
 K .ret (upd (upd (upd (upd (upd (upd (upd (upd (upd (upd (upd (upd (upd (upd (upd (upd (upd (upd (upd (upd (upd (upd (upd (upd (upd (upd (upd (upd (upd (upd (upd (upd (upd (upd (upd (upd (upd (upd (upd a 9 (a 3)) 10 (a 0)) 11 (iN (l1))) 12 (.bool (ltZ z2 (Int.ofNat l1)))) 15 (a 0)) 16 (a 3)) 17 (ptr p3 (Nat.add o4 (Nat.mul n7 3)))) 18 (ptr p3 (Nat.add (Nat.add o4 (Nat.mul n7 3)) 0))) 19 v8) 20 (.bool (eqN n9 0))) 21 (.bool (eqN n9 0))) 21 (.bool false)) 22 (a 0)) 21 (.bool false)) 23 (a 3)) 21 (.bool false)) 24 (ptr p10 (Nat.add o11 (Nat.mul n14 3)))) 21 (.bool false)) 25 (ptr p10 (Nat.add (Nat.add o11 (Nat.mul n14 3)) 1))) 21 (.bool false)) 26 v15) 21 (.bool false)) 27 (.bool (leN 4611686018427387904 n16))) 28 (.bool (leN 4611686018427387904 n16))) 29 (.bool (leN 4611686018427387904 n16))) 29 (.bool true)) 30 unit) 29 (.bool true)) 31 unit) 29 (.bool true)) 32 unit) 29 (.bool true)) 33 unit) 29 (.bool true)) 34 unit) 29 (.bool true)) 35 unit) 36 (.bool true)) 2 (iN (2))) H) (
 AsSlc (a 0) fun p17 o18 l19 c20 =>
 AsCnt (a 3) fun n21 =>
 Must (ltN n21 l19) (
 Ld H p17 (Nat.add (Nat.add o18 (Nat.mul n21 3)) 2) fun v22 =>
 AsNat .u64 v22 fun n23 =>
 Cd (leN 4611686018427387904 n23) (
 K .ret (upd (upd (upd (upd (upd (upd (upd (upd (upd (upd (upd (upd (upd (upd (upd (upd (upd (upd (upd (upd (upd (upd (upd (upd (upd (upd (upd (upd (upd (upd (upd (upd (upd (upd (upd (upd (upd (upd (upd a 9 (a 3)) 10 (a 0)) 11 (iN (l1))) 12 (.bool (ltZ z2 (Int.ofNat l1)))) 15 (a 0)) 16 (a 3)) 17 (ptr p3 (Nat.add o4 (Nat.mul n7 3)))) 18 (ptr p3 (Nat.add (Nat.add o4 (Nat.mul n7 3)) 0))) 19 v8) 20 (.bool (eqN n9 0))) 21 (.bool (eqN n9 0))) 21 (.bool false)) 22 (a 0)) 21 (.bool false)) 23 (a 3)) 21 (.bool false)) 24 (ptr p10 (Nat.add o11 (Nat.mul n14 3)))) 21 (.bool false)) 25 (ptr p10 (Nat.add (Nat.add o11 (Nat.mul n14 3)) 1))) 21 (.bool false)) 26 v15) 21 (.bool false)) 27 (.bool (leN 4611686018427387904 n16))) 28 (.bool (leN 4611686018427387904 n16))) 29 (.bool (leN 4611686018427387904 n16))) 29 (.bool false)) 30 (a 0)) 29 (.bool false)) 31 (a 3)) 29 (.bool false)) 32 (ptr p17 (Nat.add o18 (Nat.mul n21 3)))) 29 (.bool false)) 33 (ptr p17 (Nat.add (Nat.add o18 (Nat.mul n21 3)) 2))) 29 (.bool false)) 34 v22) 29 (.bool false)) 35 (.bool (leN 4611686018427387904 n23))) 36 (.bool (leN 4611686018427387904 n23))) 2 (iN (2))) H) (
 AsInt .i64 (a 3) fun z24 =>
 InR (Int.add z24 (Int.ofNat 1)) (
 K .normal (upd (upd (upd (upd (upd (upd (upd (upd (upd (upd (upd (upd (upd (upd (upd (upd (upd (upd (upd (upd (upd (upd (upd (upd (upd (upd (upd (upd (upd (upd (upd (upd (upd (upd (upd (upd (upd (upd (upd (upd (upd a 9 (a 3)) 10 (a 0)) 11 (iN (l1))) 12 (.bool (ltZ z2 (Int.ofNat l1)))) 15 (a 0)) 16 (a 3)) 17 (ptr p3 (Nat.add o4 (Nat.mul n7 3)))) 18 (ptr p3 (Nat.add (Nat.add o4 (Nat.mul n7 3)) 0))) 19 v8) 20 (.bool (eqN n9 0))) 21 (.bool (eqN n9 0))) 21 (.bool false)) 22 (a 0)) 21 (.bool false)) 23 (a 3)) 21 (.bool false)) 24 (ptr p10 (Nat.add o11 (Nat.mul n14 3)))) 21 (.bool false)) 25 (ptr p10 (Nat.add (Nat.add o11 (Nat.mul n14 3)) 1))) 21 (.bool false)) 26 v15) 21 (.bool false)) 27 (.bool (leN 4611686018427387904 n16))) 28 (.bool (leN 4611686018427387904 n16))) 29 (.bool (leN 4611686018427387904 n16))) 29 (.bool false)) 30 (a 0)) 29 (.bool false)) 31 (a 3)) 29 (.bool false)) 32 (ptr p17 (Nat.add o18 (Nat.mul n21 3)))) 29 (.bool false)) 33 (ptr p17 (Nat.add (Nat.add o18 (Nat.mul n21 3)) 2))) 29 (.bool false)) 34 v22) 29 (.bool false)) 35 (.bool (leN 4611686018427387904 n23))) 36 (.bool (leN 4611686018427387904 n23))) 13 (a 3)) 14 (i64 (Int.add z24 (Int.ofNat 1)))) 3 (i64 (Int.add z24 (Int.ofNat 1)))) H)))))))) (
 K (.exit 0) (upd (upd (upd (upd a 9 (a 3)) 10 (a 0)) 11 (iN (l1))) 12 (.bool (ltZ z2 (Int.ofNat l1)))) H)) := by kernel_rfl
theorem rWrong29B_W (con : CallT) (a : TF) (H : CH) (K : KX) : codeW (lpAt Tryz.prog 42 1) Tryz.prog con a H K =
 (AsLen (a 0) fun l1 =>
 AsInt .i64 (a 4) fun z2 =>
 Cd (ltZ z2 (Int.ofNat l1)) (
 LoopC Tryz.prog con (lpAt Tryz.prog 42 2) (upd (upd (upd (upd (upd a 37 (a 4)) 38 (a 0)) 39 (iN (l1))) 40 (.bool (ltZ z2 (Int.ofNat l1)))) 5 (iN (0))) H (fun e => ceP e
 (fun a3 H4 =>
 AsInt .i64 (a3 4) fun z6 =>
 InR (Int.add z6 (Int.ofNat 1)) (
 K .normal (upd (upd (upd a3 41 (a3 4)) 42 (i64 (Int.add z6 (Int.ofNat 1)))) 4 (i64 (Int.add z6 (Int.ofNat 1)))) H4))
 (fun i5 => fun a3 H4 =>
 Cd (eqN i5 4) (
 AsInt .i64 (a3 4) fun z7 =>
 InR (Int.add z7 (Int.ofNat 1)) (
 K .normal (upd (upd (upd a3 41 (a3 4)) 42 (i64 (Int.add z7 (Int.ofNat 1)))) 4 (i64 (Int.add z7 (Int.ofNat 1)))) H4)) (
 Cd (eqN i5 3) (
 AsInt .i64 (a3 4) fun z8 =>
 InR (Int.add z8 (Int.ofNat 1)) (
 K .normal (upd (upd (upd a3 41 (a3 4)) 42 (i64 (Int.add z8 (Int.ofNat 1)))) 4 (i64 (Int.add z8 (Int.ofNat 1)))) H4)) (
 K (.exit i5) a3 H4)))
 (fun a3 H4 =>
 K .ret a3 H4))) (
 K (.exit 2) (upd (upd (upd (upd a 37 (a 4)) 38 (a 0)) 39 (iN (l1))) 40 (.bool (ltZ z2 (Int.ofNat l1)))) H)) := by kernel_rfl
theorem rPlan29_W (con : CallT) (v : Value) (H : CH) (K : KP) : funW Tryz.prog con 44 [v] H K =
 (AsLen v fun l1 =>
 Must (cvOk .i64 (Int.ofNat l1)) (
 Nw H (mkRow 23 0 [(u64 (0)),(u64 ((wrapN .u64 (Int.ofNat l1))))]) fun p2 H3 =>
 LoopC Tryz.prog con (lpAt Tryz.prog 44 0) (upd (upd (upd (upd (upd (upd (upd (upd (upd (fun _ => undV) 0 v) 2 (snil)) 9 v) 10 (iN (l1))) 11 (u64 ((wrapN .u64 (Int.ofNat l1))))) 12 (.slice (some ⟨p2,0,none⟩) 2 2)) 3 (.slice (some ⟨p2,0,none⟩) 2 2)) 4 (snil)) 5 (iN (0))) H3 (fun e => ceP e
 (fun a4 H5 =>
 LoopC Tryz.prog con (lpAt Tryz.prog 44 3) (upd a4 8 (iN (0))) H5 (fun e => ceP e
 (fun a7 H8 =>
 K (a7 3) H8)
 (fun i9 => fun a7 H8 =>
 Cd (eqN i9 6) (
 K (a7 3) H8) (
 False))
 (fun a7 H8 =>
 K (a7 2) H8)))
 (fun i6 => fun a4 H5 =>
 Cd (eqN i6 0) (
 LoopC Tryz.prog con (lpAt Tryz.prog 44 3) (upd a4 8 (iN (0))) H5 (fun e => ceP e
 (fun a10 H11 =>
 K (a10 3) H11)
 (fun i12 => fun a10 H11 =>
 Cd (eqN i12 6) (
 K (a10 3) H11) (
 False))
 (fun a10 H11 =>
 K (a10 2) H11))) (
 False))
 (fun a4 H5 =>
 K (a4 2) H5)))) := by kernel_rfl
theorem rPlan29A_W (con : CallT) (a : TF) (H : CH) (K : KX) : codeW (lpAt Tryz.prog 44 0) Tryz.prog con a H K =
 (AsLen (a 0) fun l1 =>
 AsInt .i64 (a 5) fun z2 =>
 Cd (ltZ z2 (Int.ofNat l1)) (
 LoopC Tryz.prog con (lpAt Tryz.prog 44 1) (upd (upd (upd (upd (upd a 13 (a 5)) 14 (a 0)) 15 (iN (l1))) 16 (.bool (ltZ z2 (Int.ofNat l1)))) 6 (iN (0))) H (fun e => ceP e
 (fun a3 H4 =>
 Nw H4 (mkRow 98 0 [(u64 (0)),(u64 (0)),(u64 (0))]) fun p6 H7 =>
 App Tryz.prog 24 24 H7 (a3 4) (.slice (some ⟨p6,0,none⟩) 1 1) fun v8 H9 =>
 AsLen v8 fun l10 =>
 InR (Int.sub (Int.ofNat l10) (Int.ofNat 1)) (
 LoopC Tryz.prog con (lpAt Tryz.prog 44 2) (upd (upd (upd (upd (upd (upd (upd (upd (upd a3 38 (a3 4)) 39 (.agg ⟨[(u64 (0)),(u64 (0)),(u64 (0))]⟩)) 40 (.slice (some ⟨p6,0,none⟩) 1 1)) 41 v8) 4 v8) 42 v8) 43 (iN (l10))) 44 (i64 (Int.sub (Int.ofNat l10) (Int.ofNat 1)))) 7 (i64 (Int.sub (Int.ofNat l10) (Int.ofNat 1)))) H9 (fun e => ceP e
 (fun a11 H12 =>
 AsSlc (a11 0) fun p14 o15 l16 c17 =>
 AsCnt (a11 5) fun n18 =>
 Must (ltN n18 l16) (
 Ld H12 p14 (Nat.add (Nat.add o15 (Nat.mul n18 3)) 0) fun v19 =>
 Ld H12 p14 (Nat.add (Nat.add o15 (Nat.mul n18 3)) 1) fun v20 =>
 Ld H12 p14 (Nat.add (Nat.add o15 (Nat.mul n18 3)) 2) fun v21 =>
 AsSlc (a11 4) fun p22 o23 l24 c25 =>
 AsCnt (a11 6) fun n26 =>
 Must (ltN n26 l24) (
 St H12 p22 (Nat.add o23 (Nat.mul n26 3)) [v19,v20,v21] fun H27 =>
 AsInt .i64 (a11 5) fun z28 =>
 InR (Int.add z28 (Int.ofNat 1)) (
 K .normal (upd (upd (upd (upd (upd (upd (upd (upd (upd (upd a11 58 (a11 4)) 59 (a11 6)) 60 (a11 0)) 61 (a11 5)) 62 (ptr p14 (Nat.add o15 (Nat.mul n18 3)))) 63 (.agg ⟨[v19,v20,v21]⟩)) 64 (ptr p22 (Nat.add o23 (Nat.mul n26 3)))) 17 (a11 5)) 18 (i64 (Int.add z28 (Int.ofNat 1)))) 5 (i64 (Int.add z28 (Int.ofNat 1)))) H27))))
 (fun i13 => fun a11 H12 =>
 Cd (eqN i13 4) (
 AsSlc (a11 0) fun p29 o30 l31 c32 =>
 AsCnt (a11 5) fun n33 =>
 Must (ltN n33 l31) (
 Ld H12 p29 (Nat.add (Nat.add o30 (Nat.mul n33 3)) 0) fun v34 =>
 Ld H12 p29 (Nat.add (Nat.add o30 (Nat.mul n33 3)) 1) fun v35 =>
 Ld H12 p29 (Nat.add (Nat.add o30 (Nat.mul n33 3)) 2) fun v36 =>
 AsSlc (a11 4) fun p37 o38 l39 c40 =>
 AsCnt (a11 6) fun n41 =>
 Must (ltN n41 l39) (
 St H12 p37 (Nat.add o38 (Nat.mul n41 3)) [v34,v35,v36] fun H42 =>
 AsInt .i64 (a11 5) fun z43 =>
 InR (Int.add z43 (Int.ofNat 1)) (
 K .normal (upd (upd (upd (upd (upd (upd (upd (upd (upd (upd a11 58 (a11 4)) 59 (a11 6)) 60 (a11 0)) 61 (a11 5)) 62 (ptr p29 (Nat.add o30 (Nat.mul n33 3)))) 63 (.agg ⟨[v34,v35,v36]⟩)) 64 (ptr p37 (Nat.add o38 (Nat.mul n41 3)))) 17 (a11 5)) 18 (i64 (Int.add z43 (Int.ofNat 1)))) 5 (i64 (Int.add z43 (Int.ofNat 1)))) H42)))) (
 Cd (eqN i13 1) (
 AsInt .i64 (a11 5) fun z44 =>
 InR (Int.add z44 (Int.ofNat 1)) (
 K .normal (upd (upd (upd a11 17 (a11 5)) 18 (i64 (Int.add z44 (Int.ofNat 1)))) 5 (i64 (Int.add z44 (Int.ofNat 1)))) H12)) (
 K (.exit i13) a11 H12)))
 (fun a11 H12 =>
 K .ret a11 H12))))
 (fun i5 => fun a3 H4 =>
 Cd (eqN i5 2) (
 Nw H4 (mkRow 98 0 [(u64 (0)),(u64 (0)),(u64 (0))]) fun p45 H46 =>
 App Tryz.prog 24 24 H46 (a3 4) (.slice (some ⟨p45,0,none⟩) 1 1) fun v47 H48 =>
 AsLen v47 fun l49 =>
 InR (Int.sub (Int.ofNat l49) (Int.ofNat 1)) (
 LoopC Tryz.prog con (lpAt Tryz.prog 44 2) (upd (upd (upd (upd (upd (upd (upd (upd (upd a3 38 (a3 4)) 39 (.agg ⟨[(u64 (0)),(u64 (0)),(u64 (0))]⟩)) 40 (.slice (some ⟨p45,0,none⟩) 1 1)) 41 v47) 4 v47) 42 v47) 43 (iN (l49))) 44 (i64 (Int.sub (Int.ofNat l49) (Int.ofNat 1)))) 7 (i64 (Int.sub (Int.ofNat l49) (Int.ofNat 1)))) H48 (fun e => ceP e
 (fun a50 H51 =>
 AsSlc (a50 0) fun p53 o54 l55 c56 =>
 AsCnt (a50 5) fun n57 =>
 Must (ltN n57 l55) (
 Ld H51 p53 (Nat.add (Nat.add o54 (Nat.mul n57 3)) 0) fun v58 =>
 Ld H51 p53 (Nat.add (Nat.add o54 (Nat.mul n57 3)) 1) fun v59 =>
 Ld H51 p53 (Nat.add (Nat.add o54 (Nat.mul n57 3)) 2) fun v60 =>
 AsSlc (a50 4) fun p61 o62 l63 c64 =>
 AsCnt (a50 6) fun n65 =>
 Must (ltN n65 l63) (
 St H51 p61 (Nat.add o62 (Nat.mul n65 3)) [v58,v59,v60] fun H66 =>
 AsInt .i64 (a50 5) fun z67 =>
 InR (Int.add z67 (Int.ofNat 1)) (
 K .normal (upd (upd (upd (upd (upd (upd (upd (upd (upd (upd a50 58 (a50 4)) 59 (a50 6)) 60 (a50 0)) 61 (a50 5)) 62 (ptr p53 (Nat.add o54 (Nat.mul n57 3)))) 63 (.agg ⟨[v58,v59,v60]⟩)) 64 (ptr p61 (Nat.add o62 (Nat.mul n65 3)))) 17 (a50 5)) 18 (i64 (Int.add z67 (Int.ofNat 1)))) 5 (i64 (Int.add z67 (Int.ofNat 1)))) H66))))
 (fun i52 => fun a50 H51 =>
 Cd (eqN i52 4) (
 AsSlc (a50 0) fun p68 o69 l70 c71 =>
 AsCnt (a50 5) fun n72 =>
 Must (ltN n72 l70) (
 Ld H51 p68 (Nat.add (Nat.add o69 (Nat.mul n72 3)) 0) fun v73 =>
 Ld H51 p68 (Nat.add (Nat.add o69 (Nat.mul n72 3)) 1) fun v74 =>
 Ld H51 p68 (Nat.add (Nat.add o69 (Nat.mul n72 3)) 2) fun v75 =>
 AsSlc (a50 4) fun p76 o77 l78 c79 =>
 AsCnt (a50 6) fun n80 =>
 Must (ltN n80 l78) (
 St H51 p76 (Nat.add o77 (Nat.mul n80 3)) [v73,v74,v75] fun H81 =>
 AsInt .i64 (a50 5) fun z82 =>
 InR (Int.add z82 (Int.ofNat 1)) (
 K .normal (upd (upd (upd (upd (upd (upd (upd (upd (upd (upd a50 58 (a50 4)) 59 (a50 6)) 60 (a50 0)) 61 (a50 5)) 62 (ptr p68 (Nat.add o69 (Nat.mul n72 3)))) 63 (.agg ⟨[v73,v74,v75]⟩)) 64 (ptr p76 (Nat.add o77 (Nat.mul n80 3)))) 17 (a50 5)) 18 (i64 (Int.add z82 (Int.ofNat 1)))) 5 (i64 (Int.add z82 (Int.ofNat 1)))) H81)))) (
 Cd (eqN i52 1) (
 AsInt .i64 (a50 5) fun z83 =>
 InR (Int.add z83 (Int.ofNat 1)) (
 K .normal (upd (upd (upd a50 17 (a50 5)) 18 (i64 (Int.add z83 (Int.ofNat 1)))) 5 (i64 (Int.add z83 (Int.ofNat 1)))) H51)) (
 K (.exit i52) a50 H51)))
 (fun a50 H51 =>
 K .ret a50 H51)))) (
 Cd (eqN i5 1) (
 AsInt .i64 (a3 5) fun z84 =>
 InR (Int.add z84 (Int.ofNat 1)) (
 K .normal (upd (upd (upd a3 17 (a3 5)) 18 (i64 (Int.add z84 (Int.ofNat 1)))) 5 (i64 (Int.add z84 (Int.ofNat 1)))) H4)) (
 K (.exit i5) a3 H4)))
 (fun a3 H4 =>
 K .ret a3 H4))) (
 K (.exit 0) (upd (upd (upd (upd a 13 (a 5)) 14 (a 0)) 15 (iN (l1))) 16 (.bool (ltZ z2 (Int.ofNat l1)))) H)) := by kernel_rfl
theorem rPlan29B_W (con : CallT) (a : TF) (H : CH) (K : KX) : codeW (lpAt Tryz.prog 44 1) Tryz.prog con a H K =
 (AsLen (a 4) fun l1 =>
 AsInt .i64 (a 6) fun z2 =>
 Cd (ltZ z2 (Int.ofNat l1)) (
 AsSlc (a 4) fun p3 o4 l5 c6 =>
 AsCnt (a 6) fun n7 =>
 Must (ltN n7 l5) (
 Ld H p3 (Nat.add (Nat.add o4 (Nat.mul n7 3)) 0) fun v8 =>
 AsSlc (a 0) fun p9 o10 l11 c12 =>
 AsCnt (a 5) fun n13 =>
 Must (ltN n13 l11) (
 Ld H p9 (Nat.add (Nat.add o10 (Nat.mul n13 3)) 0) fun v14 =>
 AsNat .u64 v8 fun n15 =>
 AsNat .u64 v14 fun n16 =>
 Cd (ltN n15 n16) (
 AsInt .i64 (a 6) fun z17 =>
 InR (Int.add z17 (Int.ofNat 1)) (
 K .normal (upd (upd (upd (upd (upd (upd (upd (upd (upd (upd (upd (upd (upd (upd (upd (upd (upd (upd (upd (upd (upd (upd (upd (upd (upd (upd (upd (upd (upd (upd (upd a 19 (a 6)) 20 (a 4)) 21 (iN (l1))) 22 (.bool (ltZ z2 (Int.ofNat l1)))) 23 (.bool (ltZ z2 (Int.ofNat l1)))) 23 (.bool true)) 24 (a 4)) 23 (.bool true)) 25 (a 6)) 23 (.bool true)) 26 (ptr p3 (Nat.add o4 (Nat.mul n7 3)))) 23 (.bool true)) 27 (ptr p3 (Nat.add (Nat.add o4 (Nat.mul n7 3)) 0))) 23 (.bool true)) 28 v8) 23 (.bool true)) 29 (a 0)) 23 (.bool true)) 30 (a 5)) 23 (.bool true)) 31 (ptr p9 (Nat.add o10 (Nat.mul n13 3)))) 23 (.bool true)) 32 (ptr p9 (Nat.add (Nat.add o10 (Nat.mul n13 3)) 0))) 23 (.bool true)) 33 v14) 23 (.bool true)) 34 (.bool (ltN n15 n16))) 35 (.bool (ltN n15 n16))) 36 (a 6)) 37 (i64 (Int.add z17 (Int.ofNat 1)))) 6 (i64 (Int.add z17 (Int.ofNat 1)))) H)) (
 K (.exit 2) (upd (upd (upd (upd (upd (upd (upd (upd (upd (upd (upd (upd (upd (upd (upd (upd (upd (upd (upd (upd (upd (upd (upd (upd (upd (upd (upd (upd a 19 (a 6)) 20 (a 4)) 21 (iN (l1))) 22 (.bool (ltZ z2 (Int.ofNat l1)))) 23 (.bool (ltZ z2 (Int.ofNat l1)))) 23 (.bool true)) 24 (a 4)) 23 (.bool true)) 25 (a 6)) 23 (.bool true)) 26 (ptr p3 (Nat.add o4 (Nat.mul n7 3)))) 23 (.bool true)) 27 (ptr p3 (Nat.add (Nat.add o4 (Nat.mul n7 3)) 0))) 23 (.bool true)) 28 v8) 23 (.bool true)) 29 (a 0)) 23 (.bool true)) 30 (a 5)) 23 (.bool true)) 31 (ptr p9 (Nat.add o10 (Nat.mul n13 3)))) 23 (.bool true)) 32 (ptr p9 (Nat.add (Nat.add o10 (Nat.mul n13 3)) 0))) 23 (.bool true)) 33 v14) 23 (.bool true)) 34 (.bool (ltN n15 n16))) 35 (.bool (ltN n15 n16))) H)))) (
 K (.exit 2) (upd (upd (upd (upd (upd (upd (upd (upd (upd (upd (upd (upd (upd (upd (upd (upd (upd (upd (upd (upd (upd (upd (upd (upd (upd (upd (upd (upd a 19 (a 6)) 20 (a 4)) 21 (iN (l1))) 22 (.bool (ltZ z2 (Int.ofNat l1)))) 23 (.bool (ltZ z2 (Int.ofNat l1)))) 23 (.bool false)) 24 unit) 23 (.bool false)) 25 unit) 23 (.bool false)) 26 unit) 23 (.bool false)) 27 unit) 23 (.bool false)) 28 unit) 23 (.bool false)) 29 unit) 23 (.bool false)) 30 unit) 23 (.bool false)) 31 unit) 23 (.bool false)) 32 unit) 23 (.bool false)) 33 unit) 23 (.bool false)) 34 unit) 35 (.bool false)) H)) := by kernel_rfl
theorem rWrong29C_W (con : CallT) (a : TF) (H : CH) (K : KX) : codeW (lpAt Tryz.prog 42 2) Tryz.prog con a H K =
 (AsInt .i64 (a 5) fun z1 =>
 AsInt .i64 (a 4) fun z2 =>
 Cd (ltZ z1 z2) (
 AsSlc (a 0) fun p3 o4 l5 c6 =>
 AsCnt (a 5) fun n7 =>
 Must (ltN n7 l5) (
 Ld H p3 (Nat.add (Nat.add o4 (Nat.mul n7 3)) 0) fun v8 =>
 AsSlc (a 0) fun p9 o10 l11 c12 =>
 AsCnt (a 4) fun n13 =>
 Must (ltN n13 l11) (
 Ld H p9 (Nat.add (Nat.add o10 (Nat.mul n13 3)) 0) fun v14 =>
 AsNat .u64 v8 fun n15 =>
 AsNat .u64 v14 fun n16 =>
 Cd (eqN n15 n16) (
 K .ret (upd (upd (upd (upd (upd (upd (upd (upd (upd (upd (upd (upd (upd (upd (upd a 43 (a 5)) 44 (a 4)) 45 (.bool (ltZ z1 z2))) 48 (a 0)) 49 (a 5)) 50 (ptr p3 (Nat.add o4 (Nat.mul n7 3)))) 51 (ptr p3 (Nat.add (Nat.add o4 (Nat.mul n7 3)) 0))) 52 v8) 53 (a 0)) 54 (a 4)) 55 (ptr p9 (Nat.add o10 (Nat.mul n13 3)))) 56 (ptr p9 (Nat.add (Nat.add o10 (Nat.mul n13 3)) 0))) 57 v14) 58 (.bool (eqN n15 n16))) 2 (iN (5))) H) (
 AsInt .i64 (a 5) fun z17 =>
 InR (Int.add z17 (Int.ofNat 1)) (
 K .normal (upd (upd (upd (upd (upd (upd (upd (upd (upd (upd (upd (upd (upd (upd (upd (upd (upd a 43 (a 5)) 44 (a 4)) 45 (.bool (ltZ z1 z2))) 48 (a 0)) 49 (a 5)) 50 (ptr p3 (Nat.add o4 (Nat.mul n7 3)))) 51 (ptr p3 (Nat.add (Nat.add o4 (Nat.mul n7 3)) 0))) 52 v8) 53 (a 0)) 54 (a 4)) 55 (ptr p9 (Nat.add o10 (Nat.mul n13 3)))) 56 (ptr p9 (Nat.add (Nat.add o10 (Nat.mul n13 3)) 0))) 57 v14) 58 (.bool (eqN n15 n16))) 46 (a 5)) 47 (i64 (Int.add z17 (Int.ofNat 1)))) 5 (i64 (Int.add z17 (Int.ofNat 1)))) H))))) (
 K (.exit 4) (upd (upd (upd a 43 (a 5)) 44 (a 4)) 45 (.bool (ltZ z1 z2))) H)) := by kernel_rfl
theorem rPlan29C_W (con : CallT) (a : TF) (H : CH) (K : KX) : codeW (lpAt Tryz.prog 44 2) Tryz.prog con a H K =
 (AsInt .i64 (a 7) fun z1 =>
 AsInt .i64 (a 6) fun z2 =>
 Cd (ltZ z2 z1) (
 AsInt .i64 (a 7) fun z3 =>
 InR (Int.sub z3 (Int.ofNat 1)) (
 AsSlc (a 4) fun p4 o5 l6 c7 =>
 AsCnt (i64 (Int.sub z3 (Int.ofNat 1))) fun n8 =>
 Must (ltN n8 l6) (
 Ld H p4 (Nat.add (Nat.add o5 (Nat.mul n8 3)) 0) fun v9 =>
 Ld H p4 (Nat.add (Nat.add o5 (Nat.mul n8 3)) 1) fun v10 =>
 Ld H p4 (Nat.add (Nat.add o5 (Nat.mul n8 3)) 2) fun v11 =>
 AsSlc (a 4) fun p12 o13 l14 c15 =>
 AsCnt (a 7) fun n16 =>
 Must (ltN n16 l14) (
 St H p12 (Nat.add o13 (Nat.mul n16 3)) [v9,v10,v11] fun H17 =>
 AsInt .i64 (a 7) fun z18 =>
 InR (Int.sub z18 (Int.ofNat 1)) (
 K .normal (upd (upd (upd (upd (upd (upd (upd (upd (upd (upd (upd (upd (upd (upd a 45 (a 7)) 46 (a 6)) 47 (.bool (ltZ z2 z1))) 50 (a 4)) 51 (a 7)) 52 (a 4)) 53 (a 7)) 54 (i64 (Int.sub z3 (Int.ofNat 1)))) 55 (ptr p4 (Nat.add o5 (Nat.mul n8 3)))) 56 (.agg ⟨[v9,v10,v11]⟩)) 57 (ptr p12 (Nat.add o13 (Nat.mul n16 3)))) 48 (a 7)) 49 (i64 (Int.sub z18 (Int.ofNat 1)))) 7 (i64 (Int.sub z18 (Int.ofNat 1)))) H17))))) (
 K (.exit 4) (upd (upd (upd a 45 (a 7)) 46 (a 6)) 47 (.bool (ltZ z2 z1))) H)) := by kernel_rfl
theorem rPlan29D_W (con : CallT) (a : TF) (H : CH) (K : KX) : codeW (lpAt Tryz.prog 44 3) Tryz.prog con a H K =
 (AsLen (a 4) fun l1 =>
 AsInt .i64 (a 8) fun z2 =>
 Cd (ltZ z2 (Int.ofNat l1)) (
 AsSlc (a 4) fun p3 o4 l5 c6 =>
 AsCnt (a 8) fun n7 =>
 Must (ltN n7 l5) (
 Ld H p3 (Nat.add (Nat.add o4 (Nat.mul n7 3)) 0) fun v8 =>
 AsSlc (a 4) fun p9 o10 l11 c12 =>
 AsCnt (a 8) fun n13 =>
 Must (ltN n13 l11) (
 Ld H p9 (Nat.add (Nat.add o10 (Nat.mul n13 3)) 1) fun v14 =>
 AsNat .u64 v14 fun n15 =>
 AsSlc (a 4) fun p16 o17 l18 c19 =>
 AsCnt (a 8) fun n20 =>
 Must (ltN n20 l18) (
 Ld H p16 (Nat.add (Nat.add o17 (Nat.mul n20 3)) 2) fun v21 =>
 AsNat .u64 v21 fun n22 =>
 Sc v8 (Nw H (mkRow 23 0 [v8,(u64 ((Nat.mod (Nat.mul 4 n15) 18446744073709551616))),(u64 ((Nat.mod (Nat.mul 4 n22) 18446744073709551616)))]) fun p23 H24 =>
 App Tryz.prog 22 22 H24 (a 3) (.slice (some ⟨p23,0,none⟩) 3 3) fun v25 H26 =>
 AsInt .i64 (a 8) fun z27 =>
 InR (Int.add z27 (Int.ofNat 1)) (
 K .normal (upd (upd (upd (upd (upd (upd (upd (upd (upd (upd (upd (upd (upd (upd (upd (upd (upd (upd (upd (upd (upd (upd (upd (upd (upd (upd (upd (upd a 65 (a 8)) 66 (a 4)) 67 (iN (l1))) 68 (.bool (ltZ z2 (Int.ofNat l1)))) 71 (a 3)) 72 (a 4)) 73 (a 8)) 74 (ptr p3 (Nat.add o4 (Nat.mul n7 3)))) 75 (ptr p3 (Nat.add (Nat.add o4 (Nat.mul n7 3)) 0))) 76 v8) 77 (a 4)) 78 (a 8)) 79 (ptr p9 (Nat.add o10 (Nat.mul n13 3)))) 80 (ptr p9 (Nat.add (Nat.add o10 (Nat.mul n13 3)) 1))) 81 v14) 82 (u64 ((Nat.mod (Nat.mul 4 n15) 18446744073709551616)))) 83 (a 4)) 84 (a 8)) 85 (ptr p16 (Nat.add o17 (Nat.mul n20 3)))) 86 (ptr p16 (Nat.add (Nat.add o17 (Nat.mul n20 3)) 2))) 87 v21) 88 (u64 ((Nat.mod (Nat.mul 4 n22) 18446744073709551616)))) 89 (.slice (some ⟨p23,0,none⟩) 3 3)) 90 v25) 3 v25) 69 (a 8)) 70 (i64 (Int.add z27 (Int.ofNat 1)))) 8 (i64 (Int.add z27 (Int.ofNat 1)))) H26)))))) (
 K (.exit 6) (upd (upd (upd (upd a 65 (a 8)) 66 (a 4)) 67 (iN (l1))) 68 (.bool (ltZ z2 (Int.ofNat l1)))) H)) := by kernel_rfl
end Go.Proofs.YtnkbmaccgifeoaaGreat

