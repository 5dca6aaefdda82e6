/-
  No cell of these rows narrows 'for every input' (looked for: loops, veiled, ifaces, maps, wideKeys, modest, calm, conditions, laid).
  DERIVED. THE GIVEN ROWS OF THIS SEAT. 3 by the template 'for every input the law returns true; each argument reads behind the call as it read before'; 0 by the template 'total and deterministic' (their statements: YtnkbmaccgifeoaaGreatTotals.lean).
  GIVEN WITH THE SEED: the statements are not yours to turn. If you find one false, say at which input.
  Laid BY PROGRAM, IN A SANDBOX (cutbox-rows.mjs): the forced cells as the released guide's own fill.sh prints them over the translation 06da06c6fccdf25b… (all of the seat's roots in one cut). By AI agents, Wed Nov 11 2026. No macro, syntax, notation, axiom, sorry.
-/
import Derived.Test.YtnkbmaccgifeoaaGreatChecked
import GoSem.Claim
import GoSem.ClaimJoined
import GoSem.ClaimMapViews
import Derived.JoinedTies
import Derived.KernelRfl
namespace Go.Proofs.YtnkbmaccgifeoaaGreat
/- THE CELL 'sum', in the pinned program and in every row, IS THE sha256 OF THE DUMP (.gsa) THAT YtnkbmaccgifeoaaGreatProg.lean LOADS. Nothing in Lean hashes anything: it is a label: what it is worth is what the hold of that sum in a sandbox is worth. -/
noncomputable def Tryz.pinned : Pinned := { name := "ytnkbmaccgifeoaagreat", sum := "06da06c6fccdf25bab8e1a3cbf648fd81f96545bf037967b72b7892e1773d07d", checked := Tryz.checked }
namespace Rows
def none {H : Type} : Left H := { results := [], args := [] }

/-- 'shutterlaw29.MultiAny': WHATEVER THE INPUT: true; the input reads as it did. -/
def multiAnySpec : ChangeSpec := { name := "multiAny", fn := fun _ => fun
  | [d1, d2] => { results := [.lit (.bool true)], args := [d1, d2] }
  | _ => none }
def multiAnyRow : OpenClaim := { program := "ytnkbmaccgifeoaagreat", sum := "06da06c6fccdf25bab8e1a3cbf648fd81f96545bf037967b72b7892e1773d07d", func := "shutter/shutterlaw29.MultiAny", spec := "multiAny", inPlace := ["sync/atomic.StoreInt64"], unfollowed := true, recurses := true, apart := false }
def MultiAnySaid : Prop := multiAnyRow.holds Tryz.pinned (OpenSpec.ofChange multiAnySpec)

/-- ITS FALSE NEIGHBOUR: 'it returns false'. Refute it at one input. -/
def multiAnyWrong : ChangeSpec := { name := "multiAny", fn := fun _ => fun
  | [d1, d2] => { results := [.lit (.bool false)], args := [d1, d2] }
  | _ => none }
def MultiAnyWrongFalsely : Prop := multiAnyRow.holds Tryz.pinned (OpenSpec.ofChange multiAnyWrong)

/-- 'shutterlaw29.MultiPlays': WHATEVER THE INPUT: true; the input reads as it did. -/
def multiPlaysSpec : ChangeSpec := { name := "multiPlays", fn := fun _ => fun
  | [d1, d2] => { results := [.lit (.bool true)], args := [d1, d2] }
  | _ => none }
def multiPlaysRow : OpenClaim := { program := "ytnkbmaccgifeoaagreat", sum := "06da06c6fccdf25bab8e1a3cbf648fd81f96545bf037967b72b7892e1773d07d", func := "shutter/shutterlaw29.MultiPlays", spec := "multiPlays", inPlace := ["sync/atomic.StoreInt64"], unfollowed := true, recurses := true, apart := false }
def MultiPlaysSaid : Prop := multiPlaysRow.holds Tryz.pinned (OpenSpec.ofChange multiPlaysSpec)

/-- ITS FALSE NEIGHBOUR: 'it returns false'. Refute it at one input. -/
def multiPlaysWrong : ChangeSpec := { name := "multiPlays", fn := fun _ => fun
  | [d1, d2] => { results := [.lit (.bool false)], args := [d1, d2] }
  | _ => none }
def MultiPlaysWrongFalsely : Prop := multiPlaysRow.holds Tryz.pinned (OpenSpec.ofChange multiPlaysWrong)

/-- 'shutterlaw29.MultiWhole': WHATEVER THE INPUT: true; the input reads as it did. -/
def multiWholeSpec : ChangeSpec := { name := "multiWhole", fn := fun _ => fun
  | [d1, d2, d3] => { results := [.lit (.bool true)], args := [d1, d2, d3] }
  | _ => none }
def multiWholeRow : OpenClaim := { program := "ytnkbmaccgifeoaagreat", sum := "06da06c6fccdf25bab8e1a3cbf648fd81f96545bf037967b72b7892e1773d07d", func := "shutter/shutterlaw29.MultiWhole", spec := "multiWhole", inPlace := ["sync/atomic.StoreInt64"], unfollowed := true, recurses := true, apart := false }
def MultiWholeSaid : Prop := multiWholeRow.holds Tryz.pinned (OpenSpec.ofChange multiWholeSpec)

/-- ITS FALSE NEIGHBOUR: 'it returns false'. Refute it at one input. -/
def multiWholeWrong : ChangeSpec := { name := "multiWhole", fn := fun _ => fun
  | [d1, d2, d3] => { results := [.lit (.bool false)], args := [d1, d2, d3] }
  | _ => none }
def MultiWholeWrongFalsely : Prop := multiWholeRow.holds Tryz.pinned (OpenSpec.ofChange multiWholeWrong)

/- THE SECOND FORM. 'bulk': how many values and letters a reading holds, each counted each time it is reached (what is shared counts as often as it is met; a slice's spare places count too). A statement '..UptoSaid' is the law's where the arguments, and the package variables that the reading takes, are together of bulk at most 1048576: NARROWER than '..Said'. Prove '..Said' where nothing that the law and all that it calls make is longer than what came in: it says more and counts as full. Else prove '..UptoSaid'. A law counts once. -/
mutual
def uptoBulk {H : Type} : DataW H → Nat
  | .lit (.string bytes) => bytes.length + 1
  | .lit _ => 1
  | .nil => 1
  | .ptr d => uptoBulk d + 1
  | .slice elems spare => uptoBulkAll elems + uptoBulkAll spare + 1
  | .agg parts => uptoBulkAll parts + 1
  | .iface _ d => uptoBulk d + 1
  | .map entries => uptoBulkEntries entries + 1
  | .held _ => 1
def uptoBulkAll {H : Type} : List (DataW H) → Nat
  | [] => 0
  | d :: r => uptoBulk d + uptoBulkAll r
def uptoBulkEntries {H : Type} : List (Lit × DataW H) → Nat
  | [] => 0
  | x :: r => uptoBulkEntry x + uptoBulkEntries r
def uptoBulkEntry {H : Type} : Lit × DataW H → Nat
  | (.string bytes, d) => bytes.length + uptoBulk d + 1
  | (_, d) => uptoBulk d + 1
 end
def uptoSmall : (H : Type) → List (DataW H) → Bool := fun _ ds => decide (uptoBulkAll ds ≤ 1048576)
def OpenSpec.upto (s : _root_.Go.ChangeSpec) : _root_.Go.OpenSpec := { _root_.Go.OpenSpec.ofChange s with cond := some uptoSmall }

/-- 'shutterlaw29.MultiAny', WHERE WHAT IT READS IS OF BULK AT MOST 1048576: true; the input reads as it did. -/
def multiAnyUptoRow : OpenClaim := { program := "ytnkbmaccgifeoaagreat", sum := "06da06c6fccdf25bab8e1a3cbf648fd81f96545bf037967b72b7892e1773d07d", func := "shutter/shutterlaw29.MultiAny", spec := "multiAny", inPlace := ["sync/atomic.StoreInt64"], unfollowed := true, recurses := true, apart := false, narrowed := true }
def MultiAnyUptoSaid : Prop := multiAnyUptoRow.holds Tryz.pinned (OpenSpec.upto multiAnySpec)

/-- 'shutterlaw29.MultiPlays', WHERE WHAT IT READS IS OF BULK AT MOST 1048576: true; the input reads as it did. -/
def multiPlaysUptoRow : OpenClaim := { program := "ytnkbmaccgifeoaagreat", sum := "06da06c6fccdf25bab8e1a3cbf648fd81f96545bf037967b72b7892e1773d07d", func := "shutter/shutterlaw29.MultiPlays", spec := "multiPlays", inPlace := ["sync/atomic.StoreInt64"], unfollowed := true, recurses := true, apart := false, narrowed := true }
def MultiPlaysUptoSaid : Prop := multiPlaysUptoRow.holds Tryz.pinned (OpenSpec.upto multiPlaysSpec)

/-- 'shutterlaw29.MultiWhole', WHERE WHAT IT READS IS OF BULK AT MOST 1048576: true; the input reads as it did. -/
def multiWholeUptoRow : OpenClaim := { program := "ytnkbmaccgifeoaagreat", sum := "06da06c6fccdf25bab8e1a3cbf648fd81f96545bf037967b72b7892e1773d07d", func := "shutter/shutterlaw29.MultiWhole", spec := "multiWhole", inPlace := ["sync/atomic.StoreInt64"], unfollowed := true, recurses := true, apart := false, narrowed := true }
def MultiWholeUptoSaid : Prop := multiWholeUptoRow.holds Tryz.pinned (OpenSpec.upto multiWholeSpec)

end Rows
end Go.Proofs.YtnkbmaccgifeoaaGreat
