/-
  No cell of these rows narrows 'for every input' (looked for: loops, veiled, ifaces, maps, wideKeys, modest, calm, conditions, laid).
  DERIVED. THE GIVEN ROWS OF THIS SEAT. 8 by the template 'for every input the law returns true; each argument reads behind the call as it read before'; 0 by the template 'total and deterministic' (their statements: YtipbbnoepphdkaaTotals.lean).
  GIVEN WITH THE SEED: the statements are not yours to turn. If you find one false, say at which input.
  Laid BY PROGRAM, IN A SANDBOX (cutbox-rows.mjs): the forced cells as the released guide's own fill.sh prints them over the translation 9c3f61d9aaf16444… (all of the seat's roots in one cut). By AI agents, Wed Nov 11 2026. No macro, syntax, notation, axiom, sorry.
-/
import Derived.Test.YtipbbnoepphdkaaChecked
import GoSem.Claim
import GoSem.ClaimJoined
import GoSem.ClaimMapViews
import Derived.JoinedTies
import Derived.KernelRfl
namespace Go.Proofs.Ytipbbnoepphdkaa
/- THE CELL 'sum', in the pinned program and in every row, IS THE sha256 OF THE DUMP (.gsa) THAT YtipbbnoepphdkaaProg.lean LOADS. Nothing in Lean hashes anything: it is a label: what it is worth is what the hold of that sum in a sandbox is worth. -/
noncomputable def Try.pinned : Pinned := { name := "ytipbbnoepphdkaa", sum := "9c3f61d9aaf16444591826706dcba522378db4d9cf99ae7e08f5a10d124e41cd", checked := Try.checked }
namespace Rows
def none {H : Type} : Left H := { results := [], args := [] }

/-- 'shutterlaw15.CutNeeded': WHATEVER THE INPUT: true; the input reads as it did. -/
def cutNeededSpec : ChangeSpec := { name := "cutNeeded", fn := fun _ => fun
  | [d1, d2, d3] => { results := [.lit (.bool true)], args := [d1, d2, d3] }
  | _ => none }
def cutNeededRow : OpenClaim := { program := "ytipbbnoepphdkaa", sum := "9c3f61d9aaf16444591826706dcba522378db4d9cf99ae7e08f5a10d124e41cd", func := "shutter/shutterlaw15.CutNeeded", spec := "cutNeeded", inPlace := ["sync/atomic.StoreInt64"], unfollowed := true, recurses := true, apart := false }
def CutNeededSaid : Prop := cutNeededRow.holds Try.pinned (OpenSpec.ofChange cutNeededSpec)

/-- ITS FALSE NEIGHBOUR: 'it returns false'. Refute it at one input. -/
def cutNeededWrong : ChangeSpec := { name := "cutNeeded", fn := fun _ => fun
  | [d1, d2, d3] => { results := [.lit (.bool false)], args := [d1, d2, d3] }
  | _ => none }
def CutNeededWrongFalsely : Prop := cutNeededRow.holds Try.pinned (OpenSpec.ofChange cutNeededWrong)

/-- 'shutterlaw15.CutNone': WHATEVER THE INPUT: true; the input reads as it did. -/
def cutNoneSpec : ChangeSpec := { name := "cutNone", fn := fun _ => fun
  | [d1, d2] => { results := [.lit (.bool true)], args := [d1, d2] }
  | _ => none }
def cutNoneRow : OpenClaim := { program := "ytipbbnoepphdkaa", sum := "9c3f61d9aaf16444591826706dcba522378db4d9cf99ae7e08f5a10d124e41cd", func := "shutter/shutterlaw15.CutNone", spec := "cutNone", inPlace := ["sync/atomic.StoreInt64"], unfollowed := true, recurses := true, apart := false }
def CutNoneSaid : Prop := cutNoneRow.holds Try.pinned (OpenSpec.ofChange cutNoneSpec)

/-- ITS FALSE NEIGHBOUR: 'it returns false'. Refute it at one input. -/
def cutNoneWrong : ChangeSpec := { name := "cutNone", fn := fun _ => fun
  | [d1, d2] => { results := [.lit (.bool false)], args := [d1, d2] }
  | _ => none }
def CutNoneWrongFalsely : Prop := cutNoneRow.holds Try.pinned (OpenSpec.ofChange cutNoneWrong)

/-- 'shutterlaw15.CutAny': WHATEVER THE INPUT: true; the input reads as it did. -/
def cutAnySpec : ChangeSpec := { name := "cutAny", fn := fun _ => fun
  | [d1, d2, d3] => { results := [.lit (.bool true)], args := [d1, d2, d3] }
  | _ => none }
def cutAnyRow : OpenClaim := { program := "ytipbbnoepphdkaa", sum := "9c3f61d9aaf16444591826706dcba522378db4d9cf99ae7e08f5a10d124e41cd", func := "shutter/shutterlaw15.CutAny", spec := "cutAny", inPlace := ["sync/atomic.StoreInt64"], unfollowed := true, recurses := true, apart := false }
def CutAnySaid : Prop := cutAnyRow.holds Try.pinned (OpenSpec.ofChange cutAnySpec)

/-- ITS FALSE NEIGHBOUR: 'it returns false'. Refute it at one input. -/
def cutAnyWrong : ChangeSpec := { name := "cutAny", fn := fun _ => fun
  | [d1, d2, d3] => { results := [.lit (.bool false)], args := [d1, d2, d3] }
  | _ => none }
def CutAnyWrongFalsely : Prop := cutAnyRow.holds Try.pinned (OpenSpec.ofChange cutAnyWrong)

/-- 'shutterlaw15.CutKeeps': WHATEVER THE INPUT: true; the input reads as it did. -/
def cutKeepsSpec : ChangeSpec := { name := "cutKeeps", fn := fun _ => fun
  | [d1, d2, d3] => { results := [.lit (.bool true)], args := [d1, d2, d3] }
  | _ => none }
def cutKeepsRow : OpenClaim := { program := "ytipbbnoepphdkaa", sum := "9c3f61d9aaf16444591826706dcba522378db4d9cf99ae7e08f5a10d124e41cd", func := "shutter/shutterlaw15.CutKeeps", spec := "cutKeeps", inPlace := ["sync/atomic.StoreInt64"], unfollowed := true, recurses := true, apart := false }
def CutKeepsSaid : Prop := cutKeepsRow.holds Try.pinned (OpenSpec.ofChange cutKeepsSpec)

/-- ITS FALSE NEIGHBOUR: 'it returns false'. Refute it at one input. -/
def cutKeepsWrong : ChangeSpec := { name := "cutKeeps", fn := fun _ => fun
  | [d1, d2, d3] => { results := [.lit (.bool false)], args := [d1, d2, d3] }
  | _ => none }
def CutKeepsWrongFalsely : Prop := cutKeepsRow.holds Try.pinned (OpenSpec.ofChange cutKeepsWrong)

/-- 'shutterlaw15.CutLeaves': WHATEVER THE INPUT: true; the input reads as it did. -/
def cutLeavesSpec : ChangeSpec := { name := "cutLeaves", fn := fun _ => fun
  | [d1, d2] => { results := [.lit (.bool true)], args := [d1, d2] }
  | _ => none }
def cutLeavesRow : OpenClaim := { program := "ytipbbnoepphdkaa", sum := "9c3f61d9aaf16444591826706dcba522378db4d9cf99ae7e08f5a10d124e41cd", func := "shutter/shutterlaw15.CutLeaves", spec := "cutLeaves", inPlace := ["sync/atomic.StoreInt64"], unfollowed := true, recurses := true, apart := false }
def CutLeavesSaid : Prop := cutLeavesRow.holds Try.pinned (OpenSpec.ofChange cutLeavesSpec)

/-- ITS FALSE NEIGHBOUR: 'it returns false'. Refute it at one input. -/
def cutLeavesWrong : ChangeSpec := { name := "cutLeaves", fn := fun _ => fun
  | [d1, d2] => { results := [.lit (.bool false)], args := [d1, d2] }
  | _ => none }
def CutLeavesWrongFalsely : Prop := cutLeavesRow.holds Try.pinned (OpenSpec.ofChange cutLeavesWrong)

/-- 'shutterlaw14.HandleNone': WHATEVER THE INPUT: true; the input reads as it did. -/
def handleNoneSpec : ChangeSpec := { name := "handleNone", fn := fun _ => fun
  | [d1, d2, d3] => { results := [.lit (.bool true)], args := [d1, d2, d3] }
  | _ => none }
def handleNoneRow : OpenClaim := { program := "ytipbbnoepphdkaa", sum := "9c3f61d9aaf16444591826706dcba522378db4d9cf99ae7e08f5a10d124e41cd", func := "shutter/shutterlaw14.HandleNone", spec := "handleNone", inPlace := ["sync/atomic.StoreInt64"], unfollowed := true, recurses := true, apart := false }
def HandleNoneSaid : Prop := handleNoneRow.holds Try.pinned (OpenSpec.ofChange handleNoneSpec)

/-- ITS FALSE NEIGHBOUR: 'it returns false'. Refute it at one input. -/
def handleNoneWrong : ChangeSpec := { name := "handleNone", fn := fun _ => fun
  | [d1, d2, d3] => { results := [.lit (.bool false)], args := [d1, d2, d3] }
  | _ => none }
def HandleNoneWrongFalsely : Prop := handleNoneRow.holds Try.pinned (OpenSpec.ofChange handleNoneWrong)

/-- 'shutterlaw13.AnnounceNone': WHATEVER THE INPUT: true; the input reads as it did. -/
def announceNoneSpec : ChangeSpec := { name := "announceNone", fn := fun _ => fun
  | [d1, d2] => { results := [.lit (.bool true)], args := [d1, d2] }
  | _ => none }
def announceNoneRow : OpenClaim := { program := "ytipbbnoepphdkaa", sum := "9c3f61d9aaf16444591826706dcba522378db4d9cf99ae7e08f5a10d124e41cd", func := "shutter/shutterlaw13.AnnounceNone", spec := "announceNone", inPlace := ["sync/atomic.StoreInt64"], unfollowed := true, recurses := true, apart := false }
def AnnounceNoneSaid : Prop := announceNoneRow.holds Try.pinned (OpenSpec.ofChange announceNoneSpec)

/-- ITS FALSE NEIGHBOUR: 'it returns false'. Refute it at one input. -/
def announceNoneWrong : ChangeSpec := { name := "announceNone", fn := fun _ => fun
  | [d1, d2] => { results := [.lit (.bool false)], args := [d1, d2] }
  | _ => none }
def AnnounceNoneWrongFalsely : Prop := announceNoneRow.holds Try.pinned (OpenSpec.ofChange announceNoneWrong)

/-- 'shutterlaw29.MultiNone': WHATEVER THE INPUT: true; the input reads as it did. -/
def multiNoneSpec : ChangeSpec := { name := "multiNone", fn := fun _ => fun
  | [d] => { results := [.lit (.bool true)], args := [d] }
  | _ => none }
def multiNoneRow : OpenClaim := { program := "ytipbbnoepphdkaa", sum := "9c3f61d9aaf16444591826706dcba522378db4d9cf99ae7e08f5a10d124e41cd", func := "shutter/shutterlaw29.MultiNone", spec := "multiNone", inPlace := ["sync/atomic.StoreInt64"], unfollowed := true, recurses := true, apart := false }
def MultiNoneSaid : Prop := multiNoneRow.holds Try.pinned (OpenSpec.ofChange multiNoneSpec)

/-- ITS FALSE NEIGHBOUR: 'it returns false'. Refute it at one input. -/
def multiNoneWrong : ChangeSpec := { name := "multiNone", fn := fun _ => fun
  | [d] => { results := [.lit (.bool false)], args := [d] }
  | _ => none }
def MultiNoneWrongFalsely : Prop := multiNoneRow.holds Try.pinned (OpenSpec.ofChange multiNoneWrong)

/- THE SECOND FORM. 'bulk': how many values and letters a reading holds, each counted each time it is reached (what is shared counts as often as it is met; a slice's spare places count too). A statement '..UptoSaid' is the law's where the arguments, and the package variables that the reading takes, are together of bulk at most 1048576: NARROWER than '..Said'. Prove '..Said' where nothing that the law and all that it calls make is longer than what came in: it says more and counts as full. Else prove '..UptoSaid'. A law counts once. -/
mutual
def uptoBulk {H : Type} : DataW H → Nat
  | .lit (.string bytes) => bytes.length + 1
  | .lit _ => 1
  | .nil => 1
  | .ptr d => uptoBulk d + 1
  | .slice elems spare => uptoBulkAll elems + uptoBulkAll spare + 1
  | .agg parts => uptoBulkAll parts + 1
  | .iface _ d => uptoBulk d + 1
  | .map entries => uptoBulkEntries entries + 1
  | .held _ => 1
def uptoBulkAll {H : Type} : List (DataW H) → Nat
  | [] => 0
  | d :: r => uptoBulk d + uptoBulkAll r
def uptoBulkEntries {H : Type} : List (Lit × DataW H) → Nat
  | [] => 0
  | x :: r => uptoBulkEntry x + uptoBulkEntries r
def uptoBulkEntry {H : Type} : Lit × DataW H → Nat
  | (.string bytes, d) => bytes.length + uptoBulk d + 1
  | (_, d) => uptoBulk d + 1
 end
def uptoSmall : (H : Type) → List (DataW H) → Bool := fun _ ds => decide (uptoBulkAll ds ≤ 1048576)
def OpenSpec.upto (s : _root_.Go.ChangeSpec) : _root_.Go.OpenSpec := { _root_.Go.OpenSpec.ofChange s with cond := some uptoSmall }

/-- 'shutterlaw15.CutNeeded', WHERE WHAT IT READS IS OF BULK AT MOST 1048576: true; the input reads as it did. -/
def cutNeededUptoRow : OpenClaim := { program := "ytipbbnoepphdkaa", sum := "9c3f61d9aaf16444591826706dcba522378db4d9cf99ae7e08f5a10d124e41cd", func := "shutter/shutterlaw15.CutNeeded", spec := "cutNeeded", inPlace := ["sync/atomic.StoreInt64"], unfollowed := true, recurses := true, apart := false, narrowed := true }
def CutNeededUptoSaid : Prop := cutNeededUptoRow.holds Try.pinned (OpenSpec.upto cutNeededSpec)

/-- 'shutterlaw15.CutNone', WHERE WHAT IT READS IS OF BULK AT MOST 1048576: true; the input reads as it did. -/
def cutNoneUptoRow : OpenClaim := { program := "ytipbbnoepphdkaa", sum := "9c3f61d9aaf16444591826706dcba522378db4d9cf99ae7e08f5a10d124e41cd", func := "shutter/shutterlaw15.CutNone", spec := "cutNone", inPlace := ["sync/atomic.StoreInt64"], unfollowed := true, recurses := true, apart := false, narrowed := true }
def CutNoneUptoSaid : Prop := cutNoneUptoRow.holds Try.pinned (OpenSpec.upto cutNoneSpec)

/-- 'shutterlaw15.CutAny', WHERE WHAT IT READS IS OF BULK AT MOST 1048576: true; the input reads as it did. -/
def cutAnyUptoRow : OpenClaim := { program := "ytipbbnoepphdkaa", sum := "9c3f61d9aaf16444591826706dcba522378db4d9cf99ae7e08f5a10d124e41cd", func := "shutter/shutterlaw15.CutAny", spec := "cutAny", inPlace := ["sync/atomic.StoreInt64"], unfollowed := true, recurses := true, apart := false, narrowed := true }
def CutAnyUptoSaid : Prop := cutAnyUptoRow.holds Try.pinned (OpenSpec.upto cutAnySpec)

/-- 'shutterlaw15.CutKeeps', WHERE WHAT IT READS IS OF BULK AT MOST 1048576: true; the input reads as it did. -/
def cutKeepsUptoRow : OpenClaim := { program := "ytipbbnoepphdkaa", sum := "9c3f61d9aaf16444591826706dcba522378db4d9cf99ae7e08f5a10d124e41cd", func := "shutter/shutterlaw15.CutKeeps", spec := "cutKeeps", inPlace := ["sync/atomic.StoreInt64"], unfollowed := true, recurses := true, apart := false, narrowed := true }
def CutKeepsUptoSaid : Prop := cutKeepsUptoRow.holds Try.pinned (OpenSpec.upto cutKeepsSpec)

/-- 'shutterlaw15.CutLeaves', WHERE WHAT IT READS IS OF BULK AT MOST 1048576: true; the input reads as it did. -/
def cutLeavesUptoRow : OpenClaim := { program := "ytipbbnoepphdkaa", sum := "9c3f61d9aaf16444591826706dcba522378db4d9cf99ae7e08f5a10d124e41cd", func := "shutter/shutterlaw15.CutLeaves", spec := "cutLeaves", inPlace := ["sync/atomic.StoreInt64"], unfollowed := true, recurses := true, apart := false, narrowed := true }
def CutLeavesUptoSaid : Prop := cutLeavesUptoRow.holds Try.pinned (OpenSpec.upto cutLeavesSpec)

/-- 'shutterlaw14.HandleNone', WHERE WHAT IT READS IS OF BULK AT MOST 1048576: true; the input reads as it did. -/
def handleNoneUptoRow : OpenClaim := { program := "ytipbbnoepphdkaa", sum := "9c3f61d9aaf16444591826706dcba522378db4d9cf99ae7e08f5a10d124e41cd", func := "shutter/shutterlaw14.HandleNone", spec := "handleNone", inPlace := ["sync/atomic.StoreInt64"], unfollowed := true, recurses := true, apart := false, narrowed := true }
def HandleNoneUptoSaid : Prop := handleNoneUptoRow.holds Try.pinned (OpenSpec.upto handleNoneSpec)

/-- 'shutterlaw13.AnnounceNone', WHERE WHAT IT READS IS OF BULK AT MOST 1048576: true; the input reads as it did. -/
def announceNoneUptoRow : OpenClaim := { program := "ytipbbnoepphdkaa", sum := "9c3f61d9aaf16444591826706dcba522378db4d9cf99ae7e08f5a10d124e41cd", func := "shutter/shutterlaw13.AnnounceNone", spec := "announceNone", inPlace := ["sync/atomic.StoreInt64"], unfollowed := true, recurses := true, apart := false, narrowed := true }
def AnnounceNoneUptoSaid : Prop := announceNoneUptoRow.holds Try.pinned (OpenSpec.upto announceNoneSpec)

/-- 'shutterlaw29.MultiNone', WHERE WHAT IT READS IS OF BULK AT MOST 1048576: true; the input reads as it did. -/
def multiNoneUptoRow : OpenClaim := { program := "ytipbbnoepphdkaa", sum := "9c3f61d9aaf16444591826706dcba522378db4d9cf99ae7e08f5a10d124e41cd", func := "shutter/shutterlaw29.MultiNone", spec := "multiNone", inPlace := ["sync/atomic.StoreInt64"], unfollowed := true, recurses := true, apart := false, narrowed := true }
def MultiNoneUptoSaid : Prop := multiNoneUptoRow.holds Try.pinned (OpenSpec.upto multiNoneSpec)

end Rows
end Go.Proofs.Ytipbbnoepphdkaa
