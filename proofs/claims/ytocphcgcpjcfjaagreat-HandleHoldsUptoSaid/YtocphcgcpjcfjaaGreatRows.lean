/-
  No cell of these rows narrows 'for every input' (looked for: loops, veiled, ifaces, maps, wideKeys, modest, calm, conditions, laid).
  DERIVED. THE GIVEN ROWS OF THIS SEAT. 6 by the template 'for every input the law returns true; each argument reads behind the call as it read before'; 0 by the template 'total and deterministic' (their statements: YtocphcgcpjcfjaaGreatTotals.lean).
  GIVEN WITH THE SEED: the statements are not yours to turn. If you find one false, say at which input.
  Laid BY PROGRAM, IN A SANDBOX (cutbox-rows.mjs): the forced cells as the released guide's own fill.sh prints them over the translation 281ded384ca101fd… (all of the seat's roots in one cut). By AI agents, Wed Nov 11 2026. No macro, syntax, notation, axiom, sorry.
-/
import Derived.Test.YtocphcgcpjcfjaaGreatChecked
import GoSem.Claim
import GoSem.ClaimJoined
import GoSem.ClaimMapViews
import Derived.JoinedTies
import Derived.KernelRfl
namespace Go.Proofs.YtocphcgcpjcfjaaGreat
/- THE CELL 'sum', in the pinned program and in every row, IS THE sha256 OF THE DUMP (.gsa) THAT YtocphcgcpjcfjaaGreatProg.lean LOADS. Nothing in Lean hashes anything: it is a label: what it is worth is what the hold of that sum in a sandbox is worth. -/
noncomputable def Tryz.pinned : Pinned := { name := "ytocphcgcpjcfjaagreat", sum := "281ded384ca101fd99004d1a769d5eacbd1f2931bed88e5d5fae675da6804d0f", checked := Tryz.checked }
namespace Rows
def none {H : Type} : Left H := { results := [], args := [] }

/-- 'shutterlaw13.AnnounceOnce': WHATEVER THE INPUT: true; the input reads as it did. -/
def announceOnceSpec : ChangeSpec := { name := "announceOnce", fn := fun _ => fun
  | [d] => { results := [.lit (.bool true)], args := [d] }
  | _ => none }
def announceOnceRow : OpenClaim := { program := "ytocphcgcpjcfjaagreat", sum := "281ded384ca101fd99004d1a769d5eacbd1f2931bed88e5d5fae675da6804d0f", func := "shutter/shutterlaw13.AnnounceOnce", spec := "announceOnce", inPlace := ["sync/atomic.StoreInt64"], unfollowed := true, recurses := true, apart := false }
def AnnounceOnceSaid : Prop := announceOnceRow.holds Tryz.pinned (OpenSpec.ofChange announceOnceSpec)

/-- ITS FALSE NEIGHBOUR: 'it returns false'. Refute it at one input. -/
def announceOnceWrong : ChangeSpec := { name := "announceOnce", fn := fun _ => fun
  | [d] => { results := [.lit (.bool false)], args := [d] }
  | _ => none }
def AnnounceOnceWrongFalsely : Prop := announceOnceRow.holds Tryz.pinned (OpenSpec.ofChange announceOnceWrong)

/-- 'shutterlaw13.AnnounceOwn': WHATEVER THE INPUT: true; the input reads as it did. -/
def announceOwnSpec : ChangeSpec := { name := "announceOwn", fn := fun _ => fun
  | [d] => { results := [.lit (.bool true)], args := [d] }
  | _ => none }
def announceOwnRow : OpenClaim := { program := "ytocphcgcpjcfjaagreat", sum := "281ded384ca101fd99004d1a769d5eacbd1f2931bed88e5d5fae675da6804d0f", func := "shutter/shutterlaw13.AnnounceOwn", spec := "announceOwn", inPlace := ["sync/atomic.StoreInt64"], unfollowed := true, recurses := true, apart := false }
def AnnounceOwnSaid : Prop := announceOwnRow.holds Tryz.pinned (OpenSpec.ofChange announceOwnSpec)

/-- ITS FALSE NEIGHBOUR: 'it returns false'. Refute it at one input. -/
def announceOwnWrong : ChangeSpec := { name := "announceOwn", fn := fun _ => fun
  | [d] => { results := [.lit (.bool false)], args := [d] }
  | _ => none }
def AnnounceOwnWrongFalsely : Prop := announceOwnRow.holds Tryz.pinned (OpenSpec.ofChange announceOwnWrong)

/-- 'shutterlaw14.HandleRuns': WHATEVER THE INPUT: true; the input reads as it did. -/
def handleRunsSpec : ChangeSpec := { name := "handleRuns", fn := fun _ => fun
  | [d] => { results := [.lit (.bool true)], args := [d] }
  | _ => none }
def handleRunsRow : OpenClaim := { program := "ytocphcgcpjcfjaagreat", sum := "281ded384ca101fd99004d1a769d5eacbd1f2931bed88e5d5fae675da6804d0f", func := "shutter/shutterlaw14.HandleRuns", spec := "handleRuns", inPlace := ["sync/atomic.StoreInt64"], unfollowed := true, recurses := true, apart := false }
def HandleRunsSaid : Prop := handleRunsRow.holds Tryz.pinned (OpenSpec.ofChange handleRunsSpec)

/-- ITS FALSE NEIGHBOUR: 'it returns false'. Refute it at one input. -/
def handleRunsWrong : ChangeSpec := { name := "handleRuns", fn := fun _ => fun
  | [d] => { results := [.lit (.bool false)], args := [d] }
  | _ => none }
def HandleRunsWrongFalsely : Prop := handleRunsRow.holds Tryz.pinned (OpenSpec.ofChange handleRunsWrong)

/-- 'shutterlaw14.HandleLive': WHATEVER THE INPUT: true; the input reads as it did. -/
def handleLiveSpec : ChangeSpec := { name := "handleLive", fn := fun _ => fun
  | [d1, d2] => { results := [.lit (.bool true)], args := [d1, d2] }
  | _ => none }
def handleLiveRow : OpenClaim := { program := "ytocphcgcpjcfjaagreat", sum := "281ded384ca101fd99004d1a769d5eacbd1f2931bed88e5d5fae675da6804d0f", func := "shutter/shutterlaw14.HandleLive", spec := "handleLive", inPlace := ["sync/atomic.StoreInt64"], unfollowed := true, recurses := true, apart := false }
def HandleLiveSaid : Prop := handleLiveRow.holds Tryz.pinned (OpenSpec.ofChange handleLiveSpec)

/-- ITS FALSE NEIGHBOUR: 'it returns false'. Refute it at one input. -/
def handleLiveWrong : ChangeSpec := { name := "handleLive", fn := fun _ => fun
  | [d1, d2] => { results := [.lit (.bool false)], args := [d1, d2] }
  | _ => none }
def HandleLiveWrongFalsely : Prop := handleLiveRow.holds Tryz.pinned (OpenSpec.ofChange handleLiveWrong)

/-- 'shutterlaw14.HandleOwn': WHATEVER THE INPUT: true; the input reads as it did. -/
def handleOwnSpec : ChangeSpec := { name := "handleOwn", fn := fun _ => fun
  | [d] => { results := [.lit (.bool true)], args := [d] }
  | _ => none }
def handleOwnRow : OpenClaim := { program := "ytocphcgcpjcfjaagreat", sum := "281ded384ca101fd99004d1a769d5eacbd1f2931bed88e5d5fae675da6804d0f", func := "shutter/shutterlaw14.HandleOwn", spec := "handleOwn", inPlace := ["sync/atomic.StoreInt64"], unfollowed := true, recurses := true, apart := false }
def HandleOwnSaid : Prop := handleOwnRow.holds Tryz.pinned (OpenSpec.ofChange handleOwnSpec)

/-- ITS FALSE NEIGHBOUR: 'it returns false'. Refute it at one input. -/
def handleOwnWrong : ChangeSpec := { name := "handleOwn", fn := fun _ => fun
  | [d] => { results := [.lit (.bool false)], args := [d] }
  | _ => none }
def HandleOwnWrongFalsely : Prop := handleOwnRow.holds Tryz.pinned (OpenSpec.ofChange handleOwnWrong)

/-- 'shutterlaw14.HandleHolds': WHATEVER THE INPUT: true; the input reads as it did. -/
def handleHoldsSpec : ChangeSpec := { name := "handleHolds", fn := fun _ => fun
  | [d] => { results := [.lit (.bool true)], args := [d] }
  | _ => none }
def handleHoldsRow : OpenClaim := { program := "ytocphcgcpjcfjaagreat", sum := "281ded384ca101fd99004d1a769d5eacbd1f2931bed88e5d5fae675da6804d0f", func := "shutter/shutterlaw14.HandleHolds", spec := "handleHolds", inPlace := ["sync/atomic.StoreInt64"], unfollowed := true, recurses := true, apart := false }
def HandleHoldsSaid : Prop := handleHoldsRow.holds Tryz.pinned (OpenSpec.ofChange handleHoldsSpec)

/-- ITS FALSE NEIGHBOUR: 'it returns false'. Refute it at one input. -/
def handleHoldsWrong : ChangeSpec := { name := "handleHolds", fn := fun _ => fun
  | [d] => { results := [.lit (.bool false)], args := [d] }
  | _ => none }
def HandleHoldsWrongFalsely : Prop := handleHoldsRow.holds Tryz.pinned (OpenSpec.ofChange handleHoldsWrong)

/- THE SECOND FORM. 'bulk': how many values and letters a reading holds, each counted each time it is reached (what is shared counts as often as it is met; a slice's spare places count too). A statement '..UptoSaid' is the law's where the arguments, and the package variables that the reading takes, are together of bulk at most 1048576: NARROWER than '..Said'. Prove '..Said' where nothing that the law and all that it calls make is longer than what came in: it says more and counts as full. Else prove '..UptoSaid'. A law counts once. -/
mutual
def uptoBulk {H : Type} : DataW H → Nat
  | .lit (.string bytes) => bytes.length + 1
  | .lit _ => 1
  | .nil => 1
  | .ptr d => uptoBulk d + 1
  | .slice elems spare => uptoBulkAll elems + uptoBulkAll spare + 1
  | .agg parts => uptoBulkAll parts + 1
  | .iface _ d => uptoBulk d + 1
  | .map entries => uptoBulkEntries entries + 1
  | .held _ => 1
def uptoBulkAll {H : Type} : List (DataW H) → Nat
  | [] => 0
  | d :: r => uptoBulk d + uptoBulkAll r
def uptoBulkEntries {H : Type} : List (Lit × DataW H) → Nat
  | [] => 0
  | x :: r => uptoBulkEntry x + uptoBulkEntries r
def uptoBulkEntry {H : Type} : Lit × DataW H → Nat
  | (.string bytes, d) => bytes.length + uptoBulk d + 1
  | (_, d) => uptoBulk d + 1
 end
def uptoSmall : (H : Type) → List (DataW H) → Bool := fun _ ds => decide (uptoBulkAll ds ≤ 1048576)
def OpenSpec.upto (s : _root_.Go.ChangeSpec) : _root_.Go.OpenSpec := { _root_.Go.OpenSpec.ofChange s with cond := some uptoSmall }

/-- 'shutterlaw13.AnnounceOnce', WHERE WHAT IT READS IS OF BULK AT MOST 1048576: true; the input reads as it did. -/
def announceOnceUptoRow : OpenClaim := { program := "ytocphcgcpjcfjaagreat", sum := "281ded384ca101fd99004d1a769d5eacbd1f2931bed88e5d5fae675da6804d0f", func := "shutter/shutterlaw13.AnnounceOnce", spec := "announceOnce", inPlace := ["sync/atomic.StoreInt64"], unfollowed := true, recurses := true, apart := false, narrowed := true }
def AnnounceOnceUptoSaid : Prop := announceOnceUptoRow.holds Tryz.pinned (OpenSpec.upto announceOnceSpec)

/-- 'shutterlaw13.AnnounceOwn', WHERE WHAT IT READS IS OF BULK AT MOST 1048576: true; the input reads as it did. -/
def announceOwnUptoRow : OpenClaim := { program := "ytocphcgcpjcfjaagreat", sum := "281ded384ca101fd99004d1a769d5eacbd1f2931bed88e5d5fae675da6804d0f", func := "shutter/shutterlaw13.AnnounceOwn", spec := "announceOwn", inPlace := ["sync/atomic.StoreInt64"], unfollowed := true, recurses := true, apart := false, narrowed := true }
def AnnounceOwnUptoSaid : Prop := announceOwnUptoRow.holds Tryz.pinned (OpenSpec.upto announceOwnSpec)

/-- 'shutterlaw14.HandleRuns', WHERE WHAT IT READS IS OF BULK AT MOST 1048576: true; the input reads as it did. -/
def handleRunsUptoRow : OpenClaim := { program := "ytocphcgcpjcfjaagreat", sum := "281ded384ca101fd99004d1a769d5eacbd1f2931bed88e5d5fae675da6804d0f", func := "shutter/shutterlaw14.HandleRuns", spec := "handleRuns", inPlace := ["sync/atomic.StoreInt64"], unfollowed := true, recurses := true, apart := false, narrowed := true }
def HandleRunsUptoSaid : Prop := handleRunsUptoRow.holds Tryz.pinned (OpenSpec.upto handleRunsSpec)

/-- 'shutterlaw14.HandleLive', WHERE WHAT IT READS IS OF BULK AT MOST 1048576: true; the input reads as it did. -/
def handleLiveUptoRow : OpenClaim := { program := "ytocphcgcpjcfjaagreat", sum := "281ded384ca101fd99004d1a769d5eacbd1f2931bed88e5d5fae675da6804d0f", func := "shutter/shutterlaw14.HandleLive", spec := "handleLive", inPlace := ["sync/atomic.StoreInt64"], unfollowed := true, recurses := true, apart := false, narrowed := true }
def HandleLiveUptoSaid : Prop := handleLiveUptoRow.holds Tryz.pinned (OpenSpec.upto handleLiveSpec)

/-- 'shutterlaw14.HandleOwn', WHERE WHAT IT READS IS OF BULK AT MOST 1048576: true; the input reads as it did. -/
def handleOwnUptoRow : OpenClaim := { program := "ytocphcgcpjcfjaagreat", sum := "281ded384ca101fd99004d1a769d5eacbd1f2931bed88e5d5fae675da6804d0f", func := "shutter/shutterlaw14.HandleOwn", spec := "handleOwn", inPlace := ["sync/atomic.StoreInt64"], unfollowed := true, recurses := true, apart := false, narrowed := true }
def HandleOwnUptoSaid : Prop := handleOwnUptoRow.holds Tryz.pinned (OpenSpec.upto handleOwnSpec)

/-- 'shutterlaw14.HandleHolds', WHERE WHAT IT READS IS OF BULK AT MOST 1048576: true; the input reads as it did. -/
def handleHoldsUptoRow : OpenClaim := { program := "ytocphcgcpjcfjaagreat", sum := "281ded384ca101fd99004d1a769d5eacbd1f2931bed88e5d5fae675da6804d0f", func := "shutter/shutterlaw14.HandleHolds", spec := "handleHolds", inPlace := ["sync/atomic.StoreInt64"], unfollowed := true, recurses := true, apart := false, narrowed := true }
def HandleHoldsUptoSaid : Prop := handleHoldsUptoRow.holds Tryz.pinned (OpenSpec.upto handleHoldsSpec)

end Rows
end Go.Proofs.YtocphcgcpjcfjaaGreat
