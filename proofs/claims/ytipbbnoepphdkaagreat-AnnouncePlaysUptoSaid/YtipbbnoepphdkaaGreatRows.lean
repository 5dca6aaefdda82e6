/-
  No cell of these rows narrows 'for every input' (looked for: loops, veiled, ifaces, maps, wideKeys, modest, calm, conditions, laid).
  DERIVED. THE GIVEN ROWS OF THIS SEAT. 4 by the template 'for every input the law returns true; each argument reads behind the call as it read before'; 0 by the template 'total and deterministic' (their statements: YtipbbnoepphdkaaGreatTotals.lean).
  GIVEN WITH THE SEED: the statements are not yours to turn. If you find one false, say at which input.
  Laid BY PROGRAM, IN A SANDBOX (cutbox-rows.mjs): the forced cells as the released guide's own fill.sh prints them over the translation 2e4bd88ee6cfa0bf… (all of the seat's roots in one cut). By AI agents, Wed Nov 11 2026. No macro, syntax, notation, axiom, sorry.
-/
import Derived.Test.YtipbbnoepphdkaaGreatChecked
import GoSem.Claim
import GoSem.ClaimJoined
import GoSem.ClaimMapViews
import Derived.JoinedTies
import Derived.KernelRfl
namespace Go.Proofs.YtipbbnoepphdkaaGreat
/- THE CELL 'sum', in the pinned program and in every row, IS THE sha256 OF THE DUMP (.gsa) THAT YtipbbnoepphdkaaGreatProg.lean LOADS. Nothing in Lean hashes anything: it is a label: what it is worth is what the hold of that sum in a sandbox is worth. -/
noncomputable def Tryz.pinned : Pinned := { name := "ytipbbnoepphdkaagreat", sum := "2e4bd88ee6cfa0bf5467bfabe58950086671f7a245132bc2fd04dc347609fbe4", checked := Tryz.checked }
namespace Rows
def none {H : Type} : Left H := { results := [], args := [] }

/-- 'shutterlaw15.CutPlays': WHATEVER THE INPUT: true; the input reads as it did. -/
def cutPlaysSpec : ChangeSpec := { name := "cutPlays", fn := fun _ => fun
  | [d1, d2] => { results := [.lit (.bool true)], args := [d1, d2] }
  | _ => none }
def cutPlaysRow : OpenClaim := { program := "ytipbbnoepphdkaagreat", sum := "2e4bd88ee6cfa0bf5467bfabe58950086671f7a245132bc2fd04dc347609fbe4", func := "shutter/shutterlaw15.CutPlays", spec := "cutPlays", inPlace := ["sync/atomic.StoreInt64"], unfollowed := true, recurses := true, apart := false }
def CutPlaysSaid : Prop := cutPlaysRow.holds Tryz.pinned (OpenSpec.ofChange cutPlaysSpec)

/-- ITS FALSE NEIGHBOUR: 'it returns false'. Refute it at one input. -/
def cutPlaysWrong : ChangeSpec := { name := "cutPlays", fn := fun _ => fun
  | [d1, d2] => { results := [.lit (.bool false)], args := [d1, d2] }
  | _ => none }
def CutPlaysWrongFalsely : Prop := cutPlaysRow.holds Tryz.pinned (OpenSpec.ofChange cutPlaysWrong)

/-- 'shutterlaw13.AnnounceAny': WHATEVER THE INPUT: true; the input reads as it did. -/
def announceAnySpec : ChangeSpec := { name := "announceAny", fn := fun _ => fun
  | [d1, d2, d3] => { results := [.lit (.bool true)], args := [d1, d2, d3] }
  | _ => none }
def announceAnyRow : OpenClaim := { program := "ytipbbnoepphdkaagreat", sum := "2e4bd88ee6cfa0bf5467bfabe58950086671f7a245132bc2fd04dc347609fbe4", func := "shutter/shutterlaw13.AnnounceAny", spec := "announceAny", inPlace := ["sync/atomic.StoreInt64"], unfollowed := true, recurses := true, apart := false }
def AnnounceAnySaid : Prop := announceAnyRow.holds Tryz.pinned (OpenSpec.ofChange announceAnySpec)

/-- ITS FALSE NEIGHBOUR: 'it returns false'. Refute it at one input. -/
def announceAnyWrong : ChangeSpec := { name := "announceAny", fn := fun _ => fun
  | [d1, d2, d3] => { results := [.lit (.bool false)], args := [d1, d2, d3] }
  | _ => none }
def AnnounceAnyWrongFalsely : Prop := announceAnyRow.holds Tryz.pinned (OpenSpec.ofChange announceAnyWrong)

/-- 'shutterlaw13.AnnouncePlays': WHATEVER THE INPUT: true; the input reads as it did. -/
def announcePlaysSpec : ChangeSpec := { name := "announcePlays", fn := fun _ => fun
  | [d] => { results := [.lit (.bool true)], args := [d] }
  | _ => none }
def announcePlaysRow : OpenClaim := { program := "ytipbbnoepphdkaagreat", sum := "2e4bd88ee6cfa0bf5467bfabe58950086671f7a245132bc2fd04dc347609fbe4", func := "shutter/shutterlaw13.AnnouncePlays", spec := "announcePlays", inPlace := ["sync/atomic.StoreInt64"], unfollowed := true, recurses := true, apart := false }
def AnnouncePlaysSaid : Prop := announcePlaysRow.holds Tryz.pinned (OpenSpec.ofChange announcePlaysSpec)

/-- ITS FALSE NEIGHBOUR: 'it returns false'. Refute it at one input. -/
def announcePlaysWrong : ChangeSpec := { name := "announcePlays", fn := fun _ => fun
  | [d] => { results := [.lit (.bool false)], args := [d] }
  | _ => none }
def AnnouncePlaysWrongFalsely : Prop := announcePlaysRow.holds Tryz.pinned (OpenSpec.ofChange announcePlaysWrong)

/-- 'shutterlaw13.AnnounceOwn': WHATEVER THE INPUT: true; the input reads as it did. -/
def announceOwnSpec : ChangeSpec := { name := "announceOwn", fn := fun _ => fun
  | [d] => { results := [.lit (.bool true)], args := [d] }
  | _ => none }
def announceOwnRow : OpenClaim := { program := "ytipbbnoepphdkaagreat", sum := "2e4bd88ee6cfa0bf5467bfabe58950086671f7a245132bc2fd04dc347609fbe4", func := "shutter/shutterlaw13.AnnounceOwn", spec := "announceOwn", inPlace := ["sync/atomic.StoreInt64"], unfollowed := true, recurses := true, apart := false }
def AnnounceOwnSaid : Prop := announceOwnRow.holds Tryz.pinned (OpenSpec.ofChange announceOwnSpec)

/-- ITS FALSE NEIGHBOUR: 'it returns false'. Refute it at one input. -/
def announceOwnWrong : ChangeSpec := { name := "announceOwn", fn := fun _ => fun
  | [d] => { results := [.lit (.bool false)], args := [d] }
  | _ => none }
def AnnounceOwnWrongFalsely : Prop := announceOwnRow.holds Tryz.pinned (OpenSpec.ofChange announceOwnWrong)

/- THE SECOND FORM. 'bulk': how many values and letters a reading holds, each counted each time it is reached (what is shared counts as often as it is met; a slice's spare places count too). A statement '..UptoSaid' is the law's where the arguments, and the package variables that the reading takes, are together of bulk at most 1048576: NARROWER than '..Said'. Prove '..Said' where nothing that the law and all that it calls make is longer than what came in: it says more and counts as full. Else prove '..UptoSaid'. A law counts once. -/
mutual
def uptoBulk {H : Type} : DataW H → Nat
  | .lit (.string bytes) => bytes.length + 1
  | .lit _ => 1
  | .nil => 1
  | .ptr d => uptoBulk d + 1
  | .slice elems spare => uptoBulkAll elems + uptoBulkAll spare + 1
  | .agg parts => uptoBulkAll parts + 1
  | .iface _ d => uptoBulk d + 1
  | .map entries => uptoBulkEntries entries + 1
  | .held _ => 1
def uptoBulkAll {H : Type} : List (DataW H) → Nat
  | [] => 0
  | d :: r => uptoBulk d + uptoBulkAll r
def uptoBulkEntries {H : Type} : List (Lit × DataW H) → Nat
  | [] => 0
  | x :: r => uptoBulkEntry x + uptoBulkEntries r
def uptoBulkEntry {H : Type} : Lit × DataW H → Nat
  | (.string bytes, d) => bytes.length + uptoBulk d + 1
  | (_, d) => uptoBulk d + 1
 end
def uptoSmall : (H : Type) → List (DataW H) → Bool := fun _ ds => decide (uptoBulkAll ds ≤ 1048576)
def OpenSpec.upto (s : _root_.Go.ChangeSpec) : _root_.Go.OpenSpec := { _root_.Go.OpenSpec.ofChange s with cond := some uptoSmall }

/-- 'shutterlaw15.CutPlays', WHERE WHAT IT READS IS OF BULK AT MOST 1048576: true; the input reads as it did. -/
def cutPlaysUptoRow : OpenClaim := { program := "ytipbbnoepphdkaagreat", sum := "2e4bd88ee6cfa0bf5467bfabe58950086671f7a245132bc2fd04dc347609fbe4", func := "shutter/shutterlaw15.CutPlays", spec := "cutPlays", inPlace := ["sync/atomic.StoreInt64"], unfollowed := true, recurses := true, apart := false, narrowed := true }
def CutPlaysUptoSaid : Prop := cutPlaysUptoRow.holds Tryz.pinned (OpenSpec.upto cutPlaysSpec)

/-- 'shutterlaw13.AnnounceAny', WHERE WHAT IT READS IS OF BULK AT MOST 1048576: true; the input reads as it did. -/
def announceAnyUptoRow : OpenClaim := { program := "ytipbbnoepphdkaagreat", sum := "2e4bd88ee6cfa0bf5467bfabe58950086671f7a245132bc2fd04dc347609fbe4", func := "shutter/shutterlaw13.AnnounceAny", spec := "announceAny", inPlace := ["sync/atomic.StoreInt64"], unfollowed := true, recurses := true, apart := false, narrowed := true }
def AnnounceAnyUptoSaid : Prop := announceAnyUptoRow.holds Tryz.pinned (OpenSpec.upto announceAnySpec)

/-- 'shutterlaw13.AnnouncePlays', WHERE WHAT IT READS IS OF BULK AT MOST 1048576: true; the input reads as it did. -/
def announcePlaysUptoRow : OpenClaim := { program := "ytipbbnoepphdkaagreat", sum := "2e4bd88ee6cfa0bf5467bfabe58950086671f7a245132bc2fd04dc347609fbe4", func := "shutter/shutterlaw13.AnnouncePlays", spec := "announcePlays", inPlace := ["sync/atomic.StoreInt64"], unfollowed := true, recurses := true, apart := false, narrowed := true }
def AnnouncePlaysUptoSaid : Prop := announcePlaysUptoRow.holds Tryz.pinned (OpenSpec.upto announcePlaysSpec)

/-- 'shutterlaw13.AnnounceOwn', WHERE WHAT IT READS IS OF BULK AT MOST 1048576: true; the input reads as it did. -/
def announceOwnUptoRow : OpenClaim := { program := "ytipbbnoepphdkaagreat", sum := "2e4bd88ee6cfa0bf5467bfabe58950086671f7a245132bc2fd04dc347609fbe4", func := "shutter/shutterlaw13.AnnounceOwn", spec := "announceOwn", inPlace := ["sync/atomic.StoreInt64"], unfollowed := true, recurses := true, apart := false, narrowed := true }
def AnnounceOwnUptoSaid : Prop := announceOwnUptoRow.holds Tryz.pinned (OpenSpec.upto announceOwnSpec)

end Rows
end Go.Proofs.YtipbbnoepphdkaaGreat
