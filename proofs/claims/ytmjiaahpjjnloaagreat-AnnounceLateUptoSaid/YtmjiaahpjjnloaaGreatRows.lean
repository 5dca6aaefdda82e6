/-
  No cell of these rows narrows 'for every input' (looked for: loops, veiled, ifaces, maps, wideKeys, modest, calm, conditions, laid).
  DERIVED. THE GIVEN ROWS OF THIS SEAT. 11 by the template 'for every input the law returns true; each argument reads behind the call as it read before'; 0 by the template 'total and deterministic' (their statements: YtmjiaahpjjnloaaGreatTotals.lean).
  GIVEN WITH THE SEED: the statements are not yours to turn. If you find one false, say at which input.
  Laid BY PROGRAM, IN A SANDBOX (cutbox-rows.mjs): the forced cells as the released guide's own fill.sh prints them over the translation c873f67c6aa80c8c… (all of the seat's roots in one cut). By AI agents, Wed Nov 11 2026. No macro, syntax, notation, axiom, sorry.
-/
import Derived.Test.YtmjiaahpjjnloaaGreatChecked
import GoSem.Claim
import GoSem.ClaimJoined
import GoSem.ClaimMapViews
import Derived.JoinedTies
import Derived.KernelRfl
namespace Go.Proofs.YtmjiaahpjjnloaaGreat
/- THE CELL 'sum', in the pinned program and in every row, IS THE sha256 OF THE DUMP (.gsa) THAT YtmjiaahpjjnloaaGreatProg.lean LOADS. Nothing in Lean hashes anything: it is a label: what it is worth is what the hold of that sum in a sandbox is worth. -/
noncomputable def Tryz.pinned : Pinned := { name := "ytmjiaahpjjnloaagreat", sum := "c873f67c6aa80c8c35e6d5b8cca996cc6cecd71d09677e01e796d3ae9d1cbca6", checked := Tryz.checked }
namespace Rows
def none {H : Type} : Left H := { results := [], args := [] }

/-- 'shutterlaw13.AnnounceOnce': WHATEVER THE INPUT: true; the input reads as it did. -/
def announceOnceSpec : ChangeSpec := { name := "announceOnce", fn := fun _ => fun
  | [d] => { results := [.lit (.bool true)], args := [d] }
  | _ => none }
def announceOnceRow : OpenClaim := { program := "ytmjiaahpjjnloaagreat", sum := "c873f67c6aa80c8c35e6d5b8cca996cc6cecd71d09677e01e796d3ae9d1cbca6", func := "shutter/shutterlaw13.AnnounceOnce", spec := "announceOnce", inPlace := ["sync/atomic.StoreInt64"], unfollowed := true, recurses := true, apart := false }
def AnnounceOnceSaid : Prop := announceOnceRow.holds Tryz.pinned (OpenSpec.ofChange announceOnceSpec)

/-- ITS FALSE NEIGHBOUR: 'it returns false'. Refute it at one input. -/
def announceOnceWrong : ChangeSpec := { name := "announceOnce", fn := fun _ => fun
  | [d] => { results := [.lit (.bool false)], args := [d] }
  | _ => none }
def AnnounceOnceWrongFalsely : Prop := announceOnceRow.holds Tryz.pinned (OpenSpec.ofChange announceOnceWrong)

/-- 'shutterlaw13.AnnounceLate': WHATEVER THE INPUT: true; the input reads as it did. -/
def announceLateSpec : ChangeSpec := { name := "announceLate", fn := fun _ => fun
  | [d] => { results := [.lit (.bool true)], args := [d] }
  | _ => none }
def announceLateRow : OpenClaim := { program := "ytmjiaahpjjnloaagreat", sum := "c873f67c6aa80c8c35e6d5b8cca996cc6cecd71d09677e01e796d3ae9d1cbca6", func := "shutter/shutterlaw13.AnnounceLate", spec := "announceLate", inPlace := ["sync/atomic.StoreInt64"], unfollowed := true, recurses := true, apart := false }
def AnnounceLateSaid : Prop := announceLateRow.holds Tryz.pinned (OpenSpec.ofChange announceLateSpec)

/-- ITS FALSE NEIGHBOUR: 'it returns false'. Refute it at one input. -/
def announceLateWrong : ChangeSpec := { name := "announceLate", fn := fun _ => fun
  | [d] => { results := [.lit (.bool false)], args := [d] }
  | _ => none }
def AnnounceLateWrongFalsely : Prop := announceLateRow.holds Tryz.pinned (OpenSpec.ofChange announceLateWrong)

/-- 'shutterlaw13.AnnounceFew': WHATEVER THE INPUT: true; the input reads as it did. -/
def announceFewSpec : ChangeSpec := { name := "announceFew", fn := fun _ => fun
  | [d] => { results := [.lit (.bool true)], args := [d] }
  | _ => none }
def announceFewRow : OpenClaim := { program := "ytmjiaahpjjnloaagreat", sum := "c873f67c6aa80c8c35e6d5b8cca996cc6cecd71d09677e01e796d3ae9d1cbca6", func := "shutter/shutterlaw13.AnnounceFew", spec := "announceFew", inPlace := ["sync/atomic.StoreInt64"], unfollowed := true, recurses := true, apart := false }
def AnnounceFewSaid : Prop := announceFewRow.holds Tryz.pinned (OpenSpec.ofChange announceFewSpec)

/-- ITS FALSE NEIGHBOUR: 'it returns false'. Refute it at one input. -/
def announceFewWrong : ChangeSpec := { name := "announceFew", fn := fun _ => fun
  | [d] => { results := [.lit (.bool false)], args := [d] }
  | _ => none }
def AnnounceFewWrongFalsely : Prop := announceFewRow.holds Tryz.pinned (OpenSpec.ofChange announceFewWrong)

/-- 'shutterlaw14.HandleRuns': WHATEVER THE INPUT: true; the input reads as it did. -/
def handleRunsSpec : ChangeSpec := { name := "handleRuns", fn := fun _ => fun
  | [d] => { results := [.lit (.bool true)], args := [d] }
  | _ => none }
def handleRunsRow : OpenClaim := { program := "ytmjiaahpjjnloaagreat", sum := "c873f67c6aa80c8c35e6d5b8cca996cc6cecd71d09677e01e796d3ae9d1cbca6", func := "shutter/shutterlaw14.HandleRuns", spec := "handleRuns", inPlace := ["sync/atomic.StoreInt64"], unfollowed := true, recurses := true, apart := false }
def HandleRunsSaid : Prop := handleRunsRow.holds Tryz.pinned (OpenSpec.ofChange handleRunsSpec)

/-- ITS FALSE NEIGHBOUR: 'it returns false'. Refute it at one input. -/
def handleRunsWrong : ChangeSpec := { name := "handleRuns", fn := fun _ => fun
  | [d] => { results := [.lit (.bool false)], args := [d] }
  | _ => none }
def HandleRunsWrongFalsely : Prop := handleRunsRow.holds Tryz.pinned (OpenSpec.ofChange handleRunsWrong)

/-- 'shutterlaw14.HandleLive': WHATEVER THE INPUT: true; the input reads as it did. -/
def handleLiveSpec : ChangeSpec := { name := "handleLive", fn := fun _ => fun
  | [d1, d2] => { results := [.lit (.bool true)], args := [d1, d2] }
  | _ => none }
def handleLiveRow : OpenClaim := { program := "ytmjiaahpjjnloaagreat", sum := "c873f67c6aa80c8c35e6d5b8cca996cc6cecd71d09677e01e796d3ae9d1cbca6", func := "shutter/shutterlaw14.HandleLive", spec := "handleLive", inPlace := ["sync/atomic.StoreInt64"], unfollowed := true, recurses := true, apart := false }
def HandleLiveSaid : Prop := handleLiveRow.holds Tryz.pinned (OpenSpec.ofChange handleLiveSpec)

/-- ITS FALSE NEIGHBOUR: 'it returns false'. Refute it at one input. -/
def handleLiveWrong : ChangeSpec := { name := "handleLive", fn := fun _ => fun
  | [d1, d2] => { results := [.lit (.bool false)], args := [d1, d2] }
  | _ => none }
def HandleLiveWrongFalsely : Prop := handleLiveRow.holds Tryz.pinned (OpenSpec.ofChange handleLiveWrong)

/-- 'shutterlaw14.HandleOwn': WHATEVER THE INPUT: true; the input reads as it did. -/
def handleOwnSpec : ChangeSpec := { name := "handleOwn", fn := fun _ => fun
  | [d] => { results := [.lit (.bool true)], args := [d] }
  | _ => none }
def handleOwnRow : OpenClaim := { program := "ytmjiaahpjjnloaagreat", sum := "c873f67c6aa80c8c35e6d5b8cca996cc6cecd71d09677e01e796d3ae9d1cbca6", func := "shutter/shutterlaw14.HandleOwn", spec := "handleOwn", inPlace := ["sync/atomic.StoreInt64"], unfollowed := true, recurses := true, apart := false }
def HandleOwnSaid : Prop := handleOwnRow.holds Tryz.pinned (OpenSpec.ofChange handleOwnSpec)

/-- ITS FALSE NEIGHBOUR: 'it returns false'. Refute it at one input. -/
def handleOwnWrong : ChangeSpec := { name := "handleOwn", fn := fun _ => fun
  | [d] => { results := [.lit (.bool false)], args := [d] }
  | _ => none }
def HandleOwnWrongFalsely : Prop := handleOwnRow.holds Tryz.pinned (OpenSpec.ofChange handleOwnWrong)

/-- 'shutterlaw14.HandleHolds': WHATEVER THE INPUT: true; the input reads as it did. -/
def handleHoldsSpec : ChangeSpec := { name := "handleHolds", fn := fun _ => fun
  | [d] => { results := [.lit (.bool true)], args := [d] }
  | _ => none }
def handleHoldsRow : OpenClaim := { program := "ytmjiaahpjjnloaagreat", sum := "c873f67c6aa80c8c35e6d5b8cca996cc6cecd71d09677e01e796d3ae9d1cbca6", func := "shutter/shutterlaw14.HandleHolds", spec := "handleHolds", inPlace := ["sync/atomic.StoreInt64"], unfollowed := true, recurses := true, apart := false }
def HandleHoldsSaid : Prop := handleHoldsRow.holds Tryz.pinned (OpenSpec.ofChange handleHoldsSpec)

/-- ITS FALSE NEIGHBOUR: 'it returns false'. Refute it at one input. -/
def handleHoldsWrong : ChangeSpec := { name := "handleHolds", fn := fun _ => fun
  | [d] => { results := [.lit (.bool false)], args := [d] }
  | _ => none }
def HandleHoldsWrongFalsely : Prop := handleHoldsRow.holds Tryz.pinned (OpenSpec.ofChange handleHoldsWrong)

/-- 'shutterlaw15.CutCollects': WHATEVER THE INPUT: true; the input reads as it did. -/
def cutCollectsSpec : ChangeSpec := { name := "cutCollects", fn := fun _ => fun
  | [d1, d2] => { results := [.lit (.bool true)], args := [d1, d2] }
  | _ => none }
def cutCollectsRow : OpenClaim := { program := "ytmjiaahpjjnloaagreat", sum := "c873f67c6aa80c8c35e6d5b8cca996cc6cecd71d09677e01e796d3ae9d1cbca6", func := "shutter/shutterlaw15.CutCollects", spec := "cutCollects", inPlace := ["sync/atomic.StoreInt64"], unfollowed := true, recurses := true, apart := false }
def CutCollectsSaid : Prop := cutCollectsRow.holds Tryz.pinned (OpenSpec.ofChange cutCollectsSpec)

/-- ITS FALSE NEIGHBOUR: 'it returns false'. Refute it at one input. -/
def cutCollectsWrong : ChangeSpec := { name := "cutCollects", fn := fun _ => fun
  | [d1, d2] => { results := [.lit (.bool false)], args := [d1, d2] }
  | _ => none }
def CutCollectsWrongFalsely : Prop := cutCollectsRow.holds Tryz.pinned (OpenSpec.ofChange cutCollectsWrong)

/-- 'shutterlaw29.MultiAny': WHATEVER THE INPUT: true; the input reads as it did. -/
def multiAnySpec : ChangeSpec := { name := "multiAny", fn := fun _ => fun
  | [d1, d2] => { results := [.lit (.bool true)], args := [d1, d2] }
  | _ => none }
def multiAnyRow : OpenClaim := { program := "ytmjiaahpjjnloaagreat", sum := "c873f67c6aa80c8c35e6d5b8cca996cc6cecd71d09677e01e796d3ae9d1cbca6", func := "shutter/shutterlaw29.MultiAny", spec := "multiAny", inPlace := ["sync/atomic.StoreInt64"], unfollowed := true, recurses := true, apart := false }
def MultiAnySaid : Prop := multiAnyRow.holds Tryz.pinned (OpenSpec.ofChange multiAnySpec)

/-- ITS FALSE NEIGHBOUR: 'it returns false'. Refute it at one input. -/
def multiAnyWrong : ChangeSpec := { name := "multiAny", fn := fun _ => fun
  | [d1, d2] => { results := [.lit (.bool false)], args := [d1, d2] }
  | _ => none }
def MultiAnyWrongFalsely : Prop := multiAnyRow.holds Tryz.pinned (OpenSpec.ofChange multiAnyWrong)

/-- 'shutterlaw29.MultiPlays': WHATEVER THE INPUT: true; the input reads as it did. -/
def multiPlaysSpec : ChangeSpec := { name := "multiPlays", fn := fun _ => fun
  | [d1, d2] => { results := [.lit (.bool true)], args := [d1, d2] }
  | _ => none }
def multiPlaysRow : OpenClaim := { program := "ytmjiaahpjjnloaagreat", sum := "c873f67c6aa80c8c35e6d5b8cca996cc6cecd71d09677e01e796d3ae9d1cbca6", func := "shutter/shutterlaw29.MultiPlays", spec := "multiPlays", inPlace := ["sync/atomic.StoreInt64"], unfollowed := true, recurses := true, apart := false }
def MultiPlaysSaid : Prop := multiPlaysRow.holds Tryz.pinned (OpenSpec.ofChange multiPlaysSpec)

/-- ITS FALSE NEIGHBOUR: 'it returns false'. Refute it at one input. -/
def multiPlaysWrong : ChangeSpec := { name := "multiPlays", fn := fun _ => fun
  | [d1, d2] => { results := [.lit (.bool false)], args := [d1, d2] }
  | _ => none }
def MultiPlaysWrongFalsely : Prop := multiPlaysRow.holds Tryz.pinned (OpenSpec.ofChange multiPlaysWrong)

/-- 'shutterlaw29.MultiWhole': WHATEVER THE INPUT: true; the input reads as it did. -/
def multiWholeSpec : ChangeSpec := { name := "multiWhole", fn := fun _ => fun
  | [d1, d2, d3] => { results := [.lit (.bool true)], args := [d1, d2, d3] }
  | _ => none }
def multiWholeRow : OpenClaim := { program := "ytmjiaahpjjnloaagreat", sum := "c873f67c6aa80c8c35e6d5b8cca996cc6cecd71d09677e01e796d3ae9d1cbca6", func := "shutter/shutterlaw29.MultiWhole", spec := "multiWhole", inPlace := ["sync/atomic.StoreInt64"], unfollowed := true, recurses := true, apart := false }
def MultiWholeSaid : Prop := multiWholeRow.holds Tryz.pinned (OpenSpec.ofChange multiWholeSpec)

/-- ITS FALSE NEIGHBOUR: 'it returns false'. Refute it at one input. -/
def multiWholeWrong : ChangeSpec := { name := "multiWhole", fn := fun _ => fun
  | [d1, d2, d3] => { results := [.lit (.bool false)], args := [d1, d2, d3] }
  | _ => none }
def MultiWholeWrongFalsely : Prop := multiWholeRow.holds Tryz.pinned (OpenSpec.ofChange multiWholeWrong)

/- THE SECOND FORM. 'bulk': how many values and letters a reading holds, each counted each time it is reached (what is shared counts as often as it is met; a slice's spare places count too). A statement '..UptoSaid' is the law's where the arguments, and the package variables that the reading takes, are together of bulk at most 1048576: NARROWER than '..Said'. Prove '..Said' where nothing that the law and all that it calls make is longer than what came in: it says more and counts as full. Else prove '..UptoSaid'. A law counts once. -/
mutual
def uptoBulk {H : Type} : DataW H → Nat
  | .lit (.string bytes) => bytes.length + 1
  | .lit _ => 1
  | .nil => 1
  | .ptr d => uptoBulk d + 1
  | .slice elems spare => uptoBulkAll elems + uptoBulkAll spare + 1
  | .agg parts => uptoBulkAll parts + 1
  | .iface _ d => uptoBulk d + 1
  | .map entries => uptoBulkEntries entries + 1
  | .held _ => 1
def uptoBulkAll {H : Type} : List (DataW H) → Nat
  | [] => 0
  | d :: r => uptoBulk d + uptoBulkAll r
def uptoBulkEntries {H : Type} : List (Lit × DataW H) → Nat
  | [] => 0
  | x :: r => uptoBulkEntry x + uptoBulkEntries r
def uptoBulkEntry {H : Type} : Lit × DataW H → Nat
  | (.string bytes, d) => bytes.length + uptoBulk d + 1
  | (_, d) => uptoBulk d + 1
 end
def uptoSmall : (H : Type) → List (DataW H) → Bool := fun _ ds => decide (uptoBulkAll ds ≤ 1048576)
def OpenSpec.upto (s : _root_.Go.ChangeSpec) : _root_.Go.OpenSpec := { _root_.Go.OpenSpec.ofChange s with cond := some uptoSmall }

/-- 'shutterlaw13.AnnounceOnce', WHERE WHAT IT READS IS OF BULK AT MOST 1048576: true; the input reads as it did. -/
def announceOnceUptoRow : OpenClaim := { program := "ytmjiaahpjjnloaagreat", sum := "c873f67c6aa80c8c35e6d5b8cca996cc6cecd71d09677e01e796d3ae9d1cbca6", func := "shutter/shutterlaw13.AnnounceOnce", spec := "announceOnce", inPlace := ["sync/atomic.StoreInt64"], unfollowed := true, recurses := true, apart := false, narrowed := true }
def AnnounceOnceUptoSaid : Prop := announceOnceUptoRow.holds Tryz.pinned (OpenSpec.upto announceOnceSpec)

/-- 'shutterlaw13.AnnounceLate', WHERE WHAT IT READS IS OF BULK AT MOST 1048576: true; the input reads as it did. -/
def announceLateUptoRow : OpenClaim := { program := "ytmjiaahpjjnloaagreat", sum := "c873f67c6aa80c8c35e6d5b8cca996cc6cecd71d09677e01e796d3ae9d1cbca6", func := "shutter/shutterlaw13.AnnounceLate", spec := "announceLate", inPlace := ["sync/atomic.StoreInt64"], unfollowed := true, recurses := true, apart := false, narrowed := true }
def AnnounceLateUptoSaid : Prop := announceLateUptoRow.holds Tryz.pinned (OpenSpec.upto announceLateSpec)

/-- 'shutterlaw13.AnnounceFew', WHERE WHAT IT READS IS OF BULK AT MOST 1048576: true; the input reads as it did. -/
def announceFewUptoRow : OpenClaim := { program := "ytmjiaahpjjnloaagreat", sum := "c873f67c6aa80c8c35e6d5b8cca996cc6cecd71d09677e01e796d3ae9d1cbca6", func := "shutter/shutterlaw13.AnnounceFew", spec := "announceFew", inPlace := ["sync/atomic.StoreInt64"], unfollowed := true, recurses := true, apart := false, narrowed := true }
def AnnounceFewUptoSaid : Prop := announceFewUptoRow.holds Tryz.pinned (OpenSpec.upto announceFewSpec)

/-- 'shutterlaw14.HandleRuns', WHERE WHAT IT READS IS OF BULK AT MOST 1048576: true; the input reads as it did. -/
def handleRunsUptoRow : OpenClaim := { program := "ytmjiaahpjjnloaagreat", sum := "c873f67c6aa80c8c35e6d5b8cca996cc6cecd71d09677e01e796d3ae9d1cbca6", func := "shutter/shutterlaw14.HandleRuns", spec := "handleRuns", inPlace := ["sync/atomic.StoreInt64"], unfollowed := true, recurses := true, apart := false, narrowed := true }
def HandleRunsUptoSaid : Prop := handleRunsUptoRow.holds Tryz.pinned (OpenSpec.upto handleRunsSpec)

/-- 'shutterlaw14.HandleLive', WHERE WHAT IT READS IS OF BULK AT MOST 1048576: true; the input reads as it did. -/
def handleLiveUptoRow : OpenClaim := { program := "ytmjiaahpjjnloaagreat", sum := "c873f67c6aa80c8c35e6d5b8cca996cc6cecd71d09677e01e796d3ae9d1cbca6", func := "shutter/shutterlaw14.HandleLive", spec := "handleLive", inPlace := ["sync/atomic.StoreInt64"], unfollowed := true, recurses := true, apart := false, narrowed := true }
def HandleLiveUptoSaid : Prop := handleLiveUptoRow.holds Tryz.pinned (OpenSpec.upto handleLiveSpec)

/-- 'shutterlaw14.HandleOwn', WHERE WHAT IT READS IS OF BULK AT MOST 1048576: true; the input reads as it did. -/
def handleOwnUptoRow : OpenClaim := { program := "ytmjiaahpjjnloaagreat", sum := "c873f67c6aa80c8c35e6d5b8cca996cc6cecd71d09677e01e796d3ae9d1cbca6", func := "shutter/shutterlaw14.HandleOwn", spec := "handleOwn", inPlace := ["sync/atomic.StoreInt64"], unfollowed := true, recurses := true, apart := false, narrowed := true }
def HandleOwnUptoSaid : Prop := handleOwnUptoRow.holds Tryz.pinned (OpenSpec.upto handleOwnSpec)

/-- 'shutterlaw14.HandleHolds', WHERE WHAT IT READS IS OF BULK AT MOST 1048576: true; the input reads as it did. -/
def handleHoldsUptoRow : OpenClaim := { program := "ytmjiaahpjjnloaagreat", sum := "c873f67c6aa80c8c35e6d5b8cca996cc6cecd71d09677e01e796d3ae9d1cbca6", func := "shutter/shutterlaw14.HandleHolds", spec := "handleHolds", inPlace := ["sync/atomic.StoreInt64"], unfollowed := true, recurses := true, apart := false, narrowed := true }
def HandleHoldsUptoSaid : Prop := handleHoldsUptoRow.holds Tryz.pinned (OpenSpec.upto handleHoldsSpec)

/-- 'shutterlaw15.CutCollects', WHERE WHAT IT READS IS OF BULK AT MOST 1048576: true; the input reads as it did. -/
def cutCollectsUptoRow : OpenClaim := { program := "ytmjiaahpjjnloaagreat", sum := "c873f67c6aa80c8c35e6d5b8cca996cc6cecd71d09677e01e796d3ae9d1cbca6", func := "shutter/shutterlaw15.CutCollects", spec := "cutCollects", inPlace := ["sync/atomic.StoreInt64"], unfollowed := true, recurses := true, apart := false, narrowed := true }
def CutCollectsUptoSaid : Prop := cutCollectsUptoRow.holds Tryz.pinned (OpenSpec.upto cutCollectsSpec)

/-- 'shutterlaw29.MultiAny', WHERE WHAT IT READS IS OF BULK AT MOST 1048576: true; the input reads as it did. -/
def multiAnyUptoRow : OpenClaim := { program := "ytmjiaahpjjnloaagreat", sum := "c873f67c6aa80c8c35e6d5b8cca996cc6cecd71d09677e01e796d3ae9d1cbca6", func := "shutter/shutterlaw29.MultiAny", spec := "multiAny", inPlace := ["sync/atomic.StoreInt64"], unfollowed := true, recurses := true, apart := false, narrowed := true }
def MultiAnyUptoSaid : Prop := multiAnyUptoRow.holds Tryz.pinned (OpenSpec.upto multiAnySpec)

/-- 'shutterlaw29.MultiPlays', WHERE WHAT IT READS IS OF BULK AT MOST 1048576: true; the input reads as it did. -/
def multiPlaysUptoRow : OpenClaim := { program := "ytmjiaahpjjnloaagreat", sum := "c873f67c6aa80c8c35e6d5b8cca996cc6cecd71d09677e01e796d3ae9d1cbca6", func := "shutter/shutterlaw29.MultiPlays", spec := "multiPlays", inPlace := ["sync/atomic.StoreInt64"], unfollowed := true, recurses := true, apart := false, narrowed := true }
def MultiPlaysUptoSaid : Prop := multiPlaysUptoRow.holds Tryz.pinned (OpenSpec.upto multiPlaysSpec)

/-- 'shutterlaw29.MultiWhole', WHERE WHAT IT READS IS OF BULK AT MOST 1048576: true; the input reads as it did. -/
def multiWholeUptoRow : OpenClaim := { program := "ytmjiaahpjjnloaagreat", sum := "c873f67c6aa80c8c35e6d5b8cca996cc6cecd71d09677e01e796d3ae9d1cbca6", func := "shutter/shutterlaw29.MultiWhole", spec := "multiWhole", inPlace := ["sync/atomic.StoreInt64"], unfollowed := true, recurses := true, apart := false, narrowed := true }
def MultiWholeUptoSaid : Prop := multiWholeUptoRow.holds Tryz.pinned (OpenSpec.upto multiWholeSpec)

end Rows
end Go.Proofs.YtmjiaahpjjnloaaGreat
