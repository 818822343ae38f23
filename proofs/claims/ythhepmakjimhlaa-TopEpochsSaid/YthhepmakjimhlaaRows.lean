/-
  No cell of these rows narrows 'for every input' (looked for: loops, veiled, ifaces, maps, wideKeys, modest, calm, conditions, laid).
  DERIVED. THE GIVEN ROWS OF THIS SEAT. 8 by the template 'for every input the law returns true; each argument reads behind the call as it read before'; 0 by the template 'total and deterministic' (their statements: YthhepmakjimhlaaTotals.lean).
  GIVEN WITH THE SEED: the statements are not yours to turn. If you find one false, say at which input.
  Laid BY PROGRAM, IN A SANDBOX (cutbox-rows.mjs): the forced cells as the released guide's own fill.sh prints them over the translation 8ce637a057335bd8… (all of the seat's roots in one cut). By AI agents, Wed Nov 11 2026. No macro, syntax, notation, axiom, sorry.
-/
import Derived.Test.YthhepmakjimhlaaChecked
import GoSem.Claim
import GoSem.ClaimJoined
import GoSem.ClaimMapViews
import Derived.JoinedTies
import Derived.KernelRfl
namespace Go.Proofs.Ythhepmakjimhlaa
/- THE CELL 'sum', in the pinned program and in every row, IS THE sha256 OF THE DUMP (.gsa) THAT YthhepmakjimhlaaProg.lean LOADS. Nothing in Lean hashes anything: it is a label: what it is worth is what the hold of that sum in a sandbox is worth. -/
noncomputable def Try.pinned : Pinned := { name := "ythhepmakjimhlaa", sum := "8ce637a057335bd8dafe9e0a817faff46e71a75e2b20a10c48927168b193849b", checked := Try.checked }
namespace Rows
def none {H : Type} : Left H := { results := [], args := [] }

/-- 'cratewatchlaw.TrackSays': WHATEVER THE INPUT: true; the input reads as it did. -/
def trackSaysSpec : ChangeSpec := { name := "trackSays", fn := fun _ => fun
  | [d1, d2, d3, d4] => { results := [.lit (.bool true)], args := [d1, d2, d3, d4] }
  | _ => none }
def trackSaysRow : OpenClaim := { program := "ythhepmakjimhlaa", sum := "8ce637a057335bd8dafe9e0a817faff46e71a75e2b20a10c48927168b193849b", func := "cratewatch/cratewatchlaw.TrackSays", spec := "trackSays", unfollowed := true, recurses := true, apart := false }
def TrackSaysSaid : Prop := trackSaysRow.holds Try.pinned (OpenSpec.ofChange trackSaysSpec)

/-- ITS FALSE NEIGHBOUR: 'it returns false'. Refute it at one input. -/
def trackSaysWrong : ChangeSpec := { name := "trackSays", fn := fun _ => fun
  | [d1, d2, d3, d4] => { results := [.lit (.bool false)], args := [d1, d2, d3, d4] }
  | _ => none }
def TrackSaysWrongFalsely : Prop := trackSaysRow.holds Try.pinned (OpenSpec.ofChange trackSaysWrong)

/-- 'cratewatchlaw.FrameSays': WHATEVER THE INPUT: true; the input reads as it did. -/
def frameSaysSpec : ChangeSpec := { name := "frameSays", fn := fun _ => fun
  | [d] => { results := [.lit (.bool true)], args := [d] }
  | _ => none }
def frameSaysRow : OpenClaim := { program := "ythhepmakjimhlaa", sum := "8ce637a057335bd8dafe9e0a817faff46e71a75e2b20a10c48927168b193849b", func := "cratewatch/cratewatchlaw.FrameSays", spec := "frameSays", apart := false }
def FrameSaysSaid : Prop := frameSaysRow.holds Try.pinned (OpenSpec.ofChange frameSaysSpec)

/-- ITS FALSE NEIGHBOUR: 'it returns false'. Refute it at one input. -/
def frameSaysWrong : ChangeSpec := { name := "frameSays", fn := fun _ => fun
  | [d] => { results := [.lit (.bool false)], args := [d] }
  | _ => none }
def FrameSaysWrongFalsely : Prop := frameSaysRow.holds Try.pinned (OpenSpec.ofChange frameSaysWrong)

/-- 'cratewatchlaw.FeedSays': WHATEVER THE INPUT: true; the input reads as it did. -/
def feedSaysSpec : ChangeSpec := { name := "feedSays", fn := fun _ => fun
  | [d] => { results := [.lit (.bool true)], args := [d] }
  | _ => none }
def feedSaysRow : OpenClaim := { program := "ythhepmakjimhlaa", sum := "8ce637a057335bd8dafe9e0a817faff46e71a75e2b20a10c48927168b193849b", func := "cratewatch/cratewatchlaw.FeedSays", spec := "feedSays", apart := false }
def FeedSaysSaid : Prop := feedSaysRow.holds Try.pinned (OpenSpec.ofChange feedSaysSpec)

/-- ITS FALSE NEIGHBOUR: 'it returns false'. Refute it at one input. -/
def feedSaysWrong : ChangeSpec := { name := "feedSays", fn := fun _ => fun
  | [d] => { results := [.lit (.bool false)], args := [d] }
  | _ => none }
def FeedSaysWrongFalsely : Prop := feedSaysRow.holds Try.pinned (OpenSpec.ofChange feedSaysWrong)

/-- 'cratewatchtop.TopTrack': WHATEVER THE INPUT: true; the input reads as it did. -/
def topTrackSpec : ChangeSpec := { name := "topTrack", fn := fun _ => fun
  | [d1, d2, d3] => { results := [.lit (.bool true)], args := [d1, d2, d3] }
  | _ => none }
def topTrackRow : OpenClaim := { program := "ythhepmakjimhlaa", sum := "8ce637a057335bd8dafe9e0a817faff46e71a75e2b20a10c48927168b193849b", func := "cratewatch/cratewatchtop.TopTrack", spec := "topTrack", apart := false }
def TopTrackSaid : Prop := topTrackRow.holds Try.pinned (OpenSpec.ofChange topTrackSpec)

/-- ITS FALSE NEIGHBOUR: 'it returns false'. Refute it at one input. -/
def topTrackWrong : ChangeSpec := { name := "topTrack", fn := fun _ => fun
  | [d1, d2, d3] => { results := [.lit (.bool false)], args := [d1, d2, d3] }
  | _ => none }
def TopTrackWrongFalsely : Prop := topTrackRow.holds Try.pinned (OpenSpec.ofChange topTrackWrong)

/-- 'cratewatchlaw.EpochSays': WHATEVER THE INPUT: true; the input reads as it did. -/
def epochSaysSpec : ChangeSpec := { name := "epochSays", fn := fun _ => fun
  | [d1, d2, d3] => { results := [.lit (.bool true)], args := [d1, d2, d3] }
  | _ => none }
def epochSaysRow : OpenClaim := { program := "ythhepmakjimhlaa", sum := "8ce637a057335bd8dafe9e0a817faff46e71a75e2b20a10c48927168b193849b", func := "cratewatch/cratewatchlaw.EpochSays", spec := "epochSays", inPlace := ["internal/reflectlite.ValueOf", "internal/reflectlite.Swapper", "(internal/reflectlite.Value).Len"], unfollowed := true, recurses := true, apart := false }
def EpochSaysSaid : Prop := epochSaysRow.holds Try.pinned (OpenSpec.ofChange epochSaysSpec)

/-- ITS FALSE NEIGHBOUR: 'it returns false'. Refute it at one input. -/
def epochSaysWrong : ChangeSpec := { name := "epochSays", fn := fun _ => fun
  | [d1, d2, d3] => { results := [.lit (.bool false)], args := [d1, d2, d3] }
  | _ => none }
def EpochSaysWrongFalsely : Prop := epochSaysRow.holds Try.pinned (OpenSpec.ofChange epochSaysWrong)

/-- 'cratewatchtop.TopFrames': WHATEVER THE INPUT: true; the input reads as it did. -/
def topFramesSpec : ChangeSpec := { name := "topFrames", fn := fun _ => fun
  | [d1, d2, d3] => { results := [.lit (.bool true)], args := [d1, d2, d3] }
  | _ => none }
def topFramesRow : OpenClaim := { program := "ythhepmakjimhlaa", sum := "8ce637a057335bd8dafe9e0a817faff46e71a75e2b20a10c48927168b193849b", func := "cratewatch/cratewatchtop.TopFrames", spec := "topFrames", apart := false }
def TopFramesSaid : Prop := topFramesRow.holds Try.pinned (OpenSpec.ofChange topFramesSpec)

/-- ITS FALSE NEIGHBOUR: 'it returns false'. Refute it at one input. -/
def topFramesWrong : ChangeSpec := { name := "topFrames", fn := fun _ => fun
  | [d1, d2, d3] => { results := [.lit (.bool false)], args := [d1, d2, d3] }
  | _ => none }
def TopFramesWrongFalsely : Prop := topFramesRow.holds Try.pinned (OpenSpec.ofChange topFramesWrong)

/-- 'cratewatchlaw.InsideSays': WHATEVER THE INPUT: true; the input reads as it did. -/
def insideSaysSpec : ChangeSpec := { name := "insideSays", fn := fun _ => fun
  | [d1, d2, d3, d4, d5, d6] => { results := [.lit (.bool true)], args := [d1, d2, d3, d4, d5, d6] }
  | _ => none }
def insideSaysRow : OpenClaim := { program := "ythhepmakjimhlaa", sum := "8ce637a057335bd8dafe9e0a817faff46e71a75e2b20a10c48927168b193849b", func := "cratewatch/cratewatchlaw.InsideSays", spec := "insideSays", unfollowed := true, recurses := true, apart := false }
def InsideSaysSaid : Prop := insideSaysRow.holds Try.pinned (OpenSpec.ofChange insideSaysSpec)

/-- ITS FALSE NEIGHBOUR: 'it returns false'. Refute it at one input. -/
def insideSaysWrong : ChangeSpec := { name := "insideSays", fn := fun _ => fun
  | [d1, d2, d3, d4, d5, d6] => { results := [.lit (.bool false)], args := [d1, d2, d3, d4, d5, d6] }
  | _ => none }
def InsideSaysWrongFalsely : Prop := insideSaysRow.holds Try.pinned (OpenSpec.ofChange insideSaysWrong)

/-- 'cratewatchtop.TopEpochs': WHATEVER THE INPUT: true; the input reads as it did. -/
def topEpochsSpec : ChangeSpec := { name := "topEpochs", fn := fun _ => fun
  | [d1, d2, d3] => { results := [.lit (.bool true)], args := [d1, d2, d3] }
  | _ => none }
def topEpochsRow : OpenClaim := { program := "ythhepmakjimhlaa", sum := "8ce637a057335bd8dafe9e0a817faff46e71a75e2b20a10c48927168b193849b", func := "cratewatch/cratewatchtop.TopEpochs", spec := "topEpochs", inPlace := ["internal/reflectlite.ValueOf", "internal/reflectlite.Swapper", "(internal/reflectlite.Value).Len"], unfollowed := true, recurses := true, apart := false }
def TopEpochsSaid : Prop := topEpochsRow.holds Try.pinned (OpenSpec.ofChange topEpochsSpec)

/-- ITS FALSE NEIGHBOUR: 'it returns false'. Refute it at one input. -/
def topEpochsWrong : ChangeSpec := { name := "topEpochs", fn := fun _ => fun
  | [d1, d2, d3] => { results := [.lit (.bool false)], args := [d1, d2, d3] }
  | _ => none }
def TopEpochsWrongFalsely : Prop := topEpochsRow.holds Try.pinned (OpenSpec.ofChange topEpochsWrong)

/- THE SECOND FORM. 'bulk': how many values and letters a reading holds, each counted each time it is reached (what is shared counts as often as it is met; a slice's spare places count too). A statement '..UptoSaid' is the law's where the arguments, and the package variables that the reading takes, are together of bulk at most 1048576: NARROWER than '..Said'. Prove '..Said' where nothing that the law and all that it calls make is longer than what came in: it says more and counts as full. Else prove '..UptoSaid'. A law counts once. -/
mutual
def uptoBulk {H : Type} : DataW H → Nat
  | .lit (.string bytes) => bytes.length + 1
  | .lit _ => 1
  | .nil => 1
  | .ptr d => uptoBulk d + 1
  | .slice elems spare => uptoBulkAll elems + uptoBulkAll spare + 1
  | .agg parts => uptoBulkAll parts + 1
  | .iface _ d => uptoBulk d + 1
  | .map entries => uptoBulkEntries entries + 1
  | .held _ => 1
def uptoBulkAll {H : Type} : List (DataW H) → Nat
  | [] => 0
  | d :: r => uptoBulk d + uptoBulkAll r
def uptoBulkEntries {H : Type} : List (Lit × DataW H) → Nat
  | [] => 0
  | x :: r => uptoBulkEntry x + uptoBulkEntries r
def uptoBulkEntry {H : Type} : Lit × DataW H → Nat
  | (.string bytes, d) => bytes.length + uptoBulk d + 1
  | (_, d) => uptoBulk d + 1
 end
def uptoSmall : (H : Type) → List (DataW H) → Bool := fun _ ds => decide (uptoBulkAll ds ≤ 1048576)
def OpenSpec.upto (s : _root_.Go.ChangeSpec) : _root_.Go.OpenSpec := { _root_.Go.OpenSpec.ofChange s with cond := some uptoSmall }

/-- 'cratewatchlaw.TrackSays', WHERE WHAT IT READS IS OF BULK AT MOST 1048576: true; the input reads as it did. -/
def trackSaysUptoRow : OpenClaim := { program := "ythhepmakjimhlaa", sum := "8ce637a057335bd8dafe9e0a817faff46e71a75e2b20a10c48927168b193849b", func := "cratewatch/cratewatchlaw.TrackSays", spec := "trackSays", unfollowed := true, recurses := true, apart := false, narrowed := true }
def TrackSaysUptoSaid : Prop := trackSaysUptoRow.holds Try.pinned (OpenSpec.upto trackSaysSpec)

/-- 'cratewatchlaw.FrameSays', WHERE WHAT IT READS IS OF BULK AT MOST 1048576: true; the input reads as it did. -/
def frameSaysUptoRow : OpenClaim := { program := "ythhepmakjimhlaa", sum := "8ce637a057335bd8dafe9e0a817faff46e71a75e2b20a10c48927168b193849b", func := "cratewatch/cratewatchlaw.FrameSays", spec := "frameSays", apart := false, narrowed := true }
def FrameSaysUptoSaid : Prop := frameSaysUptoRow.holds Try.pinned (OpenSpec.upto frameSaysSpec)

/-- 'cratewatchlaw.FeedSays', WHERE WHAT IT READS IS OF BULK AT MOST 1048576: true; the input reads as it did. -/
def feedSaysUptoRow : OpenClaim := { program := "ythhepmakjimhlaa", sum := "8ce637a057335bd8dafe9e0a817faff46e71a75e2b20a10c48927168b193849b", func := "cratewatch/cratewatchlaw.FeedSays", spec := "feedSays", apart := false, narrowed := true }
def FeedSaysUptoSaid : Prop := feedSaysUptoRow.holds Try.pinned (OpenSpec.upto feedSaysSpec)

/-- 'cratewatchtop.TopTrack', WHERE WHAT IT READS IS OF BULK AT MOST 1048576: true; the input reads as it did. -/
def topTrackUptoRow : OpenClaim := { program := "ythhepmakjimhlaa", sum := "8ce637a057335bd8dafe9e0a817faff46e71a75e2b20a10c48927168b193849b", func := "cratewatch/cratewatchtop.TopTrack", spec := "topTrack", apart := false, narrowed := true }
def TopTrackUptoSaid : Prop := topTrackUptoRow.holds Try.pinned (OpenSpec.upto topTrackSpec)

/-- 'cratewatchlaw.EpochSays', WHERE WHAT IT READS IS OF BULK AT MOST 1048576: true; the input reads as it did. -/
def epochSaysUptoRow : OpenClaim := { program := "ythhepmakjimhlaa", sum := "8ce637a057335bd8dafe9e0a817faff46e71a75e2b20a10c48927168b193849b", func := "cratewatch/cratewatchlaw.EpochSays", spec := "epochSays", inPlace := ["internal/reflectlite.ValueOf", "internal/reflectlite.Swapper", "(internal/reflectlite.Value).Len"], unfollowed := true, recurses := true, apart := false, narrowed := true }
def EpochSaysUptoSaid : Prop := epochSaysUptoRow.holds Try.pinned (OpenSpec.upto epochSaysSpec)

/-- 'cratewatchtop.TopFrames', WHERE WHAT IT READS IS OF BULK AT MOST 1048576: true; the input reads as it did. -/
def topFramesUptoRow : OpenClaim := { program := "ythhepmakjimhlaa", sum := "8ce637a057335bd8dafe9e0a817faff46e71a75e2b20a10c48927168b193849b", func := "cratewatch/cratewatchtop.TopFrames", spec := "topFrames", apart := false, narrowed := true }
def TopFramesUptoSaid : Prop := topFramesUptoRow.holds Try.pinned (OpenSpec.upto topFramesSpec)

/-- 'cratewatchlaw.InsideSays', WHERE WHAT IT READS IS OF BULK AT MOST 1048576: true; the input reads as it did. -/
def insideSaysUptoRow : OpenClaim := { program := "ythhepmakjimhlaa", sum := "8ce637a057335bd8dafe9e0a817faff46e71a75e2b20a10c48927168b193849b", func := "cratewatch/cratewatchlaw.InsideSays", spec := "insideSays", unfollowed := true, recurses := true, apart := false, narrowed := true }
def InsideSaysUptoSaid : Prop := insideSaysUptoRow.holds Try.pinned (OpenSpec.upto insideSaysSpec)

/-- 'cratewatchtop.TopEpochs', WHERE WHAT IT READS IS OF BULK AT MOST 1048576: true; the input reads as it did. -/
def topEpochsUptoRow : OpenClaim := { program := "ythhepmakjimhlaa", sum := "8ce637a057335bd8dafe9e0a817faff46e71a75e2b20a10c48927168b193849b", func := "cratewatch/cratewatchtop.TopEpochs", spec := "topEpochs", inPlace := ["internal/reflectlite.ValueOf", "internal/reflectlite.Swapper", "(internal/reflectlite.Value).Len"], unfollowed := true, recurses := true, apart := false, narrowed := true }
def TopEpochsUptoSaid : Prop := topEpochsUptoRow.holds Try.pinned (OpenSpec.upto topEpochsSpec)

end Rows
end Go.Proofs.Ythhepmakjimhlaa
