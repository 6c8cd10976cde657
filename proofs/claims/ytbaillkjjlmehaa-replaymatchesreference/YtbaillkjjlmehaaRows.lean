/-
  No cell of these rows narrows 'for every input' (looked for: loops, veiled, ifaces, maps, wideKeys, modest, calm, conditions, laid).
  DERIVED. THE GIVEN ROWS OF THIS SEAT. 7 by the template 'for every input the law returns true; each argument reads behind the call as it read before'; 0 by the template 'total and deterministic' (their statements: YtbaillkjjlmehaaTotals.lean).
  GIVEN WITH THE SEED: the statements are not yours to turn. If you find one false, say at which input.
  Laid BY PROGRAM, IN A SANDBOX (cutbox-rows.mjs): the forced cells as the released guide's own fill.sh prints them over the translation 29a0c3801eb60326… (all of the seat's roots in one cut). By AI agents, Wed Nov 11 2026. No macro, syntax, notation, axiom, sorry.
-/
import Derived.Test.YtbaillkjjlmehaaChecked
import GoSem.Claim
import GoSem.ClaimJoined
import GoSem.ClaimMapViews
import Derived.JoinedTies
import Derived.KernelRfl
namespace Go.Proofs.Ytbaillkjjlmehaa
/- THE CELL 'sum', in the pinned program and in every row, IS THE sha256 OF THE DUMP (.gsa) THAT YtbaillkjjlmehaaProg.lean LOADS. Nothing in Lean hashes anything: it is a label: what it is worth is what the hold of that sum in a sandbox is worth. -/
noncomputable def Try.pinned : Pinned := { name := "ytbaillkjjlmehaa", sum := "29a0c3801eb60326e88c64acd76a9d52d5ee255c885c4aa321e33a99bfa7a4c9", checked := Try.checked }
namespace Rows
def none {H : Type} : Left H := { results := [], args := [] }

/-- 'latecomerlaw24.ReplayMatchesReference': WHATEVER THE INPUT: true; the input reads as it did. -/
def replayMatchesReferenceSpec : ChangeSpec := { name := "replayMatchesReference", fn := fun _ => fun
  | [d1, d2, d3, d4] => { results := [.lit (.bool true)], args := [d1, d2, d3, d4] }
  | _ => none }
def replayMatchesReferenceRow : OpenClaim := { program := "ytbaillkjjlmehaa", sum := "29a0c3801eb60326e88c64acd76a9d52d5ee255c885c4aa321e33a99bfa7a4c9", func := "latecomer/latecomerlaw24.ReplayMatchesReference", spec := "replayMatchesReference", unfollowed := true, recurses := true, apart := false }
def ReplayMatchesReferenceSaid : Prop := replayMatchesReferenceRow.holds Try.pinned (OpenSpec.ofChange replayMatchesReferenceSpec)

/-- ITS FALSE NEIGHBOUR: 'it returns false'. Refute it at one input. -/
def replayMatchesReferenceWrong : ChangeSpec := { name := "replayMatchesReference", fn := fun _ => fun
  | [d1, d2, d3, d4] => { results := [.lit (.bool false)], args := [d1, d2, d3, d4] }
  | _ => none }
def ReplayMatchesReferenceWrongFalsely : Prop := replayMatchesReferenceRow.holds Try.pinned (OpenSpec.ofChange replayMatchesReferenceWrong)

/-- 'latecomerlaw24.ReplayWas': WHATEVER THE INPUT: true; the input reads as it did. -/
def replayWasSpec : ChangeSpec := { name := "replayWas", fn := fun _ => fun
  | [d] => { results := [.lit (.bool true)], args := [d] }
  | _ => none }
def replayWasRow : OpenClaim := { program := "ytbaillkjjlmehaa", sum := "29a0c3801eb60326e88c64acd76a9d52d5ee255c885c4aa321e33a99bfa7a4c9", func := "latecomer/latecomerlaw24.ReplayWas", spec := "replayWas", unfollowed := true, recurses := true, apart := false }
def ReplayWasSaid : Prop := replayWasRow.holds Try.pinned (OpenSpec.ofChange replayWasSpec)

/-- ITS FALSE NEIGHBOUR: 'it returns false'. Refute it at one input. -/
def replayWasWrong : ChangeSpec := { name := "replayWas", fn := fun _ => fun
  | [d] => { results := [.lit (.bool false)], args := [d] }
  | _ => none }
def ReplayWasWrongFalsely : Prop := replayWasRow.holds Try.pinned (OpenSpec.ofChange replayWasWrong)

/-- 'latecomerlaw24.ReplayIdle': WHATEVER THE INPUT: true; the input reads as it did. -/
def replayIdleSpec : ChangeSpec := { name := "replayIdle", fn := fun _ => fun
  | [d1, d2] => { results := [.lit (.bool true)], args := [d1, d2] }
  | _ => none }
def replayIdleRow : OpenClaim := { program := "ytbaillkjjlmehaa", sum := "29a0c3801eb60326e88c64acd76a9d52d5ee255c885c4aa321e33a99bfa7a4c9", func := "latecomer/latecomerlaw24.ReplayIdle", spec := "replayIdle", unfollowed := true, recurses := true, apart := false }
def ReplayIdleSaid : Prop := replayIdleRow.holds Try.pinned (OpenSpec.ofChange replayIdleSpec)

/-- ITS FALSE NEIGHBOUR: 'it returns false'. Refute it at one input. -/
def replayIdleWrong : ChangeSpec := { name := "replayIdle", fn := fun _ => fun
  | [d1, d2] => { results := [.lit (.bool false)], args := [d1, d2] }
  | _ => none }
def ReplayIdleWrongFalsely : Prop := replayIdleRow.holds Try.pinned (OpenSpec.ofChange replayIdleWrong)

/-- 'latecomerlaw24.ReplayMoves': WHATEVER THE INPUT: true; the input reads as it did. -/
def replayMovesSpec : ChangeSpec := { name := "replayMoves", fn := fun _ => fun
  | [d1, d2] => { results := [.lit (.bool true)], args := [d1, d2] }
  | _ => none }
def replayMovesRow : OpenClaim := { program := "ytbaillkjjlmehaa", sum := "29a0c3801eb60326e88c64acd76a9d52d5ee255c885c4aa321e33a99bfa7a4c9", func := "latecomer/latecomerlaw24.ReplayMoves", spec := "replayMoves", unfollowed := true, recurses := true, apart := false }
def ReplayMovesSaid : Prop := replayMovesRow.holds Try.pinned (OpenSpec.ofChange replayMovesSpec)

/-- ITS FALSE NEIGHBOUR: 'it returns false'. Refute it at one input. -/
def replayMovesWrong : ChangeSpec := { name := "replayMoves", fn := fun _ => fun
  | [d1, d2] => { results := [.lit (.bool false)], args := [d1, d2] }
  | _ => none }
def ReplayMovesWrongFalsely : Prop := replayMovesRow.holds Try.pinned (OpenSpec.ofChange replayMovesWrong)

/-- 'latecomerlaw24.ReplayGrows': WHATEVER THE INPUT: true; the input reads as it did. -/
def replayGrowsSpec : ChangeSpec := { name := "replayGrows", fn := fun _ => fun
  | [d] => { results := [.lit (.bool true)], args := [d] }
  | _ => none }
def replayGrowsRow : OpenClaim := { program := "ytbaillkjjlmehaa", sum := "29a0c3801eb60326e88c64acd76a9d52d5ee255c885c4aa321e33a99bfa7a4c9", func := "latecomer/latecomerlaw24.ReplayGrows", spec := "replayGrows", unfollowed := true, recurses := true, apart := false }
def ReplayGrowsSaid : Prop := replayGrowsRow.holds Try.pinned (OpenSpec.ofChange replayGrowsSpec)

/-- ITS FALSE NEIGHBOUR: 'it returns false'. Refute it at one input. -/
def replayGrowsWrong : ChangeSpec := { name := "replayGrows", fn := fun _ => fun
  | [d] => { results := [.lit (.bool false)], args := [d] }
  | _ => none }
def ReplayGrowsWrongFalsely : Prop := replayGrowsRow.holds Try.pinned (OpenSpec.ofChange replayGrowsWrong)

/-- 'latecomerlaw24.ReplayNames': WHATEVER THE INPUT: true; the input reads as it did. -/
def replayNamesSpec : ChangeSpec := { name := "replayNames", fn := fun _ => fun
  | [d1, d2, d3] => { results := [.lit (.bool true)], args := [d1, d2, d3] }
  | _ => none }
def replayNamesRow : OpenClaim := { program := "ytbaillkjjlmehaa", sum := "29a0c3801eb60326e88c64acd76a9d52d5ee255c885c4aa321e33a99bfa7a4c9", func := "latecomer/latecomerlaw24.ReplayNames", spec := "replayNames", unfollowed := true, recurses := true, apart := false }
def ReplayNamesSaid : Prop := replayNamesRow.holds Try.pinned (OpenSpec.ofChange replayNamesSpec)

/-- ITS FALSE NEIGHBOUR: 'it returns false'. Refute it at one input. -/
def replayNamesWrong : ChangeSpec := { name := "replayNames", fn := fun _ => fun
  | [d1, d2, d3] => { results := [.lit (.bool false)], args := [d1, d2, d3] }
  | _ => none }
def ReplayNamesWrongFalsely : Prop := replayNamesRow.holds Try.pinned (OpenSpec.ofChange replayNamesWrong)

/-- 'latecomerlaw24.ReplaySupported': WHATEVER THE INPUT: true; the input reads as it did. -/
def replaySupportedSpec : ChangeSpec := { name := "replaySupported", fn := fun _ => fun
  | [d1, d2] => { results := [.lit (.bool true)], args := [d1, d2] }
  | _ => none }
def replaySupportedRow : OpenClaim := { program := "ytbaillkjjlmehaa", sum := "29a0c3801eb60326e88c64acd76a9d52d5ee255c885c4aa321e33a99bfa7a4c9", func := "latecomer/latecomerlaw24.ReplaySupported", spec := "replaySupported", inPlace := ["slices.overlaps[latecomer/api.Range]"], unfollowed := true, recurses := true, apart := false }
def ReplaySupportedSaid : Prop := replaySupportedRow.holds Try.pinned (OpenSpec.ofChange replaySupportedSpec)

/-- ITS FALSE NEIGHBOUR: 'it returns false'. Refute it at one input. -/
def replaySupportedWrong : ChangeSpec := { name := "replaySupported", fn := fun _ => fun
  | [d1, d2] => { results := [.lit (.bool false)], args := [d1, d2] }
  | _ => none }
def ReplaySupportedWrongFalsely : Prop := replaySupportedRow.holds Try.pinned (OpenSpec.ofChange replaySupportedWrong)

/- THE SECOND FORM. 'bulk': how many values and letters a reading holds, each counted each time it is reached (what is shared counts as often as it is met; a slice's spare places count too). A statement '..UptoSaid' is the law's where the arguments, and the package variables that the reading takes, are together of bulk at most 1048576: NARROWER than '..Said'. Prove '..Said' where nothing that the law and all that it calls make is longer than what came in: it says more and counts as full. Else prove '..UptoSaid'. A law counts once. -/
mutual
def uptoBulk {H : Type} : DataW H → Nat
  | .lit (.string bytes) => bytes.length + 1
  | .lit _ => 1
  | .nil => 1
  | .ptr d => uptoBulk d + 1
  | .slice elems spare => uptoBulkAll elems + uptoBulkAll spare + 1
  | .agg parts => uptoBulkAll parts + 1
  | .iface _ d => uptoBulk d + 1
  | .map entries => uptoBulkEntries entries + 1
  | .held _ => 1
def uptoBulkAll {H : Type} : List (DataW H) → Nat
  | [] => 0
  | d :: r => uptoBulk d + uptoBulkAll r
def uptoBulkEntries {H : Type} : List (Lit × DataW H) → Nat
  | [] => 0
  | x :: r => uptoBulkEntry x + uptoBulkEntries r
def uptoBulkEntry {H : Type} : Lit × DataW H → Nat
  | (.string bytes, d) => bytes.length + uptoBulk d + 1
  | (_, d) => uptoBulk d + 1
 end
def uptoSmall : (H : Type) → List (DataW H) → Bool := fun _ ds => decide (uptoBulkAll ds ≤ 1048576)
def OpenSpec.upto (s : _root_.Go.ChangeSpec) : _root_.Go.OpenSpec := { _root_.Go.OpenSpec.ofChange s with cond := some uptoSmall }

/-- 'latecomerlaw24.ReplayMatchesReference', WHERE WHAT IT READS IS OF BULK AT MOST 1048576: true; the input reads as it did. -/
def replayMatchesReferenceUptoRow : OpenClaim := { program := "ytbaillkjjlmehaa", sum := "29a0c3801eb60326e88c64acd76a9d52d5ee255c885c4aa321e33a99bfa7a4c9", func := "latecomer/latecomerlaw24.ReplayMatchesReference", spec := "replayMatchesReference", unfollowed := true, recurses := true, apart := false, narrowed := true }
def ReplayMatchesReferenceUptoSaid : Prop := replayMatchesReferenceUptoRow.holds Try.pinned (OpenSpec.upto replayMatchesReferenceSpec)

/-- 'latecomerlaw24.ReplayWas', WHERE WHAT IT READS IS OF BULK AT MOST 1048576: true; the input reads as it did. -/
def replayWasUptoRow : OpenClaim := { program := "ytbaillkjjlmehaa", sum := "29a0c3801eb60326e88c64acd76a9d52d5ee255c885c4aa321e33a99bfa7a4c9", func := "latecomer/latecomerlaw24.ReplayWas", spec := "replayWas", unfollowed := true, recurses := true, apart := false, narrowed := true }
def ReplayWasUptoSaid : Prop := replayWasUptoRow.holds Try.pinned (OpenSpec.upto replayWasSpec)

/-- 'latecomerlaw24.ReplayIdle', WHERE WHAT IT READS IS OF BULK AT MOST 1048576: true; the input reads as it did. -/
def replayIdleUptoRow : OpenClaim := { program := "ytbaillkjjlmehaa", sum := "29a0c3801eb60326e88c64acd76a9d52d5ee255c885c4aa321e33a99bfa7a4c9", func := "latecomer/latecomerlaw24.ReplayIdle", spec := "replayIdle", unfollowed := true, recurses := true, apart := false, narrowed := true }
def ReplayIdleUptoSaid : Prop := replayIdleUptoRow.holds Try.pinned (OpenSpec.upto replayIdleSpec)

/-- 'latecomerlaw24.ReplayMoves', WHERE WHAT IT READS IS OF BULK AT MOST 1048576: true; the input reads as it did. -/
def replayMovesUptoRow : OpenClaim := { program := "ytbaillkjjlmehaa", sum := "29a0c3801eb60326e88c64acd76a9d52d5ee255c885c4aa321e33a99bfa7a4c9", func := "latecomer/latecomerlaw24.ReplayMoves", spec := "replayMoves", unfollowed := true, recurses := true, apart := false, narrowed := true }
def ReplayMovesUptoSaid : Prop := replayMovesUptoRow.holds Try.pinned (OpenSpec.upto replayMovesSpec)

/-- 'latecomerlaw24.ReplayGrows', WHERE WHAT IT READS IS OF BULK AT MOST 1048576: true; the input reads as it did. -/
def replayGrowsUptoRow : OpenClaim := { program := "ytbaillkjjlmehaa", sum := "29a0c3801eb60326e88c64acd76a9d52d5ee255c885c4aa321e33a99bfa7a4c9", func := "latecomer/latecomerlaw24.ReplayGrows", spec := "replayGrows", unfollowed := true, recurses := true, apart := false, narrowed := true }
def ReplayGrowsUptoSaid : Prop := replayGrowsUptoRow.holds Try.pinned (OpenSpec.upto replayGrowsSpec)

/-- 'latecomerlaw24.ReplayNames', WHERE WHAT IT READS IS OF BULK AT MOST 1048576: true; the input reads as it did. -/
def replayNamesUptoRow : OpenClaim := { program := "ytbaillkjjlmehaa", sum := "29a0c3801eb60326e88c64acd76a9d52d5ee255c885c4aa321e33a99bfa7a4c9", func := "latecomer/latecomerlaw24.ReplayNames", spec := "replayNames", unfollowed := true, recurses := true, apart := false, narrowed := true }
def ReplayNamesUptoSaid : Prop := replayNamesUptoRow.holds Try.pinned (OpenSpec.upto replayNamesSpec)

/-- 'latecomerlaw24.ReplaySupported', WHERE WHAT IT READS IS OF BULK AT MOST 1048576: true; the input reads as it did. -/
def replaySupportedUptoRow : OpenClaim := { program := "ytbaillkjjlmehaa", sum := "29a0c3801eb60326e88c64acd76a9d52d5ee255c885c4aa321e33a99bfa7a4c9", func := "latecomer/latecomerlaw24.ReplaySupported", spec := "replaySupported", inPlace := ["slices.overlaps[latecomer/api.Range]"], unfollowed := true, recurses := true, apart := false, narrowed := true }
def ReplaySupportedUptoSaid : Prop := replaySupportedUptoRow.holds Try.pinned (OpenSpec.upto replaySupportedSpec)

end Rows
end Go.Proofs.Ytbaillkjjlmehaa
