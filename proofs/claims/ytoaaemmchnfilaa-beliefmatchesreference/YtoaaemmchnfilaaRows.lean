/-
  No cell of these rows narrows 'for every input' (looked for: loops, veiled, ifaces, maps, wideKeys, modest, calm, conditions, laid).
  DERIVED. THE GIVEN ROWS OF THIS SEAT. 7 by the template 'for every input the law returns true; each argument reads behind the call as it read before'; 0 by the template 'total and deterministic' (their statements: YtoaaemmchnfilaaTotals.lean).
  GIVEN WITH THE SEED: the statements are not yours to turn. If you find one false, say at which input.
  Laid BY PROGRAM, IN A SANDBOX (cutbox-rows.mjs): the forced cells as the released guide's own fill.sh prints them over the translation 2bcb873398786c52… (all of the seat's roots in one cut). By AI agents, Wed Nov 11 2026. No macro, syntax, notation, axiom, sorry.
-/
import Derived.Test.YtoaaemmchnfilaaChecked
import GoSem.Claim
import GoSem.ClaimJoined
import GoSem.ClaimMapViews
import Derived.JoinedTies
import Derived.KernelRfl
namespace Go.Proofs.Ytoaaemmchnfilaa
/- THE CELL 'sum', in the pinned program and in every row, IS THE sha256 OF THE DUMP (.gsa) THAT YtoaaemmchnfilaaProg.lean LOADS. Nothing in Lean hashes anything: it is a label: what it is worth is what the hold of that sum in a sandbox is worth. -/
noncomputable def Try.pinned : Pinned := { name := "ytoaaemmchnfilaa", sum := "2bcb873398786c52095d5d429e78fb5eb949f62f6f8214939f5a0517fd87c67d", checked := Try.checked }
namespace Rows
def none {H : Type} : Left H := { results := [], args := [] }

/-- 'latecomerlaw10.BeliefMatchesReference': WHATEVER THE INPUT: true; the input reads as it did. -/
def beliefMatchesReferenceSpec : ChangeSpec := { name := "beliefMatchesReference", fn := fun _ => fun
  | [d1, d2, d3, d4, d5] => { results := [.lit (.bool true)], args := [d1, d2, d3, d4, d5] }
  | _ => none }
def beliefMatchesReferenceRow : OpenClaim := { program := "ytoaaemmchnfilaa", sum := "2bcb873398786c52095d5d429e78fb5eb949f62f6f8214939f5a0517fd87c67d", func := "latecomer/latecomerlaw10.BeliefMatchesReference", spec := "beliefMatchesReference", unfollowed := true, recurses := true, apart := false }
def BeliefMatchesReferenceSaid : Prop := beliefMatchesReferenceRow.holds Try.pinned (OpenSpec.ofChange beliefMatchesReferenceSpec)

/-- ITS FALSE NEIGHBOUR: 'it returns false'. Refute it at one input. -/
def beliefMatchesReferenceWrong : ChangeSpec := { name := "beliefMatchesReference", fn := fun _ => fun
  | [d1, d2, d3, d4, d5] => { results := [.lit (.bool false)], args := [d1, d2, d3, d4, d5] }
  | _ => none }
def BeliefMatchesReferenceWrongFalsely : Prop := beliefMatchesReferenceRow.holds Try.pinned (OpenSpec.ofChange beliefMatchesReferenceWrong)

/-- 'latecomerlaw10.BeliefTruth': WHATEVER THE INPUT: true; the input reads as it did. -/
def beliefTruthSpec : ChangeSpec := { name := "beliefTruth", fn := fun _ => fun
  | [d] => { results := [.lit (.bool true)], args := [d] }
  | _ => none }
def beliefTruthRow : OpenClaim := { program := "ytoaaemmchnfilaa", sum := "2bcb873398786c52095d5d429e78fb5eb949f62f6f8214939f5a0517fd87c67d", func := "latecomer/latecomerlaw10.BeliefTruth", spec := "beliefTruth", unfollowed := true, recurses := true, apart := false }
def BeliefTruthSaid : Prop := beliefTruthRow.holds Try.pinned (OpenSpec.ofChange beliefTruthSpec)

/-- ITS FALSE NEIGHBOUR: 'it returns false'. Refute it at one input. -/
def beliefTruthWrong : ChangeSpec := { name := "beliefTruth", fn := fun _ => fun
  | [d] => { results := [.lit (.bool false)], args := [d] }
  | _ => none }
def BeliefTruthWrongFalsely : Prop := beliefTruthRow.holds Try.pinned (OpenSpec.ofChange beliefTruthWrong)

/-- 'latecomerlaw10.BeliefAll': WHATEVER THE INPUT: true; the input reads as it did. -/
def beliefAllSpec : ChangeSpec := { name := "beliefAll", fn := fun _ => fun
  | [d] => { results := [.lit (.bool true)], args := [d] }
  | _ => none }
def beliefAllRow : OpenClaim := { program := "ytoaaemmchnfilaa", sum := "2bcb873398786c52095d5d429e78fb5eb949f62f6f8214939f5a0517fd87c67d", func := "latecomer/latecomerlaw10.BeliefAll", spec := "beliefAll", unfollowed := true, recurses := true, apart := false }
def BeliefAllSaid : Prop := beliefAllRow.holds Try.pinned (OpenSpec.ofChange beliefAllSpec)

/-- ITS FALSE NEIGHBOUR: 'it returns false'. Refute it at one input. -/
def beliefAllWrong : ChangeSpec := { name := "beliefAll", fn := fun _ => fun
  | [d] => { results := [.lit (.bool false)], args := [d] }
  | _ => none }
def BeliefAllWrongFalsely : Prop := beliefAllRow.holds Try.pinned (OpenSpec.ofChange beliefAllWrong)

/-- 'latecomerlaw10.BeliefNarrower': WHATEVER THE INPUT: true; the input reads as it did. -/
def beliefNarrowerSpec : ChangeSpec := { name := "beliefNarrower", fn := fun _ => fun
  | [d] => { results := [.lit (.bool true)], args := [d] }
  | _ => none }
def beliefNarrowerRow : OpenClaim := { program := "ytoaaemmchnfilaa", sum := "2bcb873398786c52095d5d429e78fb5eb949f62f6f8214939f5a0517fd87c67d", func := "latecomer/latecomerlaw10.BeliefNarrower", spec := "beliefNarrower", unfollowed := true, recurses := true, apart := false }
def BeliefNarrowerSaid : Prop := beliefNarrowerRow.holds Try.pinned (OpenSpec.ofChange beliefNarrowerSpec)

/-- ITS FALSE NEIGHBOUR: 'it returns false'. Refute it at one input. -/
def beliefNarrowerWrong : ChangeSpec := { name := "beliefNarrower", fn := fun _ => fun
  | [d] => { results := [.lit (.bool false)], args := [d] }
  | _ => none }
def BeliefNarrowerWrongFalsely : Prop := beliefNarrowerRow.holds Try.pinned (OpenSpec.ofChange beliefNarrowerWrong)

/-- 'latecomerlaw10.BeliefWider': WHATEVER THE INPUT: true; the input reads as it did. -/
def beliefWiderSpec : ChangeSpec := { name := "beliefWider", fn := fun _ => fun
  | [d] => { results := [.lit (.bool true)], args := [d] }
  | _ => none }
def beliefWiderRow : OpenClaim := { program := "ytoaaemmchnfilaa", sum := "2bcb873398786c52095d5d429e78fb5eb949f62f6f8214939f5a0517fd87c67d", func := "latecomer/latecomerlaw10.BeliefWider", spec := "beliefWider", unfollowed := true, recurses := true, apart := false }
def BeliefWiderSaid : Prop := beliefWiderRow.holds Try.pinned (OpenSpec.ofChange beliefWiderSpec)

/-- ITS FALSE NEIGHBOUR: 'it returns false'. Refute it at one input. -/
def beliefWiderWrong : ChangeSpec := { name := "beliefWider", fn := fun _ => fun
  | [d] => { results := [.lit (.bool false)], args := [d] }
  | _ => none }
def BeliefWiderWrongFalsely : Prop := beliefWiderRow.holds Try.pinned (OpenSpec.ofChange beliefWiderWrong)

/-- 'latecomerlaw10.BeliefExposed': WHATEVER THE INPUT: true; the input reads as it did. -/
def beliefExposedSpec : ChangeSpec := { name := "beliefExposed", fn := fun _ => fun
  | [d] => { results := [.lit (.bool true)], args := [d] }
  | _ => none }
def beliefExposedRow : OpenClaim := { program := "ytoaaemmchnfilaa", sum := "2bcb873398786c52095d5d429e78fb5eb949f62f6f8214939f5a0517fd87c67d", func := "latecomer/latecomerlaw10.BeliefExposed", spec := "beliefExposed", unfollowed := true, recurses := true, apart := false }
def BeliefExposedSaid : Prop := beliefExposedRow.holds Try.pinned (OpenSpec.ofChange beliefExposedSpec)

/-- ITS FALSE NEIGHBOUR: 'it returns false'. Refute it at one input. -/
def beliefExposedWrong : ChangeSpec := { name := "beliefExposed", fn := fun _ => fun
  | [d] => { results := [.lit (.bool false)], args := [d] }
  | _ => none }
def BeliefExposedWrongFalsely : Prop := beliefExposedRow.holds Try.pinned (OpenSpec.ofChange beliefExposedWrong)

/-- 'latecomerlaw10.BeliefAttained': WHATEVER THE INPUT: true; the input reads as it did. -/
def beliefAttainedSpec : ChangeSpec := { name := "beliefAttained", fn := fun _ => fun
  | [d1, d2] => { results := [.lit (.bool true)], args := [d1, d2] }
  | _ => none }
def beliefAttainedRow : OpenClaim := { program := "ytoaaemmchnfilaa", sum := "2bcb873398786c52095d5d429e78fb5eb949f62f6f8214939f5a0517fd87c67d", func := "latecomer/latecomerlaw10.BeliefAttained", spec := "beliefAttained", unfollowed := true, recurses := true, apart := false }
def BeliefAttainedSaid : Prop := beliefAttainedRow.holds Try.pinned (OpenSpec.ofChange beliefAttainedSpec)

/-- ITS FALSE NEIGHBOUR: 'it returns false'. Refute it at one input. -/
def beliefAttainedWrong : ChangeSpec := { name := "beliefAttained", fn := fun _ => fun
  | [d1, d2] => { results := [.lit (.bool false)], args := [d1, d2] }
  | _ => none }
def BeliefAttainedWrongFalsely : Prop := beliefAttainedRow.holds Try.pinned (OpenSpec.ofChange beliefAttainedWrong)

/- THE SECOND FORM. 'bulk': how many values and letters a reading holds, each counted each time it is reached (what is shared counts as often as it is met; a slice's spare places count too). A statement '..UptoSaid' is the law's where the arguments, and the package variables that the reading takes, are together of bulk at most 1048576: NARROWER than '..Said'. Prove '..Said' where nothing that the law and all that it calls make is longer than what came in: it says more and counts as full. Else prove '..UptoSaid'. A law counts once. -/
mutual
def uptoBulk {H : Type} : DataW H → Nat
  | .lit (.string bytes) => bytes.length + 1
  | .lit _ => 1
  | .nil => 1
  | .ptr d => uptoBulk d + 1
  | .slice elems spare => uptoBulkAll elems + uptoBulkAll spare + 1
  | .agg parts => uptoBulkAll parts + 1
  | .iface _ d => uptoBulk d + 1
  | .map entries => uptoBulkEntries entries + 1
  | .held _ => 1
def uptoBulkAll {H : Type} : List (DataW H) → Nat
  | [] => 0
  | d :: r => uptoBulk d + uptoBulkAll r
def uptoBulkEntries {H : Type} : List (Lit × DataW H) → Nat
  | [] => 0
  | x :: r => uptoBulkEntry x + uptoBulkEntries r
def uptoBulkEntry {H : Type} : Lit × DataW H → Nat
  | (.string bytes, d) => bytes.length + uptoBulk d + 1
  | (_, d) => uptoBulk d + 1
 end
def uptoSmall : (H : Type) → List (DataW H) → Bool := fun _ ds => decide (uptoBulkAll ds ≤ 1048576)
def OpenSpec.upto (s : _root_.Go.ChangeSpec) : _root_.Go.OpenSpec := { _root_.Go.OpenSpec.ofChange s with cond := some uptoSmall }

/-- 'latecomerlaw10.BeliefMatchesReference', WHERE WHAT IT READS IS OF BULK AT MOST 1048576: true; the input reads as it did. -/
def beliefMatchesReferenceUptoRow : OpenClaim := { program := "ytoaaemmchnfilaa", sum := "2bcb873398786c52095d5d429e78fb5eb949f62f6f8214939f5a0517fd87c67d", func := "latecomer/latecomerlaw10.BeliefMatchesReference", spec := "beliefMatchesReference", unfollowed := true, recurses := true, apart := false, narrowed := true }
def BeliefMatchesReferenceUptoSaid : Prop := beliefMatchesReferenceUptoRow.holds Try.pinned (OpenSpec.upto beliefMatchesReferenceSpec)

/-- 'latecomerlaw10.BeliefTruth', WHERE WHAT IT READS IS OF BULK AT MOST 1048576: true; the input reads as it did. -/
def beliefTruthUptoRow : OpenClaim := { program := "ytoaaemmchnfilaa", sum := "2bcb873398786c52095d5d429e78fb5eb949f62f6f8214939f5a0517fd87c67d", func := "latecomer/latecomerlaw10.BeliefTruth", spec := "beliefTruth", unfollowed := true, recurses := true, apart := false, narrowed := true }
def BeliefTruthUptoSaid : Prop := beliefTruthUptoRow.holds Try.pinned (OpenSpec.upto beliefTruthSpec)

/-- 'latecomerlaw10.BeliefAll', WHERE WHAT IT READS IS OF BULK AT MOST 1048576: true; the input reads as it did. -/
def beliefAllUptoRow : OpenClaim := { program := "ytoaaemmchnfilaa", sum := "2bcb873398786c52095d5d429e78fb5eb949f62f6f8214939f5a0517fd87c67d", func := "latecomer/latecomerlaw10.BeliefAll", spec := "beliefAll", unfollowed := true, recurses := true, apart := false, narrowed := true }
def BeliefAllUptoSaid : Prop := beliefAllUptoRow.holds Try.pinned (OpenSpec.upto beliefAllSpec)

/-- 'latecomerlaw10.BeliefNarrower', WHERE WHAT IT READS IS OF BULK AT MOST 1048576: true; the input reads as it did. -/
def beliefNarrowerUptoRow : OpenClaim := { program := "ytoaaemmchnfilaa", sum := "2bcb873398786c52095d5d429e78fb5eb949f62f6f8214939f5a0517fd87c67d", func := "latecomer/latecomerlaw10.BeliefNarrower", spec := "beliefNarrower", unfollowed := true, recurses := true, apart := false, narrowed := true }
def BeliefNarrowerUptoSaid : Prop := beliefNarrowerUptoRow.holds Try.pinned (OpenSpec.upto beliefNarrowerSpec)

/-- 'latecomerlaw10.BeliefWider', WHERE WHAT IT READS IS OF BULK AT MOST 1048576: true; the input reads as it did. -/
def beliefWiderUptoRow : OpenClaim := { program := "ytoaaemmchnfilaa", sum := "2bcb873398786c52095d5d429e78fb5eb949f62f6f8214939f5a0517fd87c67d", func := "latecomer/latecomerlaw10.BeliefWider", spec := "beliefWider", unfollowed := true, recurses := true, apart := false, narrowed := true }
def BeliefWiderUptoSaid : Prop := beliefWiderUptoRow.holds Try.pinned (OpenSpec.upto beliefWiderSpec)

/-- 'latecomerlaw10.BeliefExposed', WHERE WHAT IT READS IS OF BULK AT MOST 1048576: true; the input reads as it did. -/
def beliefExposedUptoRow : OpenClaim := { program := "ytoaaemmchnfilaa", sum := "2bcb873398786c52095d5d429e78fb5eb949f62f6f8214939f5a0517fd87c67d", func := "latecomer/latecomerlaw10.BeliefExposed", spec := "beliefExposed", unfollowed := true, recurses := true, apart := false, narrowed := true }
def BeliefExposedUptoSaid : Prop := beliefExposedUptoRow.holds Try.pinned (OpenSpec.upto beliefExposedSpec)

/-- 'latecomerlaw10.BeliefAttained', WHERE WHAT IT READS IS OF BULK AT MOST 1048576: true; the input reads as it did. -/
def beliefAttainedUptoRow : OpenClaim := { program := "ytoaaemmchnfilaa", sum := "2bcb873398786c52095d5d429e78fb5eb949f62f6f8214939f5a0517fd87c67d", func := "latecomer/latecomerlaw10.BeliefAttained", spec := "beliefAttained", unfollowed := true, recurses := true, apart := false, narrowed := true }
def BeliefAttainedUptoSaid : Prop := beliefAttainedUptoRow.holds Try.pinned (OpenSpec.upto beliefAttainedSpec)

end Rows
end Go.Proofs.Ytoaaemmchnfilaa
