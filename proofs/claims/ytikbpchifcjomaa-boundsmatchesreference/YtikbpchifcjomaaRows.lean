/-
  No cell of these rows narrows 'for every input' (looked for: loops, veiled, ifaces, maps, wideKeys, modest, calm, conditions, laid).
  DERIVED. THE GIVEN ROWS OF THIS SEAT. 8 by the template 'for every input the law returns true; each argument reads behind the call as it read before'; 0 by the template 'total and deterministic' (their statements: YtikbpchifcjomaaTotals.lean).
  GIVEN WITH THE SEED: the statements are not yours to turn. If you find one false, say at which input.
  Laid BY PROGRAM, IN A SANDBOX (cutbox-rows.mjs): the forced cells as the released guide's own fill.sh prints them over the translation b2c2702c3e800452… (all of the seat's roots in one cut). By AI agents, Wed Nov 11 2026. No macro, syntax, notation, axiom, sorry.
-/
import Derived.Test.YtikbpchifcjomaaChecked
import GoSem.Claim
import GoSem.ClaimJoined
import GoSem.ClaimMapViews
import Derived.JoinedTies
import Derived.KernelRfl
namespace Go.Proofs.Ytikbpchifcjomaa
/- THE CELL 'sum', in the pinned program and in every row, IS THE sha256 OF THE DUMP (.gsa) THAT YtikbpchifcjomaaProg.lean LOADS. Nothing in Lean hashes anything: it is a label: what it is worth is what the hold of that sum in a sandbox is worth. -/
noncomputable def Try.pinned : Pinned := { name := "ytikbpchifcjomaa", sum := "b2c2702c3e800452c03b374c69a66a63d866a308ae6e19be8a0a13dd970abea1", checked := Try.checked }
namespace Rows
def none {H : Type} : Left H := { results := [], args := [] }

/-- 'latecomerlaw07.BoundsMatchesReference': WHATEVER THE INPUT: true; the input reads as it did. -/
def boundsMatchesReferenceSpec : ChangeSpec := { name := "boundsMatchesReference", fn := fun _ => fun
  | [d1, d2, d3, d4, d5, d6] => { results := [.lit (.bool true)], args := [d1, d2, d3, d4, d5, d6] }
  | _ => none }
def boundsMatchesReferenceRow : OpenClaim := { program := "ytikbpchifcjomaa", sum := "b2c2702c3e800452c03b374c69a66a63d866a308ae6e19be8a0a13dd970abea1", func := "latecomer/latecomerlaw07.BoundsMatchesReference", spec := "boundsMatchesReference", unfollowed := true, recurses := true, apart := false }
def BoundsMatchesReferenceSaid : Prop := boundsMatchesReferenceRow.holds Try.pinned (OpenSpec.ofChange boundsMatchesReferenceSpec)

/-- ITS FALSE NEIGHBOUR: 'it returns false'. Refute it at one input. -/
def boundsMatchesReferenceWrong : ChangeSpec := { name := "boundsMatchesReference", fn := fun _ => fun
  | [d1, d2, d3, d4, d5, d6] => { results := [.lit (.bool false)], args := [d1, d2, d3, d4, d5, d6] }
  | _ => none }
def BoundsMatchesReferenceWrongFalsely : Prop := boundsMatchesReferenceRow.holds Try.pinned (OpenSpec.ofChange boundsMatchesReferenceWrong)

/-- 'latecomerlaw07.BoundsCheckedMatchesReference': WHATEVER THE INPUT: true; the input reads as it did. -/
def boundsCheckedMatchesReferenceSpec : ChangeSpec := { name := "boundsCheckedMatchesReference", fn := fun _ => fun
  | [d1, d2, d3, d4, d5] => { results := [.lit (.bool true)], args := [d1, d2, d3, d4, d5] }
  | _ => none }
def boundsCheckedMatchesReferenceRow : OpenClaim := { program := "ytikbpchifcjomaa", sum := "b2c2702c3e800452c03b374c69a66a63d866a308ae6e19be8a0a13dd970abea1", func := "latecomer/latecomerlaw07.BoundsCheckedMatchesReference", spec := "boundsCheckedMatchesReference", unfollowed := true, recurses := true, apart := false }
def BoundsCheckedMatchesReferenceSaid : Prop := boundsCheckedMatchesReferenceRow.holds Try.pinned (OpenSpec.ofChange boundsCheckedMatchesReferenceSpec)

/-- ITS FALSE NEIGHBOUR: 'it returns false'. Refute it at one input. -/
def boundsCheckedMatchesReferenceWrong : ChangeSpec := { name := "boundsCheckedMatchesReference", fn := fun _ => fun
  | [d1, d2, d3, d4, d5] => { results := [.lit (.bool false)], args := [d1, d2, d3, d4, d5] }
  | _ => none }
def BoundsCheckedMatchesReferenceWrongFalsely : Prop := boundsCheckedMatchesReferenceRow.holds Try.pinned (OpenSpec.ofChange boundsCheckedMatchesReferenceWrong)

/-- 'latecomerlaw07.BoundsExact': WHATEVER THE INPUT: true; the input reads as it did. -/
def boundsExactSpec : ChangeSpec := { name := "boundsExact", fn := fun _ => fun
  | [d1, d2] => { results := [.lit (.bool true)], args := [d1, d2] }
  | _ => none }
def boundsExactRow : OpenClaim := { program := "ytikbpchifcjomaa", sum := "b2c2702c3e800452c03b374c69a66a63d866a308ae6e19be8a0a13dd970abea1", func := "latecomer/latecomerlaw07.BoundsExact", spec := "boundsExact", unfollowed := true, recurses := true, apart := false }
def BoundsExactSaid : Prop := boundsExactRow.holds Try.pinned (OpenSpec.ofChange boundsExactSpec)

/-- ITS FALSE NEIGHBOUR: 'it returns false'. Refute it at one input. -/
def boundsExactWrong : ChangeSpec := { name := "boundsExact", fn := fun _ => fun
  | [d1, d2] => { results := [.lit (.bool false)], args := [d1, d2] }
  | _ => none }
def BoundsExactWrongFalsely : Prop := boundsExactRow.holds Try.pinned (OpenSpec.ofChange boundsExactWrong)

/-- 'latecomerlaw07.BoundsAttained': WHATEVER THE INPUT: true; the input reads as it did. -/
def boundsAttainedSpec : ChangeSpec := { name := "boundsAttained", fn := fun _ => fun
  | [d1, d2, d3, d4] => { results := [.lit (.bool true)], args := [d1, d2, d3, d4] }
  | _ => none }
def boundsAttainedRow : OpenClaim := { program := "ytikbpchifcjomaa", sum := "b2c2702c3e800452c03b374c69a66a63d866a308ae6e19be8a0a13dd970abea1", func := "latecomer/latecomerlaw07.BoundsAttained", spec := "boundsAttained", unfollowed := true, recurses := true, apart := false }
def BoundsAttainedSaid : Prop := boundsAttainedRow.holds Try.pinned (OpenSpec.ofChange boundsAttainedSpec)

/-- ITS FALSE NEIGHBOUR: 'it returns false'. Refute it at one input. -/
def boundsAttainedWrong : ChangeSpec := { name := "boundsAttained", fn := fun _ => fun
  | [d1, d2, d3, d4] => { results := [.lit (.bool false)], args := [d1, d2, d3, d4] }
  | _ => none }
def BoundsAttainedWrongFalsely : Prop := boundsAttainedRow.holds Try.pinned (OpenSpec.ofChange boundsAttainedWrong)

/-- 'latecomerlaw07.BoundsContradiction': WHATEVER THE INPUT: true; the input reads as it did. -/
def boundsContradictionSpec : ChangeSpec := { name := "boundsContradiction", fn := fun _ => fun
  | [d1, d2, d3, d4, d5] => { results := [.lit (.bool true)], args := [d1, d2, d3, d4, d5] }
  | _ => none }
def boundsContradictionRow : OpenClaim := { program := "ytikbpchifcjomaa", sum := "b2c2702c3e800452c03b374c69a66a63d866a308ae6e19be8a0a13dd970abea1", func := "latecomer/latecomerlaw07.BoundsContradiction", spec := "boundsContradiction", unfollowed := true, recurses := true, apart := false }
def BoundsContradictionSaid : Prop := boundsContradictionRow.holds Try.pinned (OpenSpec.ofChange boundsContradictionSpec)

/-- ITS FALSE NEIGHBOUR: 'it returns false'. Refute it at one input. -/
def boundsContradictionWrong : ChangeSpec := { name := "boundsContradiction", fn := fun _ => fun
  | [d1, d2, d3, d4, d5] => { results := [.lit (.bool false)], args := [d1, d2, d3, d4, d5] }
  | _ => none }
def BoundsContradictionWrongFalsely : Prop := boundsContradictionRow.holds Try.pinned (OpenSpec.ofChange boundsContradictionWrong)

/-- 'latecomerlaw07.BoundsIncrements': WHATEVER THE INPUT: true; the input reads as it did. -/
def boundsIncrementsSpec : ChangeSpec := { name := "boundsIncrements", fn := fun _ => fun
  | [d1, d2, d3] => { results := [.lit (.bool true)], args := [d1, d2, d3] }
  | _ => none }
def boundsIncrementsRow : OpenClaim := { program := "ytikbpchifcjomaa", sum := "b2c2702c3e800452c03b374c69a66a63d866a308ae6e19be8a0a13dd970abea1", func := "latecomer/latecomerlaw07.BoundsIncrements", spec := "boundsIncrements", unfollowed := true, recurses := true, apart := false }
def BoundsIncrementsSaid : Prop := boundsIncrementsRow.holds Try.pinned (OpenSpec.ofChange boundsIncrementsSpec)

/-- ITS FALSE NEIGHBOUR: 'it returns false'. Refute it at one input. -/
def boundsIncrementsWrong : ChangeSpec := { name := "boundsIncrements", fn := fun _ => fun
  | [d1, d2, d3] => { results := [.lit (.bool false)], args := [d1, d2, d3] }
  | _ => none }
def BoundsIncrementsWrongFalsely : Prop := boundsIncrementsRow.holds Try.pinned (OpenSpec.ofChange boundsIncrementsWrong)

/-- 'latecomerlaw07.BoundsNarrower': WHATEVER THE INPUT: true; the input reads as it did. -/
def boundsNarrowerSpec : ChangeSpec := { name := "boundsNarrower", fn := fun _ => fun
  | [d1, d2, d3] => { results := [.lit (.bool true)], args := [d1, d2, d3] }
  | _ => none }
def boundsNarrowerRow : OpenClaim := { program := "ytikbpchifcjomaa", sum := "b2c2702c3e800452c03b374c69a66a63d866a308ae6e19be8a0a13dd970abea1", func := "latecomer/latecomerlaw07.BoundsNarrower", spec := "boundsNarrower", unfollowed := true, recurses := true, apart := false }
def BoundsNarrowerSaid : Prop := boundsNarrowerRow.holds Try.pinned (OpenSpec.ofChange boundsNarrowerSpec)

/-- ITS FALSE NEIGHBOUR: 'it returns false'. Refute it at one input. -/
def boundsNarrowerWrong : ChangeSpec := { name := "boundsNarrower", fn := fun _ => fun
  | [d1, d2, d3] => { results := [.lit (.bool false)], args := [d1, d2, d3] }
  | _ => none }
def BoundsNarrowerWrongFalsely : Prop := boundsNarrowerRow.holds Try.pinned (OpenSpec.ofChange boundsNarrowerWrong)

/-- 'latecomerlaw07.BoundsRenumbered': WHATEVER THE INPUT: true; the input reads as it did. -/
def boundsRenumberedSpec : ChangeSpec := { name := "boundsRenumbered", fn := fun _ => fun
  | [d1, d2, d3, d4, d5] => { results := [.lit (.bool true)], args := [d1, d2, d3, d4, d5] }
  | _ => none }
def boundsRenumberedRow : OpenClaim := { program := "ytikbpchifcjomaa", sum := "b2c2702c3e800452c03b374c69a66a63d866a308ae6e19be8a0a13dd970abea1", func := "latecomer/latecomerlaw07.BoundsRenumbered", spec := "boundsRenumbered", unfollowed := true, recurses := true, apart := false }
def BoundsRenumberedSaid : Prop := boundsRenumberedRow.holds Try.pinned (OpenSpec.ofChange boundsRenumberedSpec)

/-- ITS FALSE NEIGHBOUR: 'it returns false'. Refute it at one input. -/
def boundsRenumberedWrong : ChangeSpec := { name := "boundsRenumbered", fn := fun _ => fun
  | [d1, d2, d3, d4, d5] => { results := [.lit (.bool false)], args := [d1, d2, d3, d4, d5] }
  | _ => none }
def BoundsRenumberedWrongFalsely : Prop := boundsRenumberedRow.holds Try.pinned (OpenSpec.ofChange boundsRenumberedWrong)

/- THE SECOND FORM. 'bulk': how many values and letters a reading holds, each counted each time it is reached (what is shared counts as often as it is met; a slice's spare places count too). A statement '..UptoSaid' is the law's where the arguments, and the package variables that the reading takes, are together of bulk at most 1048576: NARROWER than '..Said'. Prove '..Said' where nothing that the law and all that it calls make is longer than what came in: it says more and counts as full. Else prove '..UptoSaid'. A law counts once. -/
mutual
def uptoBulk {H : Type} : DataW H → Nat
  | .lit (.string bytes) => bytes.length + 1
  | .lit _ => 1
  | .nil => 1
  | .ptr d => uptoBulk d + 1
  | .slice elems spare => uptoBulkAll elems + uptoBulkAll spare + 1
  | .agg parts => uptoBulkAll parts + 1
  | .iface _ d => uptoBulk d + 1
  | .map entries => uptoBulkEntries entries + 1
  | .held _ => 1
def uptoBulkAll {H : Type} : List (DataW H) → Nat
  | [] => 0
  | d :: r => uptoBulk d + uptoBulkAll r
def uptoBulkEntries {H : Type} : List (Lit × DataW H) → Nat
  | [] => 0
  | x :: r => uptoBulkEntry x + uptoBulkEntries r
def uptoBulkEntry {H : Type} : Lit × DataW H → Nat
  | (.string bytes, d) => bytes.length + uptoBulk d + 1
  | (_, d) => uptoBulk d + 1
 end
def uptoSmall : (H : Type) → List (DataW H) → Bool := fun _ ds => decide (uptoBulkAll ds ≤ 1048576)
def OpenSpec.upto (s : _root_.Go.ChangeSpec) : _root_.Go.OpenSpec := { _root_.Go.OpenSpec.ofChange s with cond := some uptoSmall }

/-- 'latecomerlaw07.BoundsMatchesReference', WHERE WHAT IT READS IS OF BULK AT MOST 1048576: true; the input reads as it did. -/
def boundsMatchesReferenceUptoRow : OpenClaim := { program := "ytikbpchifcjomaa", sum := "b2c2702c3e800452c03b374c69a66a63d866a308ae6e19be8a0a13dd970abea1", func := "latecomer/latecomerlaw07.BoundsMatchesReference", spec := "boundsMatchesReference", unfollowed := true, recurses := true, apart := false, narrowed := true }
def BoundsMatchesReferenceUptoSaid : Prop := boundsMatchesReferenceUptoRow.holds Try.pinned (OpenSpec.upto boundsMatchesReferenceSpec)

/-- 'latecomerlaw07.BoundsCheckedMatchesReference', WHERE WHAT IT READS IS OF BULK AT MOST 1048576: true; the input reads as it did. -/
def boundsCheckedMatchesReferenceUptoRow : OpenClaim := { program := "ytikbpchifcjomaa", sum := "b2c2702c3e800452c03b374c69a66a63d866a308ae6e19be8a0a13dd970abea1", func := "latecomer/latecomerlaw07.BoundsCheckedMatchesReference", spec := "boundsCheckedMatchesReference", unfollowed := true, recurses := true, apart := false, narrowed := true }
def BoundsCheckedMatchesReferenceUptoSaid : Prop := boundsCheckedMatchesReferenceUptoRow.holds Try.pinned (OpenSpec.upto boundsCheckedMatchesReferenceSpec)

/-- 'latecomerlaw07.BoundsExact', WHERE WHAT IT READS IS OF BULK AT MOST 1048576: true; the input reads as it did. -/
def boundsExactUptoRow : OpenClaim := { program := "ytikbpchifcjomaa", sum := "b2c2702c3e800452c03b374c69a66a63d866a308ae6e19be8a0a13dd970abea1", func := "latecomer/latecomerlaw07.BoundsExact", spec := "boundsExact", unfollowed := true, recurses := true, apart := false, narrowed := true }
def BoundsExactUptoSaid : Prop := boundsExactUptoRow.holds Try.pinned (OpenSpec.upto boundsExactSpec)

/-- 'latecomerlaw07.BoundsAttained', WHERE WHAT IT READS IS OF BULK AT MOST 1048576: true; the input reads as it did. -/
def boundsAttainedUptoRow : OpenClaim := { program := "ytikbpchifcjomaa", sum := "b2c2702c3e800452c03b374c69a66a63d866a308ae6e19be8a0a13dd970abea1", func := "latecomer/latecomerlaw07.BoundsAttained", spec := "boundsAttained", unfollowed := true, recurses := true, apart := false, narrowed := true }
def BoundsAttainedUptoSaid : Prop := boundsAttainedUptoRow.holds Try.pinned (OpenSpec.upto boundsAttainedSpec)

/-- 'latecomerlaw07.BoundsContradiction', WHERE WHAT IT READS IS OF BULK AT MOST 1048576: true; the input reads as it did. -/
def boundsContradictionUptoRow : OpenClaim := { program := "ytikbpchifcjomaa", sum := "b2c2702c3e800452c03b374c69a66a63d866a308ae6e19be8a0a13dd970abea1", func := "latecomer/latecomerlaw07.BoundsContradiction", spec := "boundsContradiction", unfollowed := true, recurses := true, apart := false, narrowed := true }
def BoundsContradictionUptoSaid : Prop := boundsContradictionUptoRow.holds Try.pinned (OpenSpec.upto boundsContradictionSpec)

/-- 'latecomerlaw07.BoundsIncrements', WHERE WHAT IT READS IS OF BULK AT MOST 1048576: true; the input reads as it did. -/
def boundsIncrementsUptoRow : OpenClaim := { program := "ytikbpchifcjomaa", sum := "b2c2702c3e800452c03b374c69a66a63d866a308ae6e19be8a0a13dd970abea1", func := "latecomer/latecomerlaw07.BoundsIncrements", spec := "boundsIncrements", unfollowed := true, recurses := true, apart := false, narrowed := true }
def BoundsIncrementsUptoSaid : Prop := boundsIncrementsUptoRow.holds Try.pinned (OpenSpec.upto boundsIncrementsSpec)

/-- 'latecomerlaw07.BoundsNarrower', WHERE WHAT IT READS IS OF BULK AT MOST 1048576: true; the input reads as it did. -/
def boundsNarrowerUptoRow : OpenClaim := { program := "ytikbpchifcjomaa", sum := "b2c2702c3e800452c03b374c69a66a63d866a308ae6e19be8a0a13dd970abea1", func := "latecomer/latecomerlaw07.BoundsNarrower", spec := "boundsNarrower", unfollowed := true, recurses := true, apart := false, narrowed := true }
def BoundsNarrowerUptoSaid : Prop := boundsNarrowerUptoRow.holds Try.pinned (OpenSpec.upto boundsNarrowerSpec)

/-- 'latecomerlaw07.BoundsRenumbered', WHERE WHAT IT READS IS OF BULK AT MOST 1048576: true; the input reads as it did. -/
def boundsRenumberedUptoRow : OpenClaim := { program := "ytikbpchifcjomaa", sum := "b2c2702c3e800452c03b374c69a66a63d866a308ae6e19be8a0a13dd970abea1", func := "latecomer/latecomerlaw07.BoundsRenumbered", spec := "boundsRenumbered", unfollowed := true, recurses := true, apart := false, narrowed := true }
def BoundsRenumberedUptoSaid : Prop := boundsRenumberedUptoRow.holds Try.pinned (OpenSpec.upto boundsRenumberedSpec)

end Rows
end Go.Proofs.Ytikbpchifcjomaa
