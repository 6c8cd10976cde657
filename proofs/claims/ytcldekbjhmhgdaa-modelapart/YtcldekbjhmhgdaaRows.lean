/-
  No cell of these rows narrows 'for every input' (looked for: loops, veiled, ifaces, maps, wideKeys, modest, calm, conditions, laid).
  DERIVED. THE GIVEN ROWS OF THIS SEAT. 6 by the template 'for every input the law returns true; each argument reads behind the call as it read before'; 0 by the template 'total and deterministic' (their statements: YtcldekbjhmhgdaaTotals.lean).
  GIVEN WITH THE SEED: the statements are not yours to turn. If you find one false, say at which input.
  Laid BY PROGRAM, IN A SANDBOX (cutbox-rows.mjs): the forced cells as the released guide's own fill.sh prints them over the translation 8d937c34c245f573… (all of the seat's roots in one cut). By AI agents, Wed Nov 11 2026. No macro, syntax, notation, axiom, sorry.
-/
import Derived.Test.YtcldekbjhmhgdaaChecked
import GoSem.Claim
import GoSem.ClaimJoined
import GoSem.ClaimMapViews
import Derived.JoinedTies
import Derived.KernelRfl
namespace Go.Proofs.Ytcldekbjhmhgdaa
/- THE CELL 'sum', in the pinned program and in every row, IS THE sha256 OF THE DUMP (.gsa) THAT YtcldekbjhmhgdaaProg.lean LOADS. Nothing in Lean hashes anything: it is a label: what it is worth is what the hold of that sum in a sandbox is worth. -/
noncomputable def Try.pinned : Pinned := { name := "ytcldekbjhmhgdaa", sum := "8d937c34c245f5732f11c09b989b7d49c8aca11def01cd3d24d94d424777fb04", checked := Try.checked }
namespace Rows
def none {H : Type} : Left H := { results := [], args := [] }

/-- 'latecomerlaw23.ModelServes': WHATEVER THE INPUT: true; the input reads as it did. -/
def modelServesSpec : ChangeSpec := { name := "modelServes", fn := fun _ => fun
  | [d1, d2] => { results := [.lit (.bool true)], args := [d1, d2] }
  | _ => none }
def modelServesRow : OpenClaim := { program := "ytcldekbjhmhgdaa", sum := "8d937c34c245f5732f11c09b989b7d49c8aca11def01cd3d24d94d424777fb04", func := "latecomer/latecomerlaw23.ModelServes", spec := "modelServes", inPlace := ["slices.overlaps[latecomer/api.Range]"], unfollowed := true, recurses := true, apart := false }
def ModelServesSaid : Prop := modelServesRow.holds Try.pinned (OpenSpec.ofChange modelServesSpec)

/-- ITS FALSE NEIGHBOUR: 'it returns false'. Refute it at one input. -/
def modelServesWrong : ChangeSpec := { name := "modelServes", fn := fun _ => fun
  | [d1, d2] => { results := [.lit (.bool false)], args := [d1, d2] }
  | _ => none }
def ModelServesWrongFalsely : Prop := modelServesRow.holds Try.pinned (OpenSpec.ofChange modelServesWrong)

/-- 'latecomerlaw23.ModelWorks': WHATEVER THE INPUT: true; the input reads as it did. -/
def modelWorksSpec : ChangeSpec := { name := "modelWorks", fn := fun _ => fun
  | [d1, d2] => { results := [.lit (.bool true)], args := [d1, d2] }
  | _ => none }
def modelWorksRow : OpenClaim := { program := "ytcldekbjhmhgdaa", sum := "8d937c34c245f5732f11c09b989b7d49c8aca11def01cd3d24d94d424777fb04", func := "latecomer/latecomerlaw23.ModelWorks", spec := "modelWorks", inPlace := ["slices.overlaps[latecomer/api.Range]"], unfollowed := true, recurses := true, apart := false }
def ModelWorksSaid : Prop := modelWorksRow.holds Try.pinned (OpenSpec.ofChange modelWorksSpec)

/-- ITS FALSE NEIGHBOUR: 'it returns false'. Refute it at one input. -/
def modelWorksWrong : ChangeSpec := { name := "modelWorks", fn := fun _ => fun
  | [d1, d2] => { results := [.lit (.bool false)], args := [d1, d2] }
  | _ => none }
def ModelWorksWrongFalsely : Prop := modelWorksRow.holds Try.pinned (OpenSpec.ofChange modelWorksWrong)

/-- 'latecomerlaw23.ModelMonotone': WHATEVER THE INPUT: true; the input reads as it did. -/
def modelMonotoneSpec : ChangeSpec := { name := "modelMonotone", fn := fun _ => fun
  | [d1, d2, d3, d4, d5, d6] => { results := [.lit (.bool true)], args := [d1, d2, d3, d4, d5, d6] }
  | _ => none }
def modelMonotoneRow : OpenClaim := { program := "ytcldekbjhmhgdaa", sum := "8d937c34c245f5732f11c09b989b7d49c8aca11def01cd3d24d94d424777fb04", func := "latecomer/latecomerlaw23.ModelMonotone", spec := "modelMonotone", inPlace := ["slices.overlaps[latecomer/api.Range]"], unfollowed := true, recurses := true, apart := false }
def ModelMonotoneSaid : Prop := modelMonotoneRow.holds Try.pinned (OpenSpec.ofChange modelMonotoneSpec)

/-- ITS FALSE NEIGHBOUR: 'it returns false'. Refute it at one input. -/
def modelMonotoneWrong : ChangeSpec := { name := "modelMonotone", fn := fun _ => fun
  | [d1, d2, d3, d4, d5, d6] => { results := [.lit (.bool false)], args := [d1, d2, d3, d4, d5, d6] }
  | _ => none }
def ModelMonotoneWrongFalsely : Prop := modelMonotoneRow.holds Try.pinned (OpenSpec.ofChange modelMonotoneWrong)

/-- 'latecomerlaw23.ModelApart': WHATEVER THE INPUT: true; the input reads as it did. -/
def modelApartSpec : ChangeSpec := { name := "modelApart", fn := fun _ => fun
  | [d1, d2, d3, d4] => { results := [.lit (.bool true)], args := [d1, d2, d3, d4] }
  | _ => none }
def modelApartRow : OpenClaim := { program := "ytcldekbjhmhgdaa", sum := "8d937c34c245f5732f11c09b989b7d49c8aca11def01cd3d24d94d424777fb04", func := "latecomer/latecomerlaw23.ModelApart", spec := "modelApart", inPlace := ["slices.overlaps[latecomer/api.Range]"], unfollowed := true, recurses := true, apart := false }
def ModelApartSaid : Prop := modelApartRow.holds Try.pinned (OpenSpec.ofChange modelApartSpec)

/-- ITS FALSE NEIGHBOUR: 'it returns false'. Refute it at one input. -/
def modelApartWrong : ChangeSpec := { name := "modelApart", fn := fun _ => fun
  | [d1, d2, d3, d4] => { results := [.lit (.bool false)], args := [d1, d2, d3, d4] }
  | _ => none }
def ModelApartWrongFalsely : Prop := modelApartRow.holds Try.pinned (OpenSpec.ofChange modelApartWrong)

/-- 'latecomerlaw23.ModelMatchesReference': WHATEVER THE INPUT: true; the input reads as it did. -/
def modelMatchesReferenceSpec : ChangeSpec := { name := "modelMatchesReference", fn := fun _ => fun
  | [d1, d2, d3, d4, d5, d6, d7, d8, d9, d10] => { results := [.lit (.bool true)], args := [d1, d2, d3, d4, d5, d6, d7, d8, d9, d10] }
  | _ => none }
def modelMatchesReferenceRow : OpenClaim := { program := "ytcldekbjhmhgdaa", sum := "8d937c34c245f5732f11c09b989b7d49c8aca11def01cd3d24d94d424777fb04", func := "latecomer/latecomerlaw23.ModelMatchesReference", spec := "modelMatchesReference", inPlace := ["slices.overlaps[latecomer/api.Range]"], unfollowed := true, recurses := true, apart := false }
def ModelMatchesReferenceSaid : Prop := modelMatchesReferenceRow.holds Try.pinned (OpenSpec.ofChange modelMatchesReferenceSpec)

/-- ITS FALSE NEIGHBOUR: 'it returns false'. Refute it at one input. -/
def modelMatchesReferenceWrong : ChangeSpec := { name := "modelMatchesReference", fn := fun _ => fun
  | [d1, d2, d3, d4, d5, d6, d7, d8, d9, d10] => { results := [.lit (.bool false)], args := [d1, d2, d3, d4, d5, d6, d7, d8, d9, d10] }
  | _ => none }
def ModelMatchesReferenceWrongFalsely : Prop := modelMatchesReferenceRow.holds Try.pinned (OpenSpec.ofChange modelMatchesReferenceWrong)

/-- 'latecomerlaw23.ModelObserved': WHATEVER THE INPUT: true; the input reads as it did. -/
def modelObservedSpec : ChangeSpec := { name := "modelObserved", fn := fun _ => fun
  | [d1, d2, d3, d4] => { results := [.lit (.bool true)], args := [d1, d2, d3, d4] }
  | _ => none }
def modelObservedRow : OpenClaim := { program := "ytcldekbjhmhgdaa", sum := "8d937c34c245f5732f11c09b989b7d49c8aca11def01cd3d24d94d424777fb04", func := "latecomer/latecomerlaw23.ModelObserved", spec := "modelObserved", inPlace := ["slices.overlaps[latecomer/api.Range]"], unfollowed := true, recurses := true, apart := false }
def ModelObservedSaid : Prop := modelObservedRow.holds Try.pinned (OpenSpec.ofChange modelObservedSpec)

/-- ITS FALSE NEIGHBOUR: 'it returns false'. Refute it at one input. -/
def modelObservedWrong : ChangeSpec := { name := "modelObserved", fn := fun _ => fun
  | [d1, d2, d3, d4] => { results := [.lit (.bool false)], args := [d1, d2, d3, d4] }
  | _ => none }
def ModelObservedWrongFalsely : Prop := modelObservedRow.holds Try.pinned (OpenSpec.ofChange modelObservedWrong)

/- THE SECOND FORM. 'bulk': how many values and letters a reading holds, each counted each time it is reached (what is shared counts as often as it is met; a slice's spare places count too). A statement '..UptoSaid' is the law's where the arguments, and the package variables that the reading takes, are together of bulk at most 1048576: NARROWER than '..Said'. Prove '..Said' where nothing that the law and all that it calls make is longer than what came in: it says more and counts as full. Else prove '..UptoSaid'. A law counts once. -/
mutual
def uptoBulk {H : Type} : DataW H → Nat
  | .lit (.string bytes) => bytes.length + 1
  | .lit _ => 1
  | .nil => 1
  | .ptr d => uptoBulk d + 1
  | .slice elems spare => uptoBulkAll elems + uptoBulkAll spare + 1
  | .agg parts => uptoBulkAll parts + 1
  | .iface _ d => uptoBulk d + 1
  | .map entries => uptoBulkEntries entries + 1
  | .held _ => 1
def uptoBulkAll {H : Type} : List (DataW H) → Nat
  | [] => 0
  | d :: r => uptoBulk d + uptoBulkAll r
def uptoBulkEntries {H : Type} : List (Lit × DataW H) → Nat
  | [] => 0
  | x :: r => uptoBulkEntry x + uptoBulkEntries r
def uptoBulkEntry {H : Type} : Lit × DataW H → Nat
  | (.string bytes, d) => bytes.length + uptoBulk d + 1
  | (_, d) => uptoBulk d + 1
 end
def uptoSmall : (H : Type) → List (DataW H) → Bool := fun _ ds => decide (uptoBulkAll ds ≤ 1048576)
def OpenSpec.upto (s : _root_.Go.ChangeSpec) : _root_.Go.OpenSpec := { _root_.Go.OpenSpec.ofChange s with cond := some uptoSmall }

/-- 'latecomerlaw23.ModelServes', WHERE WHAT IT READS IS OF BULK AT MOST 1048576: true; the input reads as it did. -/
def modelServesUptoRow : OpenClaim := { program := "ytcldekbjhmhgdaa", sum := "8d937c34c245f5732f11c09b989b7d49c8aca11def01cd3d24d94d424777fb04", func := "latecomer/latecomerlaw23.ModelServes", spec := "modelServes", inPlace := ["slices.overlaps[latecomer/api.Range]"], unfollowed := true, recurses := true, apart := false, narrowed := true }
def ModelServesUptoSaid : Prop := modelServesUptoRow.holds Try.pinned (OpenSpec.upto modelServesSpec)

/-- 'latecomerlaw23.ModelWorks', WHERE WHAT IT READS IS OF BULK AT MOST 1048576: true; the input reads as it did. -/
def modelWorksUptoRow : OpenClaim := { program := "ytcldekbjhmhgdaa", sum := "8d937c34c245f5732f11c09b989b7d49c8aca11def01cd3d24d94d424777fb04", func := "latecomer/latecomerlaw23.ModelWorks", spec := "modelWorks", inPlace := ["slices.overlaps[latecomer/api.Range]"], unfollowed := true, recurses := true, apart := false, narrowed := true }
def ModelWorksUptoSaid : Prop := modelWorksUptoRow.holds Try.pinned (OpenSpec.upto modelWorksSpec)

/-- 'latecomerlaw23.ModelMonotone', WHERE WHAT IT READS IS OF BULK AT MOST 1048576: true; the input reads as it did. -/
def modelMonotoneUptoRow : OpenClaim := { program := "ytcldekbjhmhgdaa", sum := "8d937c34c245f5732f11c09b989b7d49c8aca11def01cd3d24d94d424777fb04", func := "latecomer/latecomerlaw23.ModelMonotone", spec := "modelMonotone", inPlace := ["slices.overlaps[latecomer/api.Range]"], unfollowed := true, recurses := true, apart := false, narrowed := true }
def ModelMonotoneUptoSaid : Prop := modelMonotoneUptoRow.holds Try.pinned (OpenSpec.upto modelMonotoneSpec)

/-- 'latecomerlaw23.ModelApart', WHERE WHAT IT READS IS OF BULK AT MOST 1048576: true; the input reads as it did. -/
def modelApartUptoRow : OpenClaim := { program := "ytcldekbjhmhgdaa", sum := "8d937c34c245f5732f11c09b989b7d49c8aca11def01cd3d24d94d424777fb04", func := "latecomer/latecomerlaw23.ModelApart", spec := "modelApart", inPlace := ["slices.overlaps[latecomer/api.Range]"], unfollowed := true, recurses := true, apart := false, narrowed := true }
def ModelApartUptoSaid : Prop := modelApartUptoRow.holds Try.pinned (OpenSpec.upto modelApartSpec)

/-- 'latecomerlaw23.ModelMatchesReference', WHERE WHAT IT READS IS OF BULK AT MOST 1048576: true; the input reads as it did. -/
def modelMatchesReferenceUptoRow : OpenClaim := { program := "ytcldekbjhmhgdaa", sum := "8d937c34c245f5732f11c09b989b7d49c8aca11def01cd3d24d94d424777fb04", func := "latecomer/latecomerlaw23.ModelMatchesReference", spec := "modelMatchesReference", inPlace := ["slices.overlaps[latecomer/api.Range]"], unfollowed := true, recurses := true, apart := false, narrowed := true }
def ModelMatchesReferenceUptoSaid : Prop := modelMatchesReferenceUptoRow.holds Try.pinned (OpenSpec.upto modelMatchesReferenceSpec)

/-- 'latecomerlaw23.ModelObserved', WHERE WHAT IT READS IS OF BULK AT MOST 1048576: true; the input reads as it did. -/
def modelObservedUptoRow : OpenClaim := { program := "ytcldekbjhmhgdaa", sum := "8d937c34c245f5732f11c09b989b7d49c8aca11def01cd3d24d94d424777fb04", func := "latecomer/latecomerlaw23.ModelObserved", spec := "modelObserved", inPlace := ["slices.overlaps[latecomer/api.Range]"], unfollowed := true, recurses := true, apart := false, narrowed := true }
def ModelObservedUptoSaid : Prop := modelObservedUptoRow.holds Try.pinned (OpenSpec.upto modelObservedSpec)

end Rows
end Go.Proofs.Ytcldekbjhmhgdaa
