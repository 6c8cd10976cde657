/- The law latecomerlaw10.BeliefWider returns true for every input, and each argument reads afterwards as it read before. Part 9 of 12. No condition. -/
import Derived.Test.YtoaaemmchnfilaaLatD
import Derived.Test.YtoaaemmchnfilaaLatE
import Derived.Test.YtoaaemmchnfilaaLatG
import Derived.Test.YtoaaemmchnfilaaLatH
set_option linter.unusedVariables false
set_option linter.unusedSimpArgs false
set_option linter.unnecessarySimpa false
namespace Go.Lat
open Go.RowKit Go.Proofs
attribute [local irreducible] cvalidM bvalidM choicesM partM chM liM brangeM witM pcM inM allM inSet
attribute [local irreducible] closeM rangeM pointM addBM cycleM holdsM validBM sameM madeM pickM plusM validM possM firstM tableM longerM boundsM ofM addM freeM
theorem bs1 : chM ⟨[0, 0, 0], 0, 1, [0], [0]⟩ 2 [⟨0, 1, 5, 1⟩, ⟨1, 0, -4, 2⟩, ⟨1, 0, -9, 4⟩] = ([3, 6], 0) := by decide +kernel
theorem bs2 : brangeM ⟨[0, 0, 0], 0, 1, [0], [0]⟩ 2 [⟨0, 1, 5, 1⟩, ⟨1, 0, -4, 2⟩, ⟨1, 0, -9, 4⟩] 0 1 = (4, 1152921504606846976, 0) := by decide +kernel
theorem bs3 : liM ⟨[0, 0, 0], 0, 1, [0], [0]⟩ 2 [⟨0, 1, 5, 1⟩, ⟨1, 0, -4, 2⟩, ⟨1, 0, -9, 4⟩] = (0, 0) := by decide +kernel
theorem bs4 : witM ⟨[0, 0, 0], 0, 1, [0], [0]⟩ 2 [⟨0, 1, 5, 1⟩, ⟨1, 0, -4, 2⟩, ⟨1, 0, -9, 4⟩] 0 1 10 = ([0, 10], 6, 0) := by decide +kernel
theorem bs5 : chM ⟨[0, 0, 0], 0, 1, [0], [0]⟩ 2 [⟨0, 1, 5, 1⟩, ⟨1, 0, -4, 2⟩, ⟨1, 0, -9, 4⟩, ⟨0, 1, 6, 2⟩] = ([3], 0) := by decide +kernel
theorem bs6 : brangeM ⟨[0, 0, 0], 0, 1, [0], [0]⟩ 2 [⟨0, 1, 5, 1⟩, ⟨1, 0, -4, 2⟩, ⟨1, 0, -9, 4⟩, ⟨0, 1, 6, 2⟩] 0 1 = (4, 5, 0) := by decide +kernel
theorem bs7 : liM ⟨[0, 0, 0], 0, 1, [0], [0]⟩ 2 [⟨0, 1, 5, 1⟩, ⟨1, 0, -4, 2⟩, ⟨1, 0, -9, 4⟩, ⟨0, 1, 6, 2⟩] = (4, 0) := by decide +kernel
theorem bs8 : chM ⟨[0, 0, 0], 0, 0, [0], [0]⟩ 2 [⟨0, 1, 5, 1⟩, ⟨1, 0, -4, 2⟩, ⟨1, 0, -9, 4⟩] = ([], 100) := by decide +kernel
theorem bs9 : chM ⟨[], 0, 0, [], []⟩ 2 [⟨0, 1, 5, 1⟩, ⟨1, 0, -4, 2⟩, ⟨1, 0, -9, 4⟩] = ([], 2) := by decide +kernel
theorem bs10 : partM [⟨0, 1, 5, 1⟩, ⟨1, 0, -4, 2⟩, ⟨1, 0, -9, 4⟩] 3 = [⟨0, 1, 5, 1⟩, ⟨1, 0, -4, 2⟩] := by decide +kernel
def vc_bsane  (Post : Bool → Prop) : Prop :=
  ((Flt.mk [(0 : Int), (0 : Int), (0 : Int)] (0 : Int) (1 : Int) [(0 : Int)] [(0 : Int)]).dr.length ≤ 1073741824) ∧ ((Flt.mk [(0 : Int), (0 : Int), (0 : Int)] (0 : Int) (1 : Int) [(0 : Int)] [(0 : Int)]).sv.length ≤ 1073741824) ∧ ((Flt.mk [(0 : Int), (0 : Int), (0 : Int)] (0 : Int) (1 : Int) [(0 : Int)] [(0 : Int)]).tm.length ≤ 1073741824) ∧ ([(Con.mk 0 1 5 1), (Con.mk 1 0 (-4) 2), (Con.mk 1 0 (-9) 4)].length ≤ 1073741824) ∧ ((Flt.mk [(0 : Int), (0 : Int), (0 : Int)] (0 : Int) (1 : Int) [(0 : Int)] [(0 : Int)]).dr.length ≤ 1073741824) ∧ ((Flt.mk [(0 : Int), (0 : Int), (0 : Int)] (0 : Int) (1 : Int) [(0 : Int)] [(0 : Int)]).sv.length ≤ 1073741824) ∧ ((Flt.mk [(0 : Int), (0 : Int), (0 : Int)] (0 : Int) (1 : Int) [(0 : Int)] [(0 : Int)]).tm.length ≤ 1073741824) ∧ ([(Con.mk 0 1 5 1), (Con.mk 1 0 (-4) 2), (Con.mk 1 0 (-9) 4)].length ≤ 1073741824) ∧ ((Flt.mk [(0 : Int), (0 : Int), (0 : Int)] (0 : Int) (1 : Int) [(0 : Int)] [(0 : Int)]).dr.length ≤ 1073741824) ∧ ((Flt.mk [(0 : Int), (0 : Int), (0 : Int)] (0 : Int) (1 : Int) [(0 : Int)] [(0 : Int)]).sv.length ≤ 1073741824) ∧ ((Flt.mk [(0 : Int), (0 : Int), (0 : Int)] (0 : Int) (1 : Int) [(0 : Int)] [(0 : Int)]).tm.length ≤ 1073741824) ∧ ([(Con.mk 0 1 5 1), (Con.mk 1 0 (-4) 2), (Con.mk 1 0 (-9) 4)].length ≤ 1073741824) ∧ ((Flt.mk [(0 : Int), (0 : Int), (0 : Int)] (0 : Int) (1 : Int) [(0 : Int)] [(0 : Int)]).dr.length ≤ 1073741824) ∧ ((Flt.mk [(0 : Int), (0 : Int), (0 : Int)] (0 : Int) (1 : Int) [(0 : Int)] [(0 : Int)]).sv.length ≤ 1073741824) ∧ ((Flt.mk [(0 : Int), (0 : Int), (0 : Int)] (0 : Int) (1 : Int) [(0 : Int)] [(0 : Int)]).tm.length ≤ 1073741824) ∧ ([(Con.mk 0 1 5 1), (Con.mk 1 0 (-4) 2), (Con.mk 1 0 (-9) 4)].length ≤ 1073741824) ∧ (([(Con.mk 0 1 5 1), (Con.mk 1 0 (-4) 2), (Con.mk 1 0 (-9) 4)]).length ≤ 1073741824) ∧ (([(Con.mk 0 1 5 1), (Con.mk 1 0 (-4) 2), (Con.mk 1 0 (-9) 4)] ++ [(Con.mk 0 1 6 2)]).length ≤ 1073741824) ∧ ((Flt.mk [(0 : Int), (0 : Int), (0 : Int)] (0 : Int) (1 : Int) [(0 : Int)] [(0 : Int)]).dr.length ≤ 1073741824) ∧ ((Flt.mk [(0 : Int), (0 : Int), (0 : Int)] (0 : Int) (1 : Int) [(0 : Int)] [(0 : Int)]).sv.length ≤ 1073741824) ∧ ((Flt.mk [(0 : Int), (0 : Int), (0 : Int)] (0 : Int) (1 : Int) [(0 : Int)] [(0 : Int)]).tm.length ≤ 1073741824) ∧ (([(Con.mk 0 1 5 1), (Con.mk 1 0 (-4) 2), (Con.mk 1 0 (-9) 4)] ++ [(Con.mk 0 1 6 2)]).length ≤ 1073741824) ∧ ((Flt.mk [(0 : Int), (0 : Int), (0 : Int)] (0 : Int) (1 : Int) [(0 : Int)] [(0 : Int)]).dr.length ≤ 1073741824) ∧ ((Flt.mk [(0 : Int), (0 : Int), (0 : Int)] (0 : Int) (1 : Int) [(0 : Int)] [(0 : Int)]).sv.length ≤ 1073741824) ∧ ((Flt.mk [(0 : Int), (0 : Int), (0 : Int)] (0 : Int) (1 : Int) [(0 : Int)] [(0 : Int)]).tm.length ≤ 1073741824) ∧ (([(Con.mk 0 1 5 1), (Con.mk 1 0 (-4) 2), (Con.mk 1 0 (-9) 4)] ++ [(Con.mk 0 1 6 2)]).length ≤ 1073741824) ∧ ((Flt.mk [(0 : Int), (0 : Int), (0 : Int)] (0 : Int) (1 : Int) [(0 : Int)] [(0 : Int)]).dr.length ≤ 1073741824) ∧ ((Flt.mk [(0 : Int), (0 : Int), (0 : Int)] (0 : Int) (1 : Int) [(0 : Int)] [(0 : Int)]).sv.length ≤ 1073741824) ∧ ((Flt.mk [(0 : Int), (0 : Int), (0 : Int)] (0 : Int) (1 : Int) [(0 : Int)] [(0 : Int)]).tm.length ≤ 1073741824) ∧ (([(Con.mk 0 1 5 1), (Con.mk 1 0 (-4) 2), (Con.mk 1 0 (-9) 4)] ++ [(Con.mk 0 1 6 2)]).length ≤ 1073741824) ∧ ((Flt.mk [(0 : Int), (0 : Int), (0 : Int)] (0 : Int) (0 : Int) [(0 : Int)] [(0 : Int)]).dr.length ≤ 1073741824) ∧ ((Flt.mk [(0 : Int), (0 : Int), (0 : Int)] (0 : Int) (0 : Int) [(0 : Int)] [(0 : Int)]).sv.length ≤ 1073741824) ∧ ((Flt.mk [(0 : Int), (0 : Int), (0 : Int)] (0 : Int) (0 : Int) [(0 : Int)] [(0 : Int)]).tm.length ≤ 1073741824) ∧ ([(Con.mk 0 1 5 1), (Con.mk 1 0 (-4) 2), (Con.mk 1 0 (-9) 4)].length ≤ 1073741824) ∧ ((Flt.mk [] (0 : Int) (0 : Int) [] []).dr.length ≤ 1073741824) ∧ ((Flt.mk [] (0 : Int) (0 : Int) [] []).sv.length ≤ 1073741824) ∧ ((Flt.mk [] (0 : Int) (0 : Int) [] []).tm.length ≤ 1073741824) ∧ ([(Con.mk 0 1 5 1), (Con.mk 1 0 (-4) 2), (Con.mk 1 0 (-9) 4)].length ≤ 1073741824) ∧ ((((chM (Flt.mk [(0 : Int), (0 : Int), (0 : Int)] (0 : Int) (1 : Int) [(0 : Int)] [(0 : Int)]) (2 : Int) [(Con.mk 0 1 5 1), (Con.mk 1 0 (-4) 2), (Con.mk 1 0 (-9) 4)]).1).length ≤ 1073741824) ∧ ((((chM (Flt.mk [(0 : Int), (0 : Int), (0 : Int)] (0 : Int) (1 : Int) [(0 : Int)] [(0 : Int)]) (2 : Int) [(Con.mk 0 1 5 1), (Con.mk 1 0 (-4) 2), (Con.mk 1 0 (-9) 4)]).1) = [(3 : Int), (6 : Int)]) → (((brangeM (Flt.mk [(0 : Int), (0 : Int), (0 : Int)] (0 : Int) (1 : Int) [(0 : Int)] [(0 : Int)]) (2 : Int) [(Con.mk 0 1 5 1), (Con.mk 1 0 (-4) 2), (Con.mk 1 0 (-9) 4)] (0 : Int) (1 : Int)).1 = (4 : Int)) → (((brangeM (Flt.mk [(0 : Int), (0 : Int), (0 : Int)] (0 : Int) (1 : Int) [(0 : Int)] [(0 : Int)]) (2 : Int) [(Con.mk 0 1 5 1), (Con.mk 1 0 (-4) 2), (Con.mk 1 0 (-9) 4)] (0 : Int) (1 : Int)).2.1 = (1152921504606846976 : Int)) → (((liM (Flt.mk [(0 : Int), (0 : Int), (0 : Int)] (0 : Int) (1 : Int) [(0 : Int)] [(0 : Int)]) (2 : Int) [(Con.mk 0 1 5 1), (Con.mk 1 0 (-4) 2), (Con.mk 1 0 (-9) 4)]).1 = (0 : Int)) → (((witM (Flt.mk [(0 : Int), (0 : Int), (0 : Int)] (0 : Int) (1 : Int) [(0 : Int)] [(0 : Int)]) (2 : Int) [(Con.mk 0 1 5 1), (Con.mk 1 0 (-4) 2), (Con.mk 1 0 (-9) 4)] (0 : Int) (1 : Int) (10 : Int)).1).length ≤ 1073741824) ∧ True) ∧ (¬ ((liM (Flt.mk [(0 : Int), (0 : Int), (0 : Int)] (0 : Int) (1 : Int) [(0 : Int)] [(0 : Int)]) (2 : Int) [(Con.mk 0 1 5 1), (Con.mk 1 0 (-4) 2), (Con.mk 1 0 (-9) 4)]).1 = (0 : Int)) → True)) ∧ (¬ ((brangeM (Flt.mk [(0 : Int), (0 : Int), (0 : Int)] (0 : Int) (1 : Int) [(0 : Int)] [(0 : Int)]) (2 : Int) [(Con.mk 0 1 5 1), (Con.mk 1 0 (-4) 2), (Con.mk 1 0 (-9) 4)] (0 : Int) (1 : Int)).2.1 = (1152921504606846976 : Int)) → True)) ∧ (¬ ((brangeM (Flt.mk [(0 : Int), (0 : Int), (0 : Int)] (0 : Int) (1 : Int) [(0 : Int)] [(0 : Int)]) (2 : Int) [(Con.mk 0 1 5 1), (Con.mk 1 0 (-4) 2), (Con.mk 1 0 (-9) 4)] (0 : Int) (1 : Int)).1 = (4 : Int)) → True)) ∧ (¬ (((chM (Flt.mk [(0 : Int), (0 : Int), (0 : Int)] (0 : Int) (1 : Int) [(0 : Int)] [(0 : Int)]) (2 : Int) [(Con.mk 0 1 5 1), (Con.mk 1 0 (-4) 2), (Con.mk 1 0 (-9) 4)]).1) = [(3 : Int), (6 : Int)]) → True)) ∧ ((((((chM (Flt.mk [(0 : Int), (0 : Int), (0 : Int)] (0 : Int) (1 : Int) [(0 : Int)] [(0 : Int)]) (2 : Int) [(Con.mk 0 1 5 1), (Con.mk 1 0 (-4) 2), (Con.mk 1 0 (-9) 4)]).2 = (0 : Int)) ∧ (((brangeM (Flt.mk [(0 : Int), (0 : Int), (0 : Int)] (0 : Int) (1 : Int) [(0 : Int)] [(0 : Int)]) (2 : Int) [(Con.mk 0 1 5 1), (Con.mk 1 0 (-4) 2), (Con.mk 1 0 (-9) 4)] (0 : Int) (1 : Int)).2.2 = (0 : Int)) ∧ (((liM (Flt.mk [(0 : Int), (0 : Int), (0 : Int)] (0 : Int) (1 : Int) [(0 : Int)] [(0 : Int)]) (2 : Int) [(Con.mk 0 1 5 1), (Con.mk 1 0 (-4) 2), (Con.mk 1 0 (-9) 4)]).2 = (0 : Int)) ∧ (((witM (Flt.mk [(0 : Int), (0 : Int), (0 : Int)] (0 : Int) (1 : Int) [(0 : Int)] [(0 : Int)]) (2 : Int) [(Con.mk 0 1 5 1), (Con.mk 1 0 (-4) 2), (Con.mk 1 0 (-9) 4)] (0 : Int) (1 : Int) (10 : Int)).2.2 = (0 : Int)) ∧ (((chM (Flt.mk [(0 : Int), (0 : Int), (0 : Int)] (0 : Int) (1 : Int) [(0 : Int)] [(0 : Int)]) (2 : Int) ([(Con.mk 0 1 5 1), (Con.mk 1 0 (-4) 2), (Con.mk 1 0 (-9) 4)] ++ [(Con.mk 0 1 6 2)])).2 = (0 : Int)) ∧ (((brangeM (Flt.mk [(0 : Int), (0 : Int), (0 : Int)] (0 : Int) (1 : Int) [(0 : Int)] [(0 : Int)]) (2 : Int) ([(Con.mk 0 1 5 1), (Con.mk 1 0 (-4) 2), (Con.mk 1 0 (-9) 4)] ++ [(Con.mk 0 1 6 2)]) (0 : Int) (1 : Int)).2.2 = (0 : Int)) ∧ (((liM (Flt.mk [(0 : Int), (0 : Int), (0 : Int)] (0 : Int) (1 : Int) [(0 : Int)] [(0 : Int)]) (2 : Int) ([(Con.mk 0 1 5 1), (Con.mk 1 0 (-4) 2), (Con.mk 1 0 (-9) 4)] ++ [(Con.mk 0 1 6 2)])).2 = (0 : Int)) ∧ (((chM (Flt.mk [(0 : Int), (0 : Int), (0 : Int)] (0 : Int) (0 : Int) [(0 : Int)] [(0 : Int)]) (2 : Int) [(Con.mk 0 1 5 1), (Con.mk 1 0 (-4) 2), (Con.mk 1 0 (-9) 4)]).2 = (100 : Int)) ∧ ((chM (Flt.mk [] (0 : Int) (0 : Int) [] []) (2 : Int) [(Con.mk 0 1 5 1), (Con.mk 1 0 (-4) 2), (Con.mk 1 0 (-9) 4)]).2 = (2 : Int)))))))))) → (((((chM (Flt.mk [(0 : Int), (0 : Int), (0 : Int)] (0 : Int) (1 : Int) [(0 : Int)] [(0 : Int)]) (2 : Int) [(Con.mk 0 1 5 1), (Con.mk 1 0 (-4) 2), (Con.mk 1 0 (-9) 4)]).1) = [(3 : Int), (6 : Int)]) ∧ (((brangeM (Flt.mk [(0 : Int), (0 : Int), (0 : Int)] (0 : Int) (1 : Int) [(0 : Int)] [(0 : Int)]) (2 : Int) [(Con.mk 0 1 5 1), (Con.mk 1 0 (-4) 2), (Con.mk 1 0 (-9) 4)] (0 : Int) (1 : Int)).1 = (4 : Int)) ∧ (((brangeM (Flt.mk [(0 : Int), (0 : Int), (0 : Int)] (0 : Int) (1 : Int) [(0 : Int)] [(0 : Int)]) (2 : Int) [(Con.mk 0 1 5 1), (Con.mk 1 0 (-4) 2), (Con.mk 1 0 (-9) 4)] (0 : Int) (1 : Int)).2.1 = (1152921504606846976 : Int)) ∧ (((liM (Flt.mk [(0 : Int), (0 : Int), (0 : Int)] (0 : Int) (1 : Int) [(0 : Int)] [(0 : Int)]) (2 : Int) [(Con.mk 0 1 5 1), (Con.mk 1 0 (-4) 2), (Con.mk 1 0 (-9) 4)]).1 = (0 : Int)) ∧ ((((witM (Flt.mk [(0 : Int), (0 : Int), (0 : Int)] (0 : Int) (1 : Int) [(0 : Int)] [(0 : Int)]) (2 : Int) [(Con.mk 0 1 5 1), (Con.mk 1 0 (-4) 2), (Con.mk 1 0 (-9) 4)] (0 : Int) (1 : Int) (10 : Int)).1) = [(0 : Int), (10 : Int)]) ∧ ((witM (Flt.mk [(0 : Int), (0 : Int), (0 : Int)] (0 : Int) (1 : Int) [(0 : Int)] [(0 : Int)]) (2 : Int) [(Con.mk 0 1 5 1), (Con.mk 1 0 (-4) 2), (Con.mk 1 0 (-9) 4)] (0 : Int) (1 : Int) (10 : Int)).2.1 = (6 : Int))))))) → (((chM (Flt.mk [(0 : Int), (0 : Int), (0 : Int)] (0 : Int) (1 : Int) [(0 : Int)] [(0 : Int)]) (2 : Int) ([(Con.mk 0 1 5 1), (Con.mk 1 0 (-4) 2), (Con.mk 1 0 (-9) 4)] ++ [(Con.mk 0 1 6 2)])).1).length ≤ 1073741824) ∧ ((((chM (Flt.mk [(0 : Int), (0 : Int), (0 : Int)] (0 : Int) (1 : Int) [(0 : Int)] [(0 : Int)]) (2 : Int) ([(Con.mk 0 1 5 1), (Con.mk 1 0 (-4) 2), (Con.mk 1 0 (-9) 4)] ++ [(Con.mk 0 1 6 2)])).1) = [(3 : Int)]) → (((brangeM (Flt.mk [(0 : Int), (0 : Int), (0 : Int)] (0 : Int) (1 : Int) [(0 : Int)] [(0 : Int)]) (2 : Int) ([(Con.mk 0 1 5 1), (Con.mk 1 0 (-4) 2), (Con.mk 1 0 (-9) 4)] ++ [(Con.mk 0 1 6 2)]) (0 : Int) (1 : Int)).1 = (4 : Int)) → (((brangeM (Flt.mk [(0 : Int), (0 : Int), (0 : Int)] (0 : Int) (1 : Int) [(0 : Int)] [(0 : Int)]) (2 : Int) ([(Con.mk 0 1 5 1), (Con.mk 1 0 (-4) 2), (Con.mk 1 0 (-9) 4)] ++ [(Con.mk 0 1 6 2)]) (0 : Int) (1 : Int)).2.1 = (5 : Int)) → (((liM (Flt.mk [(0 : Int), (0 : Int), (0 : Int)] (0 : Int) (1 : Int) [(0 : Int)] [(0 : Int)]) (2 : Int) ([(Con.mk 0 1 5 1), (Con.mk 1 0 (-4) 2), (Con.mk 1 0 (-9) 4)] ++ [(Con.mk 0 1 6 2)])).1 = (4 : Int)) → (0 < 3 ∧ 0 ≤ ((0 : Nat) : Int) ∧ ((0 : Nat) : Int) ≤ (2 : Int) ∧ (2 : Int) ≤ (3 : Int)) ∧ ([(Con.mk 0 1 5 1), (Con.mk 1 0 (-4) 2), (Con.mk 1 0 (-9) 4)].length ≤ 1073741824) ∧ ((partM [(Con.mk 0 1 5 1), (Con.mk 1 0 (-4) 2), (Con.mk 1 0 (-9) 4)] (3 : Int)).length ≤ 1073741824) ∧ ((2 : Int).toNat = ([(Con.mk 0 1 5 1), (Con.mk 1 0 (-4) 2), (Con.mk 1 0 (-9) 4)].take ((2 : Int).toNat)).length) ∧ True) ∧ (¬ ((liM (Flt.mk [(0 : Int), (0 : Int), (0 : Int)] (0 : Int) (1 : Int) [(0 : Int)] [(0 : Int)]) (2 : Int) ([(Con.mk 0 1 5 1), (Con.mk 1 0 (-4) 2), (Con.mk 1 0 (-9) 4)] ++ [(Con.mk 0 1 6 2)])).1 = (4 : Int)) → True)) ∧ (¬ ((brangeM (Flt.mk [(0 : Int), (0 : Int), (0 : Int)] (0 : Int) (1 : Int) [(0 : Int)] [(0 : Int)]) (2 : Int) ([(Con.mk 0 1 5 1), (Con.mk 1 0 (-4) 2), (Con.mk 1 0 (-9) 4)] ++ [(Con.mk 0 1 6 2)]) (0 : Int) (1 : Int)).2.1 = (5 : Int)) → True)) ∧ (¬ ((brangeM (Flt.mk [(0 : Int), (0 : Int), (0 : Int)] (0 : Int) (1 : Int) [(0 : Int)] [(0 : Int)]) (2 : Int) ([(Con.mk 0 1 5 1), (Con.mk 1 0 (-4) 2), (Con.mk 1 0 (-9) 4)] ++ [(Con.mk 0 1 6 2)]) (0 : Int) (1 : Int)).1 = (4 : Int)) → True)) ∧ (¬ (((chM (Flt.mk [(0 : Int), (0 : Int), (0 : Int)] (0 : Int) (1 : Int) [(0 : Int)] [(0 : Int)]) (2 : Int) ([(Con.mk 0 1 5 1), (Con.mk 1 0 (-4) 2), (Con.mk 1 0 (-9) 4)] ++ [(Con.mk 0 1 6 2)])).1) = [(3 : Int)]) → True)) ∧ (¬ ((((chM (Flt.mk [(0 : Int), (0 : Int), (0 : Int)] (0 : Int) (1 : Int) [(0 : Int)] [(0 : Int)]) (2 : Int) [(Con.mk 0 1 5 1), (Con.mk 1 0 (-4) 2), (Con.mk 1 0 (-9) 4)]).1) = [(3 : Int), (6 : Int)]) ∧ (((brangeM (Flt.mk [(0 : Int), (0 : Int), (0 : Int)] (0 : Int) (1 : Int) [(0 : Int)] [(0 : Int)]) (2 : Int) [(Con.mk 0 1 5 1), (Con.mk 1 0 (-4) 2), (Con.mk 1 0 (-9) 4)] (0 : Int) (1 : Int)).1 = (4 : Int)) ∧ (((brangeM (Flt.mk [(0 : Int), (0 : Int), (0 : Int)] (0 : Int) (1 : Int) [(0 : Int)] [(0 : Int)]) (2 : Int) [(Con.mk 0 1 5 1), (Con.mk 1 0 (-4) 2), (Con.mk 1 0 (-9) 4)] (0 : Int) (1 : Int)).2.1 = (1152921504606846976 : Int)) ∧ (((liM (Flt.mk [(0 : Int), (0 : Int), (0 : Int)] (0 : Int) (1 : Int) [(0 : Int)] [(0 : Int)]) (2 : Int) [(Con.mk 0 1 5 1), (Con.mk 1 0 (-4) 2), (Con.mk 1 0 (-9) 4)]).1 = (0 : Int)) ∧ ((((witM (Flt.mk [(0 : Int), (0 : Int), (0 : Int)] (0 : Int) (1 : Int) [(0 : Int)] [(0 : Int)]) (2 : Int) [(Con.mk 0 1 5 1), (Con.mk 1 0 (-4) 2), (Con.mk 1 0 (-9) 4)] (0 : Int) (1 : Int) (10 : Int)).1) = [(0 : Int), (10 : Int)]) ∧ ((witM (Flt.mk [(0 : Int), (0 : Int), (0 : Int)] (0 : Int) (1 : Int) [(0 : Int)] [(0 : Int)]) (2 : Int) [(Con.mk 0 1 5 1), (Con.mk 1 0 (-4) 2), (Con.mk 1 0 (-9) 4)] (0 : Int) (1 : Int) (10 : Int)).2.1 = (6 : Int))))))) → True)) ∧ (¬ (((chM (Flt.mk [(0 : Int), (0 : Int), (0 : Int)] (0 : Int) (1 : Int) [(0 : Int)] [(0 : Int)]) (2 : Int) [(Con.mk 0 1 5 1), (Con.mk 1 0 (-4) 2), (Con.mk 1 0 (-9) 4)]).2 = (0 : Int)) ∧ (((brangeM (Flt.mk [(0 : Int), (0 : Int), (0 : Int)] (0 : Int) (1 : Int) [(0 : Int)] [(0 : Int)]) (2 : Int) [(Con.mk 0 1 5 1), (Con.mk 1 0 (-4) 2), (Con.mk 1 0 (-9) 4)] (0 : Int) (1 : Int)).2.2 = (0 : Int)) ∧ (((liM (Flt.mk [(0 : Int), (0 : Int), (0 : Int)] (0 : Int) (1 : Int) [(0 : Int)] [(0 : Int)]) (2 : Int) [(Con.mk 0 1 5 1), (Con.mk 1 0 (-4) 2), (Con.mk 1 0 (-9) 4)]).2 = (0 : Int)) ∧ (((witM (Flt.mk [(0 : Int), (0 : Int), (0 : Int)] (0 : Int) (1 : Int) [(0 : Int)] [(0 : Int)]) (2 : Int) [(Con.mk 0 1 5 1), (Con.mk 1 0 (-4) 2), (Con.mk 1 0 (-9) 4)] (0 : Int) (1 : Int) (10 : Int)).2.2 = (0 : Int)) ∧ (((chM (Flt.mk [(0 : Int), (0 : Int), (0 : Int)] (0 : Int) (1 : Int) [(0 : Int)] [(0 : Int)]) (2 : Int) ([(Con.mk 0 1 5 1), (Con.mk 1 0 (-4) 2), (Con.mk 1 0 (-9) 4)] ++ [(Con.mk 0 1 6 2)])).2 = (0 : Int)) ∧ (((brangeM (Flt.mk [(0 : Int), (0 : Int), (0 : Int)] (0 : Int) (1 : Int) [(0 : Int)] [(0 : Int)]) (2 : Int) ([(Con.mk 0 1 5 1), (Con.mk 1 0 (-4) 2), (Con.mk 1 0 (-9) 4)] ++ [(Con.mk 0 1 6 2)]) (0 : Int) (1 : Int)).2.2 = (0 : Int)) ∧ (((liM (Flt.mk [(0 : Int), (0 : Int), (0 : Int)] (0 : Int) (1 : Int) [(0 : Int)] [(0 : Int)]) (2 : Int) ([(Con.mk 0 1 5 1), (Con.mk 1 0 (-4) 2), (Con.mk 1 0 (-9) 4)] ++ [(Con.mk 0 1 6 2)])).2 = (0 : Int)) ∧ (((chM (Flt.mk [(0 : Int), (0 : Int), (0 : Int)] (0 : Int) (0 : Int) [(0 : Int)] [(0 : Int)]) (2 : Int) [(Con.mk 0 1 5 1), (Con.mk 1 0 (-4) 2), (Con.mk 1 0 (-9) 4)]).2 = (100 : Int)) ∧ ((chM (Flt.mk [] (0 : Int) (0 : Int) [] []) (2 : Int) [(Con.mk 0 1 5 1), (Con.mk 1 0 (-4) 2), (Con.mk 1 0 (-9) 4)]).2 = (2 : Int)))))))))) → True)) ∧ (Post (decide ((((chM (Flt.mk [(0 : Int), (0 : Int), (0 : Int)] (0 : Int) (1 : Int) [(0 : Int)] [(0 : Int)]) (2 : Int) [(Con.mk 0 1 5 1), (Con.mk 1 0 (-4) 2), (Con.mk 1 0 (-9) 4)]).2 = (0 : Int)) ∧ (((brangeM (Flt.mk [(0 : Int), (0 : Int), (0 : Int)] (0 : Int) (1 : Int) [(0 : Int)] [(0 : Int)]) (2 : Int) [(Con.mk 0 1 5 1), (Con.mk 1 0 (-4) 2), (Con.mk 1 0 (-9) 4)] (0 : Int) (1 : Int)).2.2 = (0 : Int)) ∧ (((liM (Flt.mk [(0 : Int), (0 : Int), (0 : Int)] (0 : Int) (1 : Int) [(0 : Int)] [(0 : Int)]) (2 : Int) [(Con.mk 0 1 5 1), (Con.mk 1 0 (-4) 2), (Con.mk 1 0 (-9) 4)]).2 = (0 : Int)) ∧ (((witM (Flt.mk [(0 : Int), (0 : Int), (0 : Int)] (0 : Int) (1 : Int) [(0 : Int)] [(0 : Int)]) (2 : Int) [(Con.mk 0 1 5 1), (Con.mk 1 0 (-4) 2), (Con.mk 1 0 (-9) 4)] (0 : Int) (1 : Int) (10 : Int)).2.2 = (0 : Int)) ∧ (((chM (Flt.mk [(0 : Int), (0 : Int), (0 : Int)] (0 : Int) (1 : Int) [(0 : Int)] [(0 : Int)]) (2 : Int) ([(Con.mk 0 1 5 1), (Con.mk 1 0 (-4) 2), (Con.mk 1 0 (-9) 4)] ++ [(Con.mk 0 1 6 2)])).2 = (0 : Int)) ∧ (((brangeM (Flt.mk [(0 : Int), (0 : Int), (0 : Int)] (0 : Int) (1 : Int) [(0 : Int)] [(0 : Int)]) (2 : Int) ([(Con.mk 0 1 5 1), (Con.mk 1 0 (-4) 2), (Con.mk 1 0 (-9) 4)] ++ [(Con.mk 0 1 6 2)]) (0 : Int) (1 : Int)).2.2 = (0 : Int)) ∧ (((liM (Flt.mk [(0 : Int), (0 : Int), (0 : Int)] (0 : Int) (1 : Int) [(0 : Int)] [(0 : Int)]) (2 : Int) ([(Con.mk 0 1 5 1), (Con.mk 1 0 (-4) 2), (Con.mk 1 0 (-9) 4)] ++ [(Con.mk 0 1 6 2)])).2 = (0 : Int)) ∧ (((chM (Flt.mk [(0 : Int), (0 : Int), (0 : Int)] (0 : Int) (0 : Int) [(0 : Int)] [(0 : Int)]) (2 : Int) [(Con.mk 0 1 5 1), (Con.mk 1 0 (-4) 2), (Con.mk 1 0 (-9) 4)]).2 = (100 : Int)) ∧ ((chM (Flt.mk [] (0 : Int) (0 : Int) [] []) (2 : Int) [(Con.mk 0 1 5 1), (Con.mk 1 0 (-4) 2), (Con.mk 1 0 (-9) 4)]).2 = (2 : Int)))))))))) ∧ (((((chM (Flt.mk [(0 : Int), (0 : Int), (0 : Int)] (0 : Int) (1 : Int) [(0 : Int)] [(0 : Int)]) (2 : Int) [(Con.mk 0 1 5 1), (Con.mk 1 0 (-4) 2), (Con.mk 1 0 (-9) 4)]).1) = [(3 : Int), (6 : Int)]) ∧ (((brangeM (Flt.mk [(0 : Int), (0 : Int), (0 : Int)] (0 : Int) (1 : Int) [(0 : Int)] [(0 : Int)]) (2 : Int) [(Con.mk 0 1 5 1), (Con.mk 1 0 (-4) 2), (Con.mk 1 0 (-9) 4)] (0 : Int) (1 : Int)).1 = (4 : Int)) ∧ (((brangeM (Flt.mk [(0 : Int), (0 : Int), (0 : Int)] (0 : Int) (1 : Int) [(0 : Int)] [(0 : Int)]) (2 : Int) [(Con.mk 0 1 5 1), (Con.mk 1 0 (-4) 2), (Con.mk 1 0 (-9) 4)] (0 : Int) (1 : Int)).2.1 = (1152921504606846976 : Int)) ∧ (((liM (Flt.mk [(0 : Int), (0 : Int), (0 : Int)] (0 : Int) (1 : Int) [(0 : Int)] [(0 : Int)]) (2 : Int) [(Con.mk 0 1 5 1), (Con.mk 1 0 (-4) 2), (Con.mk 1 0 (-9) 4)]).1 = (0 : Int)) ∧ ((((witM (Flt.mk [(0 : Int), (0 : Int), (0 : Int)] (0 : Int) (1 : Int) [(0 : Int)] [(0 : Int)]) (2 : Int) [(Con.mk 0 1 5 1), (Con.mk 1 0 (-4) 2), (Con.mk 1 0 (-9) 4)] (0 : Int) (1 : Int) (10 : Int)).1) = [(0 : Int), (10 : Int)]) ∧ ((witM (Flt.mk [(0 : Int), (0 : Int), (0 : Int)] (0 : Int) (1 : Int) [(0 : Int)] [(0 : Int)]) (2 : Int) [(Con.mk 0 1 5 1), (Con.mk 1 0 (-4) 2), (Con.mk 1 0 (-9) 4)] (0 : Int) (1 : Int) (10 : Int)).2.1 = (6 : Int))))))) ∧ ((((chM (Flt.mk [(0 : Int), (0 : Int), (0 : Int)] (0 : Int) (1 : Int) [(0 : Int)] [(0 : Int)]) (2 : Int) ([(Con.mk 0 1 5 1), (Con.mk 1 0 (-4) 2), (Con.mk 1 0 (-9) 4)] ++ [(Con.mk 0 1 6 2)])).1) = [(3 : Int)]) ∧ (((brangeM (Flt.mk [(0 : Int), (0 : Int), (0 : Int)] (0 : Int) (1 : Int) [(0 : Int)] [(0 : Int)]) (2 : Int) ([(Con.mk 0 1 5 1), (Con.mk 1 0 (-4) 2), (Con.mk 1 0 (-9) 4)] ++ [(Con.mk 0 1 6 2)]) (0 : Int) (1 : Int)).1 = (4 : Int)) ∧ (((brangeM (Flt.mk [(0 : Int), (0 : Int), (0 : Int)] (0 : Int) (1 : Int) [(0 : Int)] [(0 : Int)]) (2 : Int) ([(Con.mk 0 1 5 1), (Con.mk 1 0 (-4) 2), (Con.mk 1 0 (-9) 4)] ++ [(Con.mk 0 1 6 2)]) (0 : Int) (1 : Int)).2.1 = (5 : Int)) ∧ (((liM (Flt.mk [(0 : Int), (0 : Int), (0 : Int)] (0 : Int) (1 : Int) [(0 : Int)] [(0 : Int)]) (2 : Int) ([(Con.mk 0 1 5 1), (Con.mk 1 0 (-4) 2), (Con.mk 1 0 (-9) 4)] ++ [(Con.mk 0 1 6 2)])).1 = (4 : Int)) ∧ ((partM [(Con.mk 0 1 5 1), (Con.mk 1 0 (-4) 2), (Con.mk 1 0 (-9) 4)] (3 : Int)) = ([(Con.mk 0 1 5 1), (Con.mk 1 0 (-4) 2), (Con.mk 1 0 (-9) 4)].take ((2 : Int).toNat))))))))))))
set_option maxRecDepth 100000 in
set_option maxHeartbeats 4000000 in
theorem walk_bsane  {Post : Bool → Prop} (hv : vc_bsane Post) : FnP Try.prog 10 [] (fun x => ∃ q0, x = .bool q0 ∧ Post q0) := by
 refine FnP.of_walk (T := tt) (nt := 185) ttOk ttMix ⟨⟨Try.f10, Try.func10, rfl, rfl, rfl, rfl⟩⟩ (by simp) ?_
 unfold vc_bsane at hv
 change W _ _ _ ⟨185, look [], [], 0⟩ _
 refine W.tr [] [] trivial rfl ?_
 refine W.rL ?_
 refine aB rfl rfl ?_
 refine eL ?_
 refine W.tr [] [] trivial rfl ?_
 refine W.rL ?_
 refine cL rfl (o_buildS (q := 0) (qs := [(0, .int _ _), (1, .int _ _), (2, .int _ _)]) (cs := [.int _ _, .int _ _, .int _ _]) tt23 tt3 rfl rfl rfl rfl ?_)
 refine cL rfl (o_bs1 (v := .int _ _) (q := 1) tt23 tt3 rfl rfl rfl rfl rfl rfl rfl rfl ?_)
 refine cL rfl (o_bs1 (v := .int _ _) (q := 2) tt23 tt3 rfl rfl rfl rfl rfl rfl rfl rfl ?_)
 refine cL rfl (o_build (qs := [(0, .ref _ _ _), (2, .int _ _), (3, .ref _ _ _), (4, .ref _ _ _)]) (cs := [.ref _ _ _, .int _ _, .int _ _, .ref _ _ _, .ref _ _ _]) tt27 rfl rfl rfl ?_)
 refine cL rfl (o_alloc (p := 3) tt27 rfl rfl ?_)
 refine cLn (o_stB (v := .agg _) (vs := [.ref _ _ _, .int _ _, .int _ _, .ref _ _ _, .ref _ _ _]) (cs2 := [.ref _ _ _, .int _ _, .int _ _, .ref _ _ _, .ref _ _ _]) tt27 rfl rfl rfl rfl rfl (Nat.le_of_ble_eq_true rfl) rfl ?_)
 refine eL ?_
 refine W.tr [(1, .ptr _ _)] [.row _ _ _, .row _ _ _, .row _ _ _, .box _ [.ref _ _ _, .int _ _, .int _ _, .ref _ _ _, .ref _ _ _]] ⟨rfl, trivial⟩ rfl ?_
 refine W.rL ?_
 iterate 3 refine cL rfl (o_build (qs := [(0, .int _ _), (1, .int _ _), (2, .int _ _), (3, .int _ _)]) (cs := [.int _ _, .int _ _, .int _ _, .int _ _]) tt66 rfl rfl rfl ?_)
 refine cL rfl (o_buildS (q := 4) (qs := [(0, .agg _), (1, .agg _), (2, .agg _)]) (cs := [.int _ _, .int _ _, .int _ _, .int _ _, .int _ _, .int _ _, .int _ _, .int _ _, .int _ _, .int _ _, .int _ _, .int _ _]) tt28 tt66 rfl rfl rfl rfl ?_)
 refine cL rfl (o_assign (v := .ref _ _ _) rfl ?_)
 refine eL ?_
 refine W.tr [(1, .ptr _ _), (2, .ref _ _ _)] [.row _ _ _, .row _ _ _, .row _ _ _, .box _ [.ref _ _ _, .int _ _, .int _ _, .ref _ _ _, .ref _ _ _], .row _ _ _] ⟨rfl, rfl, trivial⟩ rfl ?_
 refine W.rL ?_
 refine cL rfl (o_ldA (cs := [.ref _ _ _, .int _ _, .int _ _, .ref _ _ _, .ref _ _ _]) tt27 rfl rfl ⟨_, rfl⟩ rfl ?_)
 refine cL rfl (o_move (v := .ref _ _ _) rfl ?_)
 obtain ⟨s1, s2, s3, s4, hv⟩ := hv
 refine cL rfl (o_callP1 (k := 13) (fst := []) (caps := []) (ys := [.agg _, .int _ _, .ref _ _ _]) rfl rfl (spec_choices (Flt.mk [(0 : Int), (0 : Int), (0 : Int)] (0 : Int) (1 : Int) [(0 : Int)] [(0 : Int)]) (2 : Int) [(Con.mk 0 1 5 1), (Con.mk 1 0 (-4) 2), (Con.mk 1 0 (-9) 4)] s1 s2 s3 s4) (Wks.cons (ag_agg 5 _ (Wks.cons (ag_ref (fl := false) (xs := [(0 : Int), (0 : Int), (0 : Int)]) encInt 3 _ rfl rfl) (Wks.cons (ag_int _ _ _ _) (Wks.cons (ag_int _ _ _ _) (Wks.cons (ag_ref (fl := false) (xs := [(0 : Int)]) encInt 3 _ rfl rfl) (Wks.cons (ag_ref (fl := false) (xs := [(0 : Int)]) encInt 3 _ rfl rfl) (Wks.refl _))))))) (Wks.cons (ag_int _ _ _ _) (Wks.cons (ag_ref (fl := false) (xs := [(Con.mk 0 1 5 1), (Con.mk 1 0 (-4) 2), (Con.mk 1 0 (-9) 4)]) enc66 4 _ rfl rfl) (Wks.refl _)))) ?_)
 refine cL rfl (o_move (v := .tup _) rfl ?_)
 refine cL rfl (o_ext (v := .lst _ _ _) rfl rfl ?_)
 refine cL rfl (o_ext (v := .int _ _) rfl rfl ?_)
 refine aL rfl rfl ?_
 refine aI rfl rfl ?_
 refine eL ?_
 refine W.tr [(1, .ptr _ _), (2, .ref _ _ _), (3, .lst _ _ _), (4, .int _ _)] [.row _ _ _, .row _ _ _, .row _ _ _, .box _ [.ref _ _ _, .int _ _, .int _ _, .ref _ _ _, .ref _ _ _], .row _ _ _] ⟨rfl, rfl, rfl, rfl, trivial⟩ rfl ?_
 refine W.rL ?_
 refine cL rfl (o_ldA (cs := [.ref _ _ _, .int _ _, .int _ _, .ref _ _ _, .ref _ _ _]) tt27 rfl rfl ⟨_, rfl⟩ rfl ?_)
 refine cL rfl (o_move (v := .ref _ _ _) rfl ?_)
 obtain ⟨s5, s6, s7, s8, hv⟩ := hv
 refine cL rfl (o_callP1 (k := 22) (fst := []) (caps := []) (ys := [.agg _, .int _ _, .ref _ _ _, .int _ _, .int _ _]) rfl rfl (spec_brange (Flt.mk [(0 : Int), (0 : Int), (0 : Int)] (0 : Int) (1 : Int) [(0 : Int)] [(0 : Int)]) (2 : Int) [(Con.mk 0 1 5 1), (Con.mk 1 0 (-4) 2), (Con.mk 1 0 (-9) 4)] (0 : Int) (1 : Int) s5 s6 s7 s8) (Wks.cons (ag_agg 5 _ (Wks.cons (ag_ref (fl := false) (xs := [(0 : Int), (0 : Int), (0 : Int)]) encInt 3 _ rfl rfl) (Wks.cons (ag_int _ _ _ _) (Wks.cons (ag_int _ _ _ _) (Wks.cons (ag_ref (fl := false) (xs := [(0 : Int)]) encInt 3 _ rfl rfl) (Wks.cons (ag_ref (fl := false) (xs := [(0 : Int)]) encInt 3 _ rfl rfl) (Wks.refl _))))))) (Wks.cons (ag_int _ _ _ _) (Wks.cons (ag_ref (fl := false) (xs := [(Con.mk 0 1 5 1), (Con.mk 1 0 (-4) 2), (Con.mk 1 0 (-9) 4)]) enc66 4 _ rfl rfl) (Wks.cons (ag_int _ _ _ _) (Wks.cons (ag_int _ _ _ _) (Wks.refl _)))))) ?_)
 refine cL rfl (o_move (v := .tup _) rfl ?_)
 iterate 3 refine cL rfl (o_ext (v := .int _ _) rfl rfl ?_)
 iterate 3 refine aI rfl rfl ?_
 refine eL ?_
 refine W.tr [(1, .ptr _ _), (2, .ref _ _ _), (3, .lst _ _ _), (4, .int _ _), (5, .int _ _), (6, .int _ _), (7, .int _ _)] [.row _ _ _, .row _ _ _, .row _ _ _, .box _ [.ref _ _ _, .int _ _, .int _ _, .ref _ _ _, .ref _ _ _], .row _ _ _] ⟨rfl, rfl, rfl, rfl, rfl, rfl, rfl, trivial⟩ rfl ?_
 refine W.rL ?_
 refine cL rfl (o_ldA (cs := [.ref _ _ _, .int _ _, .int _ _, .ref _ _ _, .ref _ _ _]) tt27 rfl rfl ⟨_, rfl⟩ rfl ?_)
 refine cL rfl (o_move (v := .ref _ _ _) rfl ?_)
 obtain ⟨s9, s10, s11, s12, hv⟩ := hv
 refine cL rfl (o_callP1 (k := 15) (fst := []) (caps := []) (ys := [.agg _, .int _ _, .ref _ _ _]) rfl rfl (spec_liars (Flt.mk [(0 : Int), (0 : Int), (0 : Int)] (0 : Int) (1 : Int) [(0 : Int)] [(0 : Int)]) (2 : Int) [(Con.mk 0 1 5 1), (Con.mk 1 0 (-4) 2), (Con.mk 1 0 (-9) 4)] s9 s10 s11 s12) (Wks.cons (ag_agg 5 _ (Wks.cons (ag_ref (fl := false) (xs := [(0 : Int), (0 : Int), (0 : Int)]) encInt 3 _ rfl rfl) (Wks.cons (ag_int _ _ _ _) (Wks.cons (ag_int _ _ _ _) (Wks.cons (ag_ref (fl := false) (xs := [(0 : Int)]) encInt 3 _ rfl rfl) (Wks.cons (ag_ref (fl := false) (xs := [(0 : Int)]) encInt 3 _ rfl rfl) (Wks.refl _))))))) (Wks.cons (ag_int _ _ _ _) (Wks.cons (ag_ref (fl := false) (xs := [(Con.mk 0 1 5 1), (Con.mk 1 0 (-4) 2), (Con.mk 1 0 (-9) 4)]) enc66 4 _ rfl rfl) (Wks.refl _)))) ?_)
 refine cL rfl (o_move (v := .tup _) rfl ?_)
 iterate 2 refine cL rfl (o_ext (v := .int _ _) rfl rfl ?_)
 iterate 2 refine aI rfl rfl ?_
 refine eL ?_
 refine W.tr [(1, .ptr _ _), (2, .ref _ _ _), (3, .lst _ _ _), (4, .int _ _), (5, .int _ _), (6, .int _ _), (7, .int _ _), (8, .int _ _), (9, .int _ _)] [.row _ _ _, .row _ _ _, .row _ _ _, .box _ [.ref _ _ _, .int _ _, .int _ _, .ref _ _ _, .ref _ _ _], .row _ _ _] ⟨rfl, rfl, rfl, rfl, rfl, rfl, rfl, rfl, rfl, trivial⟩ rfl ?_
 refine W.rL ?_
 refine cL rfl (o_ldA (cs := [.ref _ _ _, .int _ _, .int _ _, .ref _ _ _, .ref _ _ _]) tt27 rfl rfl ⟨_, rfl⟩ rfl ?_)
 refine cL rfl (o_move (v := .ref _ _ _) rfl ?_)
 obtain ⟨s13, s14, s15, s16, hv⟩ := hv
 refine cL rfl (o_callP1 (k := 24) (fst := []) (caps := []) (ys := [.agg _, .int _ _, .ref _ _ _, .int _ _, .int _ _, .int _ _]) rfl rfl (spec_witness (Flt.mk [(0 : Int), (0 : Int), (0 : Int)] (0 : Int) (1 : Int) [(0 : Int)] [(0 : Int)]) (2 : Int) [(Con.mk 0 1 5 1), (Con.mk 1 0 (-4) 2), (Con.mk 1 0 (-9) 4)] (0 : Int) (1 : Int) (10 : Int) s13 s14 s15 s16) (Wks.cons (ag_agg 5 _ (Wks.cons (ag_ref (fl := false) (xs := [(0 : Int), (0 : Int), (0 : Int)]) encInt 3 _ rfl rfl) (Wks.cons (ag_int _ _ _ _) (Wks.cons (ag_int _ _ _ _) (Wks.cons (ag_ref (fl := false) (xs := [(0 : Int)]) encInt 3 _ rfl rfl) (Wks.cons (ag_ref (fl := false) (xs := [(0 : Int)]) encInt 3 _ rfl rfl) (Wks.refl _))))))) (Wks.cons (ag_int _ _ _ _) (Wks.cons (ag_ref (fl := false) (xs := [(Con.mk 0 1 5 1), (Con.mk 1 0 (-4) 2), (Con.mk 1 0 (-9) 4)]) enc66 4 _ rfl rfl) (Wks.cons (ag_int _ _ _ _) (Wks.cons (ag_int _ _ _ _) (Wks.cons (ag_int _ _ _ _) (Wks.refl _))))))) ?_)
 refine cL rfl (o_move (v := .tup _) rfl ?_)
 refine cL rfl (o_ext (v := .lst _ _ _) rfl rfl ?_)
 iterate 2 refine cL rfl (o_ext (v := .int _ _) rfl rfl ?_)
 refine aL rfl rfl ?_
 iterate 2 refine aI rfl rfl ?_
 refine eL ?_
 refine W.tr [(1, .ptr _ _), (2, .ref _ _ _), (3, .lst _ _ _), (4, .int _ _), (5, .int _ _), (6, .int _ _), (7, .int _ _), (8, .int _ _), (9, .int _ _), (10, .lst _ _ _), (11, .int _ _), (12, .int _ _)] [.row _ _ _, .row _ _ _, .row _ _ _, .box _ [.ref _ _ _, .int _ _, .int _ _, .ref _ _ _, .ref _ _ _], .row _ _ _] ⟨rfl, rfl, rfl, rfl, rfl, rfl, rfl, rfl, rfl, rfl, rfl, rfl, trivial⟩ rfl ?_
 refine W.rL ?_
 refine cL rfl (o_buildS (q := 5) (qs := []) (cs := []) tt28 tt66 rfl rfl rfl rfl ?_)
 refine cL rfl (o_move (v := .ref _ _ _) rfl ?_)
 obtain ⟨s17, hv⟩ := hv
 refine cL rfl (o_apR (p := 6) (q := ([(Con.mk 0 1 5 1), (Con.mk 1 0 (-4) 2), (Con.mk 1 0 (-9) 4)]).length) tt28 tt66 rfl rfl (src_ref rfl rfl) rfl rfl rfl (by simpa using s17) rfl (Nat.zero_add _) (List.nil_append _) ?_)
 refine cL rfl (o_build (qs := [(0, .int _ _), (1, .int _ _), (2, .int _ _), (3, .int _ _)]) (cs := [.int _ _, .int _ _, .int _ _, .int _ _]) tt66 rfl rfl rfl ?_)
 refine cL rfl (o_bs1 (v := .agg _) (q := 7) tt28 tt66 rfl rfl rfl rfl rfl rfl rfl rfl ?_)
 obtain ⟨s18, hv⟩ := hv
 refine cL rfl (o_apR (p := 8) (q := ([(Con.mk 0 1 5 1), (Con.mk 1 0 (-4) 2), (Con.mk 1 0 (-9) 4)] ++ [(Con.mk 0 1 6 2)]).length) tt28 tt66 rfl rfl (src_ref rfl rfl) rfl rfl rfl (Nat.le_trans (Nat.le_of_eq (@List.length_append _ ([(Con.mk 0 1 5 1), (Con.mk 1 0 (-4) 2), (Con.mk 1 0 (-9) 4)]) ([(Con.mk 0 1 6 2)])).symm) s18) rfl (@List.length_append _ ([(Con.mk 0 1 5 1), (Con.mk 1 0 (-4) 2), (Con.mk 1 0 (-9) 4)]) ([(Con.mk 0 1 6 2)])).symm (encL_app e66 [(Con.mk 0 1 5 1), (Con.mk 1 0 (-4) 2), (Con.mk 1 0 (-9) 4)] [(Con.mk 0 1 6 2)]) ?_)
 refine cL rfl (o_assign (v := .ref _ _ _) rfl ?_)
 refine eL ?_
 refine W.tr [(1, .ptr _ _), (2, .ref _ _ _), (3, .lst _ _ _), (4, .int _ _), (5, .int _ _), (6, .int _ _), (7, .int _ _), (8, .int _ _), (9, .int _ _), (10, .lst _ _ _), (11, .int _ _), (12, .int _ _), (13, .ref _ _ _)] [.row _ _ _, .row _ _ _, .row _ _ _, .box _ [.ref _ _ _, .int _ _, .int _ _, .ref _ _ _, .ref _ _ _], .row _ _ _, .dead, .dead, .row _ _ _, .row _ _ _] ⟨rfl, rfl, rfl, rfl, rfl, rfl, rfl, rfl, rfl, rfl, rfl, rfl, rfl, trivial⟩ rfl ?_
 refine W.rL ?_
 refine cL rfl (o_ldA (cs := [.ref _ _ _, .int _ _, .int _ _, .ref _ _ _, .ref _ _ _]) tt27 rfl rfl ⟨_, rfl⟩ rfl ?_)
 refine cL rfl (o_move (v := .ref _ _ _) rfl ?_)
 obtain ⟨s19, s20, s21, s22, hv⟩ := hv
 refine cL rfl (o_callP1 (k := 13) (fst := []) (caps := []) (ys := [.agg _, .int _ _, .ref _ _ _]) rfl rfl (spec_choices (Flt.mk [(0 : Int), (0 : Int), (0 : Int)] (0 : Int) (1 : Int) [(0 : Int)] [(0 : Int)]) (2 : Int) ([(Con.mk 0 1 5 1), (Con.mk 1 0 (-4) 2), (Con.mk 1 0 (-9) 4)] ++ [(Con.mk 0 1 6 2)]) s19 s20 s21 s22) (Wks.cons (ag_agg 5 _ (Wks.cons (ag_ref (fl := false) (xs := [(0 : Int), (0 : Int), (0 : Int)]) encInt 3 _ rfl rfl) (Wks.cons (ag_int _ _ _ _) (Wks.cons (ag_int _ _ _ _) (Wks.cons (ag_ref (fl := false) (xs := [(0 : Int)]) encInt 3 _ rfl rfl) (Wks.cons (ag_ref (fl := false) (xs := [(0 : Int)]) encInt 3 _ rfl rfl) (Wks.refl _))))))) (Wks.cons (ag_int _ _ _ _) (Wks.cons (ag_ref (fl := false) (xs := [(Con.mk 0 1 5 1), (Con.mk 1 0 (-4) 2), (Con.mk 1 0 (-9) 4)] ++ [(Con.mk 0 1 6 2)]) enc66 4 _ rfl rfl) (Wks.refl _)))) ?_)
 refine cL rfl (o_move (v := .tup _) rfl ?_)
 refine cL rfl (o_ext (v := .lst _ _ _) rfl rfl ?_)
 refine cL rfl (o_ext (v := .int _ _) rfl rfl ?_)
 refine aL rfl rfl ?_
 refine aI rfl rfl ?_
 refine eL ?_
 refine W.tr [(1, .ptr _ _), (2, .ref _ _ _), (3, .lst _ _ _), (4, .int _ _), (5, .int _ _), (6, .int _ _), (7, .int _ _), (8, .int _ _), (9, .int _ _), (10, .lst _ _ _), (11, .int _ _), (12, .int _ _), (13, .ref _ _ _), (14, .lst _ _ _), (15, .int _ _)] [.row _ _ _, .row _ _ _, .row _ _ _, .box _ [.ref _ _ _, .int _ _, .int _ _, .ref _ _ _, .ref _ _ _], .row _ _ _, .dead, .dead, .row _ _ _, .row _ _ _] ⟨rfl, rfl, rfl, rfl, rfl, rfl, rfl, rfl, rfl, rfl, rfl, rfl, rfl, rfl, rfl, trivial⟩ rfl ?_
 refine W.rL ?_
 refine cL rfl (o_ldA (cs := [.ref _ _ _, .int _ _, .int _ _, .ref _ _ _, .ref _ _ _]) tt27 rfl rfl ⟨_, rfl⟩ rfl ?_)
 refine cL rfl (o_move (v := .ref _ _ _) rfl ?_)
 obtain ⟨s23, s24, s25, s26, hv⟩ := hv
 refine cL rfl (o_callP1 (k := 22) (fst := []) (caps := []) (ys := [.agg _, .int _ _, .ref _ _ _, .int _ _, .int _ _]) rfl rfl (spec_brange (Flt.mk [(0 : Int), (0 : Int), (0 : Int)] (0 : Int) (1 : Int) [(0 : Int)] [(0 : Int)]) (2 : Int) ([(Con.mk 0 1 5 1), (Con.mk 1 0 (-4) 2), (Con.mk 1 0 (-9) 4)] ++ [(Con.mk 0 1 6 2)]) (0 : Int) (1 : Int) s23 s24 s25 s26) (Wks.cons (ag_agg 5 _ (Wks.cons (ag_ref (fl := false) (xs := [(0 : Int), (0 : Int), (0 : Int)]) encInt 3 _ rfl rfl) (Wks.cons (ag_int _ _ _ _) (Wks.cons (ag_int _ _ _ _) (Wks.cons (ag_ref (fl := false) (xs := [(0 : Int)]) encInt 3 _ rfl rfl) (Wks.cons (ag_ref (fl := false) (xs := [(0 : Int)]) encInt 3 _ rfl rfl) (Wks.refl _))))))) (Wks.cons (ag_int _ _ _ _) (Wks.cons (ag_ref (fl := false) (xs := [(Con.mk 0 1 5 1), (Con.mk 1 0 (-4) 2), (Con.mk 1 0 (-9) 4)] ++ [(Con.mk 0 1 6 2)]) enc66 4 _ rfl rfl) (Wks.cons (ag_int _ _ _ _) (Wks.cons (ag_int _ _ _ _) (Wks.refl _)))))) ?_)
 refine cL rfl (o_move (v := .tup _) rfl ?_)
 iterate 3 refine cL rfl (o_ext (v := .int _ _) rfl rfl ?_)
 iterate 3 refine aI rfl rfl ?_
 refine eL ?_
 refine W.tr [(1, .ptr _ _), (2, .ref _ _ _), (3, .lst _ _ _), (4, .int _ _), (5, .int _ _), (6, .int _ _), (7, .int _ _), (8, .int _ _), (9, .int _ _), (10, .lst _ _ _), (11, .int _ _), (12, .int _ _), (13, .ref _ _ _), (14, .lst _ _ _), (15, .int _ _), (16, .int _ _), (17, .int _ _), (18, .int _ _)] [.row _ _ _, .row _ _ _, .row _ _ _, .box _ [.ref _ _ _, .int _ _, .int _ _, .ref _ _ _, .ref _ _ _], .row _ _ _, .dead, .dead, .row _ _ _, .row _ _ _] ⟨rfl, rfl, rfl, rfl, rfl, rfl, rfl, rfl, rfl, rfl, rfl, rfl, rfl, rfl, rfl, rfl, rfl, rfl, trivial⟩ rfl ?_
 refine W.rL ?_
 refine cL rfl (o_ldA (cs := [.ref _ _ _, .int _ _, .int _ _, .ref _ _ _, .ref _ _ _]) tt27 rfl rfl ⟨_, rfl⟩ rfl ?_)
 refine cL rfl (o_move (v := .ref _ _ _) rfl ?_)
 obtain ⟨s27, s28, s29, s30, hv⟩ := hv
 refine cL rfl (o_callP1 (k := 15) (fst := []) (caps := []) (ys := [.agg _, .int _ _, .ref _ _ _]) rfl rfl (spec_liars (Flt.mk [(0 : Int), (0 : Int), (0 : Int)] (0 : Int) (1 : Int) [(0 : Int)] [(0 : Int)]) (2 : Int) ([(Con.mk 0 1 5 1), (Con.mk 1 0 (-4) 2), (Con.mk 1 0 (-9) 4)] ++ [(Con.mk 0 1 6 2)]) s27 s28 s29 s30) (Wks.cons (ag_agg 5 _ (Wks.cons (ag_ref (fl := false) (xs := [(0 : Int), (0 : Int), (0 : Int)]) encInt 3 _ rfl rfl) (Wks.cons (ag_int _ _ _ _) (Wks.cons (ag_int _ _ _ _) (Wks.cons (ag_ref (fl := false) (xs := [(0 : Int)]) encInt 3 _ rfl rfl) (Wks.cons (ag_ref (fl := false) (xs := [(0 : Int)]) encInt 3 _ rfl rfl) (Wks.refl _))))))) (Wks.cons (ag_int _ _ _ _) (Wks.cons (ag_ref (fl := false) (xs := [(Con.mk 0 1 5 1), (Con.mk 1 0 (-4) 2), (Con.mk 1 0 (-9) 4)] ++ [(Con.mk 0 1 6 2)]) enc66 4 _ rfl rfl) (Wks.refl _)))) ?_)
 refine cL rfl (o_move (v := .tup _) rfl ?_)
 iterate 2 refine cL rfl (o_ext (v := .int _ _) rfl rfl ?_)
 iterate 2 refine aI rfl rfl ?_
 refine eL ?_
 refine W.tr [(1, .ptr _ _), (2, .ref _ _ _), (3, .lst _ _ _), (4, .int _ _), (5, .int _ _), (6, .int _ _), (7, .int _ _), (8, .int _ _), (9, .int _ _), (10, .lst _ _ _), (11, .int _ _), (12, .int _ _), (14, .lst _ _ _), (15, .int _ _), (16, .int _ _), (17, .int _ _), (18, .int _ _), (19, .int _ _), (20, .int _ _)] [.row _ _ _, .row _ _ _, .row _ _ _, .box _ [.ref _ _ _, .int _ _, .int _ _, .ref _ _ _, .ref _ _ _], .row _ _ _, .dead, .dead, .row _ _ _, .row _ _ _] ⟨rfl, rfl, rfl, rfl, rfl, rfl, rfl, rfl, rfl, rfl, rfl, rfl, rfl, rfl, rfl, rfl, rfl, rfl, rfl, trivial⟩ rfl ?_
 refine W.rL ?_
 refine cL rfl (o_fa tt27 rfl tt3 rfl ?_)
 refine cLn (o_stB (v := .int _ _) (vs := [.int _ _]) (cs2 := [.ref _ _ _, .int _ _, .int _ _, .ref _ _ _, .ref _ _ _]) tt3 rfl rfl rfl rfl rfl (Nat.le_of_ble_eq_true rfl) rfl ?_)
 refine eL ?_
 refine W.tr [(1, .ptr _ _), (2, .ref _ _ _), (3, .lst _ _ _), (4, .int _ _), (5, .int _ _), (6, .int _ _), (7, .int _ _), (8, .int _ _), (9, .int _ _), (10, .lst _ _ _), (11, .int _ _), (12, .int _ _), (14, .lst _ _ _), (15, .int _ _), (16, .int _ _), (17, .int _ _), (18, .int _ _), (19, .int _ _), (20, .int _ _)] [.row _ _ _, .row _ _ _, .row _ _ _, .box _ [.ref _ _ _, .int _ _, .int _ _, .ref _ _ _, .ref _ _ _], .row _ _ _, .dead, .dead, .row _ _ _, .row _ _ _] ⟨rfl, rfl, rfl, rfl, rfl, rfl, rfl, rfl, rfl, rfl, rfl, rfl, rfl, rfl, rfl, rfl, rfl, rfl, rfl, trivial⟩ rfl ?_
 refine W.rL ?_
 refine cL rfl (o_ldA (cs := [.ref _ _ _, .int _ _, .int _ _, .ref _ _ _, .ref _ _ _]) tt27 rfl rfl ⟨_, rfl⟩ rfl ?_)
 refine cL rfl (o_move (v := .ref _ _ _) rfl ?_)
 obtain ⟨s31, s32, s33, s34, hv⟩ := hv
 refine cL rfl (o_callP1 (k := 13) (fst := []) (caps := []) (ys := [.agg _, .int _ _, .ref _ _ _]) rfl rfl (spec_choices (Flt.mk [(0 : Int), (0 : Int), (0 : Int)] (0 : Int) (0 : Int) [(0 : Int)] [(0 : Int)]) (2 : Int) [(Con.mk 0 1 5 1), (Con.mk 1 0 (-4) 2), (Con.mk 1 0 (-9) 4)] s31 s32 s33 s34) (Wks.cons (ag_agg 5 _ (Wks.cons (ag_ref (fl := false) (xs := [(0 : Int), (0 : Int), (0 : Int)]) encInt 3 _ rfl rfl) (Wks.cons (ag_int _ _ _ _) (Wks.cons (ag_int _ _ _ _) (Wks.cons (ag_ref (fl := false) (xs := [(0 : Int)]) encInt 3 _ rfl rfl) (Wks.cons (ag_ref (fl := false) (xs := [(0 : Int)]) encInt 3 _ rfl rfl) (Wks.refl _))))))) (Wks.cons (ag_int _ _ _ _) (Wks.cons (ag_ref (fl := false) (xs := [(Con.mk 0 1 5 1), (Con.mk 1 0 (-4) 2), (Con.mk 1 0 (-9) 4)]) enc66 4 _ rfl rfl) (Wks.refl _)))) ?_)
 refine cL rfl (o_move (v := .tup _) rfl ?_)
 refine cL rfl (o_ext (v := .lst _ _ _) rfl rfl ?_)
 refine cL rfl (o_ext (v := .int _ _) rfl rfl ?_)
 refine aL rfl rfl ?_
 refine aI rfl rfl ?_
 refine eL ?_
 refine W.tr [(2, .ref _ _ _), (3, .lst _ _ _), (4, .int _ _), (5, .int _ _), (6, .int _ _), (7, .int _ _), (8, .int _ _), (9, .int _ _), (10, .lst _ _ _), (11, .int _ _), (12, .int _ _), (14, .lst _ _ _), (15, .int _ _), (16, .int _ _), (17, .int _ _), (18, .int _ _), (19, .int _ _), (20, .int _ _), (22, .int _ _)] [.row _ _ _, .row _ _ _, .row _ _ _, .box _ [.ref _ _ _, .int _ _, .int _ _, .ref _ _ _, .ref _ _ _], .row _ _ _, .dead, .dead, .row _ _ _, .row _ _ _] ⟨rfl, rfl, rfl, rfl, rfl, rfl, rfl, rfl, rfl, rfl, rfl, rfl, rfl, rfl, rfl, rfl, rfl, rfl, rfl, trivial⟩ rfl ?_
 refine W.rL ?_
 refine cL rfl (o_build (qs := []) (cs := [.nilS, .int _ _, .int _ _, .nilS, .nilS]) tt27 rfl rfl rfl ?_)
 refine cL rfl (o_move (v := .ref _ _ _) rfl ?_)
 obtain ⟨s35, s36, s37, s38, hv⟩ := hv
 refine cL rfl (o_callP1 (k := 13) (fst := []) (caps := []) (ys := [.agg _, .int _ _, .ref _ _ _]) rfl rfl (spec_choices (Flt.mk [] (0 : Int) (0 : Int) [] []) (2 : Int) [(Con.mk 0 1 5 1), (Con.mk 1 0 (-4) 2), (Con.mk 1 0 (-9) 4)] s35 s36 s37 s38) (Wks.cons (ag_agg 5 _ (Wks.cons (ag_nil _ _ _ _ rfl) (Wks.cons (ag_int _ _ _ _) (Wks.cons (ag_int _ _ _ _) (Wks.cons (ag_nil _ _ _ _ rfl) (Wks.cons (ag_nil _ _ _ _ rfl) (Wks.refl _))))))) (Wks.cons (ag_int _ _ _ _) (Wks.cons (ag_ref (fl := false) (xs := [(Con.mk 0 1 5 1), (Con.mk 1 0 (-4) 2), (Con.mk 1 0 (-9) 4)]) enc66 4 _ rfl rfl) (Wks.refl _)))) ?_)
 refine cL rfl (o_move (v := .tup _) rfl ?_)
 refine cL rfl (o_ext (v := .lst _ _ _) rfl rfl ?_)
 refine cL rfl (o_ext (v := .int _ _) rfl rfl ?_)
 refine aL rfl rfl ?_
 refine aI rfl rfl ?_
 refine eL ?_
 refine W.tr [(2, .ref _ _ _), (3, .lst _ _ _), (4, .int _ _), (5, .int _ _), (6, .int _ _), (7, .int _ _), (8, .int _ _), (9, .int _ _), (10, .lst _ _ _), (11, .int _ _), (12, .int _ _), (14, .lst _ _ _), (15, .int _ _), (16, .int _ _), (17, .int _ _), (18, .int _ _), (19, .int _ _), (20, .int _ _), (22, .int _ _), (24, .int _ _)] [.row _ _ _, .row _ _ _, .row _ _ _, .box _ [.ref _ _ _, .int _ _, .int _ _, .ref _ _ _, .ref _ _ _], .row _ _ _, .dead, .dead, .row _ _ _, .row _ _ _] ⟨rfl, rfl, rfl, rfl, rfl, rfl, rfl, rfl, rfl, rfl, rfl, rfl, rfl, rfl, rfl, rfl, rfl, rfl, rfl, rfl, trivial⟩ rfl ?_
 refine W.rLm ⟨185, look [(2, .ref false 4 3), (3, .lst false ((chM (Flt.mk [(0 : Int), (0 : Int), (0 : Int)] (0 : Int) (1 : Int) [(0 : Int)] [(0 : Int)]) (2 : Int) [(Con.mk 0 1 5 1), (Con.mk 1 0 (-4) 2), (Con.mk 1 0 (-9) 4)]).1).length (encL eInt ((chM (Flt.mk [(0 : Int), (0 : Int), (0 : Int)] (0 : Int) (1 : Int) [(0 : Int)] [(0 : Int)]) (2 : Int) [(Con.mk 0 1 5 1), (Con.mk 1 0 (-4) 2), (Con.mk 1 0 (-9) 4)]).1))), (5, .int .i64 ((brangeM (Flt.mk [(0 : Int), (0 : Int), (0 : Int)] (0 : Int) (1 : Int) [(0 : Int)] [(0 : Int)]) (2 : Int) [(Con.mk 0 1 5 1), (Con.mk 1 0 (-4) 2), (Con.mk 1 0 (-9) 4)] (0 : Int) (1 : Int)).1)), (6, .int .i64 ((brangeM (Flt.mk [(0 : Int), (0 : Int), (0 : Int)] (0 : Int) (1 : Int) [(0 : Int)] [(0 : Int)]) (2 : Int) [(Con.mk 0 1 5 1), (Con.mk 1 0 (-4) 2), (Con.mk 1 0 (-9) 4)] (0 : Int) (1 : Int)).2.1)), (8, .int .i64 ((liM (Flt.mk [(0 : Int), (0 : Int), (0 : Int)] (0 : Int) (1 : Int) [(0 : Int)] [(0 : Int)]) (2 : Int) [(Con.mk 0 1 5 1), (Con.mk 1 0 (-4) 2), (Con.mk 1 0 (-9) 4)]).1)), (10, .lst false ((witM (Flt.mk [(0 : Int), (0 : Int), (0 : Int)] (0 : Int) (1 : Int) [(0 : Int)] [(0 : Int)]) (2 : Int) [(Con.mk 0 1 5 1), (Con.mk 1 0 (-4) 2), (Con.mk 1 0 (-9) 4)] (0 : Int) (1 : Int) (10 : Int)).1).length (encL eInt ((witM (Flt.mk [(0 : Int), (0 : Int), (0 : Int)] (0 : Int) (1 : Int) [(0 : Int)] [(0 : Int)]) (2 : Int) [(Con.mk 0 1 5 1), (Con.mk 1 0 (-4) 2), (Con.mk 1 0 (-9) 4)] (0 : Int) (1 : Int) (10 : Int)).1))), (11, .int .i64 ((witM (Flt.mk [(0 : Int), (0 : Int), (0 : Int)] (0 : Int) (1 : Int) [(0 : Int)] [(0 : Int)]) (2 : Int) [(Con.mk 0 1 5 1), (Con.mk 1 0 (-4) 2), (Con.mk 1 0 (-9) 4)] (0 : Int) (1 : Int) (10 : Int)).2.1)), (14, .lst false ((chM (Flt.mk [(0 : Int), (0 : Int), (0 : Int)] (0 : Int) (1 : Int) [(0 : Int)] [(0 : Int)]) (2 : Int) ([(Con.mk 0 1 5 1), (Con.mk 1 0 (-4) 2), (Con.mk 1 0 (-9) 4)] ++ [(Con.mk 0 1 6 2)])).1).length (encL eInt ((chM (Flt.mk [(0 : Int), (0 : Int), (0 : Int)] (0 : Int) (1 : Int) [(0 : Int)] [(0 : Int)]) (2 : Int) ([(Con.mk 0 1 5 1), (Con.mk 1 0 (-4) 2), (Con.mk 1 0 (-9) 4)] ++ [(Con.mk 0 1 6 2)])).1))), (16, .int .i64 ((brangeM (Flt.mk [(0 : Int), (0 : Int), (0 : Int)] (0 : Int) (1 : Int) [(0 : Int)] [(0 : Int)]) (2 : Int) ([(Con.mk 0 1 5 1), (Con.mk 1 0 (-4) 2), (Con.mk 1 0 (-9) 4)] ++ [(Con.mk 0 1 6 2)]) (0 : Int) (1 : Int)).1)), (17, .int .i64 ((brangeM (Flt.mk [(0 : Int), (0 : Int), (0 : Int)] (0 : Int) (1 : Int) [(0 : Int)] [(0 : Int)]) (2 : Int) ([(Con.mk 0 1 5 1), (Con.mk 1 0 (-4) 2), (Con.mk 1 0 (-9) 4)] ++ [(Con.mk 0 1 6 2)]) (0 : Int) (1 : Int)).2.1)), (19, .int .i64 ((liM (Flt.mk [(0 : Int), (0 : Int), (0 : Int)] (0 : Int) (1 : Int) [(0 : Int)] [(0 : Int)]) (2 : Int) ([(Con.mk 0 1 5 1), (Con.mk 1 0 (-4) 2), (Con.mk 1 0 (-9) 4)] ++ [(Con.mk 0 1 6 2)])).1)), (25, .bool (decide (((chM (Flt.mk [(0 : Int), (0 : Int), (0 : Int)] (0 : Int) (1 : Int) [(0 : Int)] [(0 : Int)]) (2 : Int) [(Con.mk 0 1 5 1), (Con.mk 1 0 (-4) 2), (Con.mk 1 0 (-9) 4)]).2 = (0 : Int)) ∧ (((brangeM (Flt.mk [(0 : Int), (0 : Int), (0 : Int)] (0 : Int) (1 : Int) [(0 : Int)] [(0 : Int)]) (2 : Int) [(Con.mk 0 1 5 1), (Con.mk 1 0 (-4) 2), (Con.mk 1 0 (-9) 4)] (0 : Int) (1 : Int)).2.2 = (0 : Int)) ∧ (((liM (Flt.mk [(0 : Int), (0 : Int), (0 : Int)] (0 : Int) (1 : Int) [(0 : Int)] [(0 : Int)]) (2 : Int) [(Con.mk 0 1 5 1), (Con.mk 1 0 (-4) 2), (Con.mk 1 0 (-9) 4)]).2 = (0 : Int)) ∧ (((witM (Flt.mk [(0 : Int), (0 : Int), (0 : Int)] (0 : Int) (1 : Int) [(0 : Int)] [(0 : Int)]) (2 : Int) [(Con.mk 0 1 5 1), (Con.mk 1 0 (-4) 2), (Con.mk 1 0 (-9) 4)] (0 : Int) (1 : Int) (10 : Int)).2.2 = (0 : Int)) ∧ (((chM (Flt.mk [(0 : Int), (0 : Int), (0 : Int)] (0 : Int) (1 : Int) [(0 : Int)] [(0 : Int)]) (2 : Int) ([(Con.mk 0 1 5 1), (Con.mk 1 0 (-4) 2), (Con.mk 1 0 (-9) 4)] ++ [(Con.mk 0 1 6 2)])).2 = (0 : Int)) ∧ (((brangeM (Flt.mk [(0 : Int), (0 : Int), (0 : Int)] (0 : Int) (1 : Int) [(0 : Int)] [(0 : Int)]) (2 : Int) ([(Con.mk 0 1 5 1), (Con.mk 1 0 (-4) 2), (Con.mk 1 0 (-9) 4)] ++ [(Con.mk 0 1 6 2)]) (0 : Int) (1 : Int)).2.2 = (0 : Int)) ∧ (((liM (Flt.mk [(0 : Int), (0 : Int), (0 : Int)] (0 : Int) (1 : Int) [(0 : Int)] [(0 : Int)]) (2 : Int) ([(Con.mk 0 1 5 1), (Con.mk 1 0 (-4) 2), (Con.mk 1 0 (-9) 4)] ++ [(Con.mk 0 1 6 2)])).2 = (0 : Int)) ∧ (((chM (Flt.mk [(0 : Int), (0 : Int), (0 : Int)] (0 : Int) (0 : Int) [(0 : Int)] [(0 : Int)]) (2 : Int) [(Con.mk 0 1 5 1), (Con.mk 1 0 (-4) 2), (Con.mk 1 0 (-9) 4)]).2 = (100 : Int)) ∧ ((chM (Flt.mk [] (0 : Int) (0 : Int) [] []) (2 : Int) [(Con.mk 0 1 5 1), (Con.mk 1 0 (-4) 2), (Con.mk 1 0 (-9) 4)]).2 = (2 : Int))))))))))))], [.row 3 1 (encL eInt [(0 : Int), (0 : Int), (0 : Int)]), .row 3 1 (encL eInt [(0 : Int)]), .row 3 1 (encL eInt [(0 : Int)]), .box 27 [.ref false 0 3, .int .i64 (0 : Int), .int .i64 (0 : Int), .ref false 1 1, .ref false 2 1], .row 66 4 (encL e66 [(Con.mk 0 1 5 1), (Con.mk 1 0 (-4) 2), (Con.mk 1 0 (-9) 4)]), .dead, .dead, .row 66 4 (encL e66 [(Con.mk 0 1 6 2)]), .row 66 4 (encL e66 ([(Con.mk 0 1 5 1), (Con.mk 1 0 (-4) 2), (Con.mk 1 0 (-9) 4)] ++ [(Con.mk 0 1 6 2)]))], 0⟩ ?_ ?_
 refine mI rfl rfl ?_
 refine cL rfl (o_eqI rfl rfl rfl ?_)
 refine mB rfl rfl ?_
 by_cases c1 : (chM (Flt.mk [(0 : Int), (0 : Int), (0 : Int)] (0 : Int) (1 : Int) [(0 : Int)] [(0 : Int)]) (2 : Int) [(Con.mk 0 1 5 1), (Con.mk 1 0 (-4) 2), (Con.mk 1 0 (-9) 4)]).2 = (0 : Int)
 refine cLg rfl rfl (decide_eq_true c1) ?_
 refine mI rfl rfl ?_
 refine cLg rfl rfl (decide_eq_true c1) ?_
 refine cL rfl (o_eqI rfl rfl rfl ?_)
 refine cL rfl (o_pickT (v := .bool _) rfl (decide_eq_true c1) rfl ?_)
 refine mB rfl rfl ?_
 by_cases c2 : (brangeM (Flt.mk [(0 : Int), (0 : Int), (0 : Int)] (0 : Int) (1 : Int) [(0 : Int)] [(0 : Int)]) (2 : Int) [(Con.mk 0 1 5 1), (Con.mk 1 0 (-4) 2), (Con.mk 1 0 (-9) 4)] (0 : Int) (1 : Int)).2.2 = (0 : Int)
 refine cLg rfl rfl (decide_eq_true c2) ?_
 refine mI rfl rfl ?_
 refine cLg rfl rfl (decide_eq_true c2) ?_
 refine cL rfl (o_eqI rfl rfl rfl ?_)
 refine cL rfl (o_pickT (v := .bool _) rfl (decide_eq_true c2) rfl ?_)
 refine mB rfl rfl ?_
 by_cases c3 : (liM (Flt.mk [(0 : Int), (0 : Int), (0 : Int)] (0 : Int) (1 : Int) [(0 : Int)] [(0 : Int)]) (2 : Int) [(Con.mk 0 1 5 1), (Con.mk 1 0 (-4) 2), (Con.mk 1 0 (-9) 4)]).2 = (0 : Int)
 refine cLg rfl rfl (decide_eq_true c3) ?_
 refine mI rfl rfl ?_
 refine cLg rfl rfl (decide_eq_true c3) ?_
 refine cL rfl (o_eqI rfl rfl rfl ?_)
 refine cL rfl (o_pickT (v := .bool _) rfl (decide_eq_true c3) rfl ?_)
 refine mB rfl rfl ?_
 by_cases c4 : (witM (Flt.mk [(0 : Int), (0 : Int), (0 : Int)] (0 : Int) (1 : Int) [(0 : Int)] [(0 : Int)]) (2 : Int) [(Con.mk 0 1 5 1), (Con.mk 1 0 (-4) 2), (Con.mk 1 0 (-9) 4)] (0 : Int) (1 : Int) (10 : Int)).2.2 = (0 : Int)
 refine cLg rfl rfl (decide_eq_true c4) ?_
 refine mI rfl rfl ?_
 refine cLg rfl rfl (decide_eq_true c4) ?_
 refine cL rfl (o_eqI rfl rfl rfl ?_)
 refine cL rfl (o_pickT (v := .bool _) rfl (decide_eq_true c4) rfl ?_)
 refine mB rfl rfl ?_
 by_cases c5 : (chM (Flt.mk [(0 : Int), (0 : Int), (0 : Int)] (0 : Int) (1 : Int) [(0 : Int)] [(0 : Int)]) (2 : Int) ([(Con.mk 0 1 5 1), (Con.mk 1 0 (-4) 2), (Con.mk 1 0 (-9) 4)] ++ [(Con.mk 0 1 6 2)])).2 = (0 : Int)
 refine cLg rfl rfl (decide_eq_true c5) ?_
 refine mI rfl rfl ?_
 refine cLg rfl rfl (decide_eq_true c5) ?_
 refine cL rfl (o_eqI rfl rfl rfl ?_)
 refine cL rfl (o_pickT (v := .bool _) rfl (decide_eq_true c5) rfl ?_)
 refine mB rfl rfl ?_
 by_cases c6 : (brangeM (Flt.mk [(0 : Int), (0 : Int), (0 : Int)] (0 : Int) (1 : Int) [(0 : Int)] [(0 : Int)]) (2 : Int) ([(Con.mk 0 1 5 1), (Con.mk 1 0 (-4) 2), (Con.mk 1 0 (-9) 4)] ++ [(Con.mk 0 1 6 2)]) (0 : Int) (1 : Int)).2.2 = (0 : Int)
 refine cLg rfl rfl (decide_eq_true c6) ?_
 refine mI rfl rfl ?_
 refine cLg rfl rfl (decide_eq_true c6) ?_
 refine cL rfl (o_eqI rfl rfl rfl ?_)
 refine cL rfl (o_pickT (v := .bool _) rfl (decide_eq_true c6) rfl ?_)
 refine mB rfl rfl ?_
 by_cases c7 : (liM (Flt.mk [(0 : Int), (0 : Int), (0 : Int)] (0 : Int) (1 : Int) [(0 : Int)] [(0 : Int)]) (2 : Int) ([(Con.mk 0 1 5 1), (Con.mk 1 0 (-4) 2), (Con.mk 1 0 (-9) 4)] ++ [(Con.mk 0 1 6 2)])).2 = (0 : Int)
 refine cLg rfl rfl (decide_eq_true c7) ?_
 refine mI rfl rfl ?_
 refine cLg rfl rfl (decide_eq_true c7) ?_
 refine cL rfl (o_eqI rfl rfl rfl ?_)
 refine cL rfl (o_pickT (v := .bool _) rfl (decide_eq_true c7) rfl ?_)
 refine mB rfl rfl ?_
 by_cases c8 : (chM (Flt.mk [(0 : Int), (0 : Int), (0 : Int)] (0 : Int) (0 : Int) [(0 : Int)] [(0 : Int)]) (2 : Int) [(Con.mk 0 1 5 1), (Con.mk 1 0 (-4) 2), (Con.mk 1 0 (-9) 4)]).2 = (100 : Int)
 refine cLg rfl rfl (decide_eq_true c8) ?_
 refine mI rfl rfl ?_
 refine cLg rfl rfl (decide_eq_true c8) ?_
 refine cL rfl (o_eqI rfl rfl rfl ?_)
 refine cL rfl (o_pickT (v := .bool _) rfl (decide_eq_true c8) rfl ?_)
 refine aB rfl rfl ?_
 refine eL ?_
 exact le_mk ⟨rfl, rfl, rfl, rfl, rfl, rfl, rfl, rfl, rfl, rfl, rfl, (congrArg AV.bool (dAndT c1 (dAndT c2 (dAndT c3 (dAndT c4 (dAndT c5 (dAndT c6 (dAndT c7 (dAndT c8 (rfl)))))))))).symm, trivial⟩ rfl
 iterate 2 refine cLs rfl rfl rfl (decide_eq_false c8) ?_
 refine cL rfl (o_pickF (v := .bool _) rfl (decide_eq_false c8) rfl ?_)
 refine aB rfl rfl ?_
 refine eL ?_
 exact le_mk ⟨rfl, rfl, rfl, rfl, rfl, rfl, rfl, rfl, rfl, rfl, rfl, (congrArg AV.bool (dAndT c1 (dAndT c2 (dAndT c3 (dAndT c4 (dAndT c5 (dAndT c6 (dAndT c7 (dAndF c8))))))))).symm, trivial⟩ rfl
 iterate 2 refine cLs rfl rfl rfl (decide_eq_false c7) ?_
 refine cL rfl (o_pickF (v := .bool _) rfl (decide_eq_false c7) rfl ?_)
 refine mB rfl rfl ?_
 iterate 2 refine cLs rfl rfl rfl (rfl) ?_
 refine cL rfl (o_pickF (v := .bool _) rfl rfl rfl ?_)
 refine aB rfl rfl ?_
 refine eL ?_
 exact le_mk ⟨rfl, rfl, rfl, rfl, rfl, rfl, rfl, rfl, rfl, rfl, rfl, (congrArg AV.bool (dAndT c1 (dAndT c2 (dAndT c3 (dAndT c4 (dAndT c5 (dAndT c6 (dAndF c7)))))))).symm, trivial⟩ rfl
 iterate 2 refine cLs rfl rfl rfl (decide_eq_false c6) ?_
 refine cL rfl (o_pickF (v := .bool _) rfl (decide_eq_false c6) rfl ?_)
 refine mB rfl rfl ?_
 iterate 2 refine cLs rfl rfl rfl (rfl) ?_
 refine cL rfl (o_pickF (v := .bool _) rfl rfl rfl ?_)
 refine mB rfl rfl ?_
 iterate 2 refine cLs rfl rfl rfl (rfl) ?_
 refine cL rfl (o_pickF (v := .bool _) rfl rfl rfl ?_)
 refine aB rfl rfl ?_
 refine eL ?_
 exact le_mk ⟨rfl, rfl, rfl, rfl, rfl, rfl, rfl, rfl, rfl, rfl, rfl, (congrArg AV.bool (dAndT c1 (dAndT c2 (dAndT c3 (dAndT c4 (dAndT c5 (dAndF c6))))))).symm, trivial⟩ rfl
 iterate 2 refine cLs rfl rfl rfl (decide_eq_false c5) ?_
 refine cL rfl (o_pickF (v := .bool _) rfl (decide_eq_false c5) rfl ?_)
 refine mB rfl rfl ?_
 iterate 2 refine cLs rfl rfl rfl (rfl) ?_
 refine cL rfl (o_pickF (v := .bool _) rfl rfl rfl ?_)
 refine mB rfl rfl ?_
 iterate 2 refine cLs rfl rfl rfl (rfl) ?_
 refine cL rfl (o_pickF (v := .bool _) rfl rfl rfl ?_)
 refine mB rfl rfl ?_
 iterate 2 refine cLs rfl rfl rfl (rfl) ?_
 refine cL rfl (o_pickF (v := .bool _) rfl rfl rfl ?_)
 refine aB rfl rfl ?_
 refine eL ?_
 exact le_mk ⟨rfl, rfl, rfl, rfl, rfl, rfl, rfl, rfl, rfl, rfl, rfl, (congrArg AV.bool (dAndT c1 (dAndT c2 (dAndT c3 (dAndT c4 (dAndF c5)))))).symm, trivial⟩ rfl
 iterate 2 refine cLs rfl rfl rfl (decide_eq_false c4) ?_
 refine cL rfl (o_pickF (v := .bool _) rfl (decide_eq_false c4) rfl ?_)
 refine mB rfl rfl ?_
 iterate 2 refine cLs rfl rfl rfl (rfl) ?_
 refine cL rfl (o_pickF (v := .bool _) rfl rfl rfl ?_)
 refine mB rfl rfl ?_
 iterate 2 refine cLs rfl rfl rfl (rfl) ?_
 refine cL rfl (o_pickF (v := .bool _) rfl rfl rfl ?_)
 refine mB rfl rfl ?_
 iterate 2 refine cLs rfl rfl rfl (rfl) ?_
 refine cL rfl (o_pickF (v := .bool _) rfl rfl rfl ?_)
 refine mB rfl rfl ?_
 iterate 2 refine cLs rfl rfl rfl (rfl) ?_
 refine cL rfl (o_pickF (v := .bool _) rfl rfl rfl ?_)
 refine aB rfl rfl ?_
 refine eL ?_
 exact le_mk ⟨rfl, rfl, rfl, rfl, rfl, rfl, rfl, rfl, rfl, rfl, rfl, (congrArg AV.bool (dAndT c1 (dAndT c2 (dAndT c3 (dAndF c4))))).symm, trivial⟩ rfl
 iterate 2 refine cLs rfl rfl rfl (decide_eq_false c3) ?_
 refine cL rfl (o_pickF (v := .bool _) rfl (decide_eq_false c3) rfl ?_)
 refine mB rfl rfl ?_
 iterate 2 refine cLs rfl rfl rfl (rfl) ?_
 refine cL rfl (o_pickF (v := .bool _) rfl rfl rfl ?_)
 refine mB rfl rfl ?_
 iterate 2 refine cLs rfl rfl rfl (rfl) ?_
 refine cL rfl (o_pickF (v := .bool _) rfl rfl rfl ?_)
 refine mB rfl rfl ?_
 iterate 2 refine cLs rfl rfl rfl (rfl) ?_
 refine cL rfl (o_pickF (v := .bool _) rfl rfl rfl ?_)
 refine mB rfl rfl ?_
 iterate 2 refine cLs rfl rfl rfl (rfl) ?_
 refine cL rfl (o_pickF (v := .bool _) rfl rfl rfl ?_)
 refine mB rfl rfl ?_
 iterate 2 refine cLs rfl rfl rfl (rfl) ?_
 refine cL rfl (o_pickF (v := .bool _) rfl rfl rfl ?_)
 refine aB rfl rfl ?_
 refine eL ?_
 exact le_mk ⟨rfl, rfl, rfl, rfl, rfl, rfl, rfl, rfl, rfl, rfl, rfl, (congrArg AV.bool (dAndT c1 (dAndT c2 (dAndF c3)))).symm, trivial⟩ rfl
 iterate 2 refine cLs rfl rfl rfl (decide_eq_false c2) ?_
 refine cL rfl (o_pickF (v := .bool _) rfl (decide_eq_false c2) rfl ?_)
 refine mB rfl rfl ?_
 iterate 2 refine cLs rfl rfl rfl (rfl) ?_
 refine cL rfl (o_pickF (v := .bool _) rfl rfl rfl ?_)
 refine mB rfl rfl ?_
 iterate 2 refine cLs rfl rfl rfl (rfl) ?_
 refine cL rfl (o_pickF (v := .bool _) rfl rfl rfl ?_)
 refine mB rfl rfl ?_
 iterate 2 refine cLs rfl rfl rfl (rfl) ?_
 refine cL rfl (o_pickF (v := .bool _) rfl rfl rfl ?_)
 refine mB rfl rfl ?_
 iterate 2 refine cLs rfl rfl rfl (rfl) ?_
 refine cL rfl (o_pickF (v := .bool _) rfl rfl rfl ?_)
 refine mB rfl rfl ?_
 iterate 2 refine cLs rfl rfl rfl (rfl) ?_
 refine cL rfl (o_pickF (v := .bool _) rfl rfl rfl ?_)
 refine mB rfl rfl ?_
 iterate 2 refine cLs rfl rfl rfl (rfl) ?_
 refine cL rfl (o_pickF (v := .bool _) rfl rfl rfl ?_)
 refine aB rfl rfl ?_
 refine eL ?_
 exact le_mk ⟨rfl, rfl, rfl, rfl, rfl, rfl, rfl, rfl, rfl, rfl, rfl, (congrArg AV.bool (dAndT c1 (dAndF c2))).symm, trivial⟩ rfl
 iterate 2 refine cLs rfl rfl rfl (decide_eq_false c1) ?_
 refine cL rfl (o_pickF (v := .bool _) rfl (decide_eq_false c1) rfl ?_)
 refine mB rfl rfl ?_
 iterate 2 refine cLs rfl rfl rfl (rfl) ?_
 refine cL rfl (o_pickF (v := .bool _) rfl rfl rfl ?_)
 refine mB rfl rfl ?_
 iterate 2 refine cLs rfl rfl rfl (rfl) ?_
 refine cL rfl (o_pickF (v := .bool _) rfl rfl rfl ?_)
 refine mB rfl rfl ?_
 iterate 2 refine cLs rfl rfl rfl (rfl) ?_
 refine cL rfl (o_pickF (v := .bool _) rfl rfl rfl ?_)
 refine mB rfl rfl ?_
 iterate 2 refine cLs rfl rfl rfl (rfl) ?_
 refine cL rfl (o_pickF (v := .bool _) rfl rfl rfl ?_)
 refine mB rfl rfl ?_
 iterate 2 refine cLs rfl rfl rfl (rfl) ?_
 refine cL rfl (o_pickF (v := .bool _) rfl rfl rfl ?_)
 refine mB rfl rfl ?_
 iterate 2 refine cLs rfl rfl rfl (rfl) ?_
 refine cL rfl (o_pickF (v := .bool _) rfl rfl rfl ?_)
 refine mB rfl rfl ?_
 iterate 2 refine cLs rfl rfl rfl (rfl) ?_
 refine cL rfl (o_pickF (v := .bool _) rfl rfl rfl ?_)
 refine aB rfl rfl ?_
 refine eL ?_
 exact le_mk ⟨rfl, rfl, rfl, rfl, rfl, rfl, rfl, rfl, rfl, rfl, rfl, (congrArg AV.bool (dAndF c1)).symm, trivial⟩ rfl
 obtain ⟨sd, hv⟩ := hv
 refine W.rLmT ⟨185, look [(2, .ref false 4 3), (14, .lst false ((chM (Flt.mk [(0 : Int), (0 : Int), (0 : Int)] (0 : Int) (1 : Int) [(0 : Int)] [(0 : Int)]) (2 : Int) ([(Con.mk 0 1 5 1), (Con.mk 1 0 (-4) 2), (Con.mk 1 0 (-9) 4)] ++ [(Con.mk 0 1 6 2)])).1).length (encL eInt ((chM (Flt.mk [(0 : Int), (0 : Int), (0 : Int)] (0 : Int) (1 : Int) [(0 : Int)] [(0 : Int)]) (2 : Int) ([(Con.mk 0 1 5 1), (Con.mk 1 0 (-4) 2), (Con.mk 1 0 (-9) 4)] ++ [(Con.mk 0 1 6 2)])).1))), (16, .int .i64 ((brangeM (Flt.mk [(0 : Int), (0 : Int), (0 : Int)] (0 : Int) (1 : Int) [(0 : Int)] [(0 : Int)]) (2 : Int) ([(Con.mk 0 1 5 1), (Con.mk 1 0 (-4) 2), (Con.mk 1 0 (-9) 4)] ++ [(Con.mk 0 1 6 2)]) (0 : Int) (1 : Int)).1)), (17, .int .i64 ((brangeM (Flt.mk [(0 : Int), (0 : Int), (0 : Int)] (0 : Int) (1 : Int) [(0 : Int)] [(0 : Int)]) (2 : Int) ([(Con.mk 0 1 5 1), (Con.mk 1 0 (-4) 2), (Con.mk 1 0 (-9) 4)] ++ [(Con.mk 0 1 6 2)]) (0 : Int) (1 : Int)).2.1)), (19, .int .i64 ((liM (Flt.mk [(0 : Int), (0 : Int), (0 : Int)] (0 : Int) (1 : Int) [(0 : Int)] [(0 : Int)]) (2 : Int) ([(Con.mk 0 1 5 1), (Con.mk 1 0 (-4) 2), (Con.mk 1 0 (-9) 4)] ++ [(Con.mk 0 1 6 2)])).1)), (25, .bool (decide (((chM (Flt.mk [(0 : Int), (0 : Int), (0 : Int)] (0 : Int) (1 : Int) [(0 : Int)] [(0 : Int)]) (2 : Int) [(Con.mk 0 1 5 1), (Con.mk 1 0 (-4) 2), (Con.mk 1 0 (-9) 4)]).2 = (0 : Int)) ∧ (((brangeM (Flt.mk [(0 : Int), (0 : Int), (0 : Int)] (0 : Int) (1 : Int) [(0 : Int)] [(0 : Int)]) (2 : Int) [(Con.mk 0 1 5 1), (Con.mk 1 0 (-4) 2), (Con.mk 1 0 (-9) 4)] (0 : Int) (1 : Int)).2.2 = (0 : Int)) ∧ (((liM (Flt.mk [(0 : Int), (0 : Int), (0 : Int)] (0 : Int) (1 : Int) [(0 : Int)] [(0 : Int)]) (2 : Int) [(Con.mk 0 1 5 1), (Con.mk 1 0 (-4) 2), (Con.mk 1 0 (-9) 4)]).2 = (0 : Int)) ∧ (((witM (Flt.mk [(0 : Int), (0 : Int), (0 : Int)] (0 : Int) (1 : Int) [(0 : Int)] [(0 : Int)]) (2 : Int) [(Con.mk 0 1 5 1), (Con.mk 1 0 (-4) 2), (Con.mk 1 0 (-9) 4)] (0 : Int) (1 : Int) (10 : Int)).2.2 = (0 : Int)) ∧ (((chM (Flt.mk [(0 : Int), (0 : Int), (0 : Int)] (0 : Int) (1 : Int) [(0 : Int)] [(0 : Int)]) (2 : Int) ([(Con.mk 0 1 5 1), (Con.mk 1 0 (-4) 2), (Con.mk 1 0 (-9) 4)] ++ [(Con.mk 0 1 6 2)])).2 = (0 : Int)) ∧ (((brangeM (Flt.mk [(0 : Int), (0 : Int), (0 : Int)] (0 : Int) (1 : Int) [(0 : Int)] [(0 : Int)]) (2 : Int) ([(Con.mk 0 1 5 1), (Con.mk 1 0 (-4) 2), (Con.mk 1 0 (-9) 4)] ++ [(Con.mk 0 1 6 2)]) (0 : Int) (1 : Int)).2.2 = (0 : Int)) ∧ (((liM (Flt.mk [(0 : Int), (0 : Int), (0 : Int)] (0 : Int) (1 : Int) [(0 : Int)] [(0 : Int)]) (2 : Int) ([(Con.mk 0 1 5 1), (Con.mk 1 0 (-4) 2), (Con.mk 1 0 (-9) 4)] ++ [(Con.mk 0 1 6 2)])).2 = (0 : Int)) ∧ (((chM (Flt.mk [(0 : Int), (0 : Int), (0 : Int)] (0 : Int) (0 : Int) [(0 : Int)] [(0 : Int)]) (2 : Int) [(Con.mk 0 1 5 1), (Con.mk 1 0 (-4) 2), (Con.mk 1 0 (-9) 4)]).2 = (100 : Int)) ∧ ((chM (Flt.mk [] (0 : Int) (0 : Int) [] []) (2 : Int) [(Con.mk 0 1 5 1), (Con.mk 1 0 (-4) 2), (Con.mk 1 0 (-9) 4)]).2 = (2 : Int)))))))))))), (26, .bool (decide ((((chM (Flt.mk [(0 : Int), (0 : Int), (0 : Int)] (0 : Int) (1 : Int) [(0 : Int)] [(0 : Int)]) (2 : Int) [(Con.mk 0 1 5 1), (Con.mk 1 0 (-4) 2), (Con.mk 1 0 (-9) 4)]).1) = [(3 : Int), (6 : Int)]) ∧ (((brangeM (Flt.mk [(0 : Int), (0 : Int), (0 : Int)] (0 : Int) (1 : Int) [(0 : Int)] [(0 : Int)]) (2 : Int) [(Con.mk 0 1 5 1), (Con.mk 1 0 (-4) 2), (Con.mk 1 0 (-9) 4)] (0 : Int) (1 : Int)).1 = (4 : Int)) ∧ (((brangeM (Flt.mk [(0 : Int), (0 : Int), (0 : Int)] (0 : Int) (1 : Int) [(0 : Int)] [(0 : Int)]) (2 : Int) [(Con.mk 0 1 5 1), (Con.mk 1 0 (-4) 2), (Con.mk 1 0 (-9) 4)] (0 : Int) (1 : Int)).2.1 = (1152921504606846976 : Int)) ∧ (((liM (Flt.mk [(0 : Int), (0 : Int), (0 : Int)] (0 : Int) (1 : Int) [(0 : Int)] [(0 : Int)]) (2 : Int) [(Con.mk 0 1 5 1), (Con.mk 1 0 (-4) 2), (Con.mk 1 0 (-9) 4)]).1 = (0 : Int)) ∧ ((((witM (Flt.mk [(0 : Int), (0 : Int), (0 : Int)] (0 : Int) (1 : Int) [(0 : Int)] [(0 : Int)]) (2 : Int) [(Con.mk 0 1 5 1), (Con.mk 1 0 (-4) 2), (Con.mk 1 0 (-9) 4)] (0 : Int) (1 : Int) (10 : Int)).1) = [(0 : Int), (10 : Int)]) ∧ ((witM (Flt.mk [(0 : Int), (0 : Int), (0 : Int)] (0 : Int) (1 : Int) [(0 : Int)] [(0 : Int)]) (2 : Int) [(Con.mk 0 1 5 1), (Con.mk 1 0 (-4) 2), (Con.mk 1 0 (-9) 4)] (0 : Int) (1 : Int) (10 : Int)).2.1 = (6 : Int)))))))))], [.dead, .dead, .dead, .dead, .row 66 4 (encL e66 [(Con.mk 0 1 5 1), (Con.mk 1 0 (-4) 2), (Con.mk 1 0 (-9) 4)])], 0⟩ ?_ ?_
 refine mL rfl rfl ?_
 refine cL rfl (o_buildS (q := 9) (qs := [(0, .int _ _), (1, .int _ _)]) (cs := [.int _ _, .int _ _]) tt23 tt3 rfl rfl rfl rfl ?_)
 obtain ⟨s41, sd⟩ := sd
 refine cL rfl (o_callP1 (k := 17) (fst := []) (caps := []) (ys := [.lst _ _ _, .ref _ _ _]) rfl rfl (spec_ints ((chM (Flt.mk [(0 : Int), (0 : Int), (0 : Int)] (0 : Int) (1 : Int) [(0 : Int)] [(0 : Int)]) (2 : Int) [(Con.mk 0 1 5 1), (Con.mk 1 0 (-4) 2), (Con.mk 1 0 (-9) 4)]).1) [(3 : Int), (6 : Int)] s41) (Wks.cons (ag_lst _ _ _ _ _) (Wks.cons (ag_ref (fl := false) (xs := [(3 : Int), (6 : Int)]) encInt 4 _ rfl rfl) (Wks.refl _))) ?_)
 refine mB rfl rfl ?_
 by_cases c1 : ((chM (Flt.mk [(0 : Int), (0 : Int), (0 : Int)] (0 : Int) (1 : Int) [(0 : Int)] [(0 : Int)]) (2 : Int) [(Con.mk 0 1 5 1), (Con.mk 1 0 (-4) 2), (Con.mk 1 0 (-9) 4)]).1) = [(3 : Int), (6 : Int)]
 have sd := sd.1 c1
 refine cLg rfl rfl (decide_eq_true c1) ?_
 refine mI rfl rfl ?_
 refine cLg rfl rfl (decide_eq_true c1) ?_
 refine cL rfl (o_eqI rfl rfl rfl ?_)
 refine cL rfl (o_pickT (v := .bool _) rfl (decide_eq_true c1) rfl ?_)
 refine mB rfl rfl ?_
 by_cases c2 : (brangeM (Flt.mk [(0 : Int), (0 : Int), (0 : Int)] (0 : Int) (1 : Int) [(0 : Int)] [(0 : Int)]) (2 : Int) [(Con.mk 0 1 5 1), (Con.mk 1 0 (-4) 2), (Con.mk 1 0 (-9) 4)] (0 : Int) (1 : Int)).1 = (4 : Int)
 have sd := sd.1 c2
 refine cLg rfl rfl (decide_eq_true c2) ?_
 refine mI rfl rfl ?_
 refine cLg rfl rfl (decide_eq_true c2) ?_
 refine cL rfl (o_eqI rfl rfl rfl ?_)
 refine cL rfl (o_pickT (v := .bool _) rfl (decide_eq_true c2) rfl ?_)
 refine mB rfl rfl ?_
 by_cases c3 : (brangeM (Flt.mk [(0 : Int), (0 : Int), (0 : Int)] (0 : Int) (1 : Int) [(0 : Int)] [(0 : Int)]) (2 : Int) [(Con.mk 0 1 5 1), (Con.mk 1 0 (-4) 2), (Con.mk 1 0 (-9) 4)] (0 : Int) (1 : Int)).2.1 = (1152921504606846976 : Int)
 have sd := sd.1 c3
 refine cLg rfl rfl (decide_eq_true c3) ?_
 refine mI rfl rfl ?_
 refine cLg rfl rfl (decide_eq_true c3) ?_
 refine cL rfl (o_eqI rfl rfl rfl ?_)
 refine cL rfl (o_pickT (v := .bool _) rfl (decide_eq_true c3) rfl ?_)
 refine mB rfl rfl ?_
 by_cases c4 : (liM (Flt.mk [(0 : Int), (0 : Int), (0 : Int)] (0 : Int) (1 : Int) [(0 : Int)] [(0 : Int)]) (2 : Int) [(Con.mk 0 1 5 1), (Con.mk 1 0 (-4) 2), (Con.mk 1 0 (-9) 4)]).1 = (0 : Int)
 have sd := sd.1 c4
 refine cLg rfl rfl (decide_eq_true c4) ?_
 refine mL rfl rfl ?_
 refine cLg rfl rfl (decide_eq_true c4) ?_
 refine cL rfl (o_buildS (q := 10) (qs := [(0, .int _ _), (1, .int _ _)]) (cs := [.int _ _, .int _ _]) tt23 tt3 rfl rfl rfl rfl ?_)
 refine cLg rfl rfl (decide_eq_true c4) ?_
 obtain ⟨s42, sd⟩ := sd
 refine cL rfl (o_callP1 (k := 17) (fst := []) (caps := []) (ys := [.lst _ _ _, .ref _ _ _]) rfl rfl (spec_ints ((witM (Flt.mk [(0 : Int), (0 : Int), (0 : Int)] (0 : Int) (1 : Int) [(0 : Int)] [(0 : Int)]) (2 : Int) [(Con.mk 0 1 5 1), (Con.mk 1 0 (-4) 2), (Con.mk 1 0 (-9) 4)] (0 : Int) (1 : Int) (10 : Int)).1) [(0 : Int), (10 : Int)] s42) (Wks.cons (ag_lst _ _ _ _ _) (Wks.cons (ag_ref (fl := false) (xs := [(0 : Int), (10 : Int)]) encInt 4 _ rfl rfl) (Wks.refl _))) ?_)
 refine cL rfl (o_pickT (v := .bool _) rfl (decide_eq_true c4) rfl ?_)
 refine mB rfl rfl ?_
 by_cases c5 : ((witM (Flt.mk [(0 : Int), (0 : Int), (0 : Int)] (0 : Int) (1 : Int) [(0 : Int)] [(0 : Int)]) (2 : Int) [(Con.mk 0 1 5 1), (Con.mk 1 0 (-4) 2), (Con.mk 1 0 (-9) 4)] (0 : Int) (1 : Int) (10 : Int)).1) = [(0 : Int), (10 : Int)]
 refine cLg rfl rfl (decide_eq_true c5) ?_
 refine mI rfl rfl ?_
 refine cLg rfl rfl (decide_eq_true c5) ?_
 refine cL rfl (o_eqI rfl rfl rfl ?_)
 refine cL rfl (o_pickT (v := .bool _) rfl (decide_eq_true c5) rfl ?_)
 refine aB rfl rfl ?_
 refine eL ?_
 exact St.to_mk (φ := [none, none, none, none, some 4]) rfl (rfl) ⟨Ren.ref rfl (fun h => h), Ren.lst _ _ _, Ren.int _ _, Ren.int _ _, Ren.int _ _, Ren.bool _, Ren.boolE (dAndT c1 (dAndT c2 (dAndT c3 (dAndT c4 (dAndT c5 (rfl)))))), trivial⟩ ⟨rfl, rfl, rfl, rfl, .inr ⟨_, rfl, rfl, rfl, rfl, Rens.enc enc66 false [(Con.mk 0 1 5 1), (Con.mk 1 0 (-4) 2), (Con.mk 1 0 (-9) 4)]⟩, trivial⟩
 iterate 2 refine cLs rfl rfl rfl (decide_eq_false c5) ?_
 refine cL rfl (o_pickF (v := .bool _) rfl (decide_eq_false c5) rfl ?_)
 refine aB rfl rfl ?_
 refine eL ?_
 exact St.to_mk (φ := [none, none, none, none, some 4]) rfl (rfl) ⟨Ren.ref rfl (fun h => h), Ren.lst _ _ _, Ren.int _ _, Ren.int _ _, Ren.int _ _, Ren.bool _, Ren.boolE (dAndT c1 (dAndT c2 (dAndT c3 (dAndT c4 (dAndF c5))))), trivial⟩ ⟨rfl, rfl, rfl, rfl, .inr ⟨_, rfl, rfl, rfl, rfl, Rens.enc enc66 false [(Con.mk 0 1 5 1), (Con.mk 1 0 (-4) 2), (Con.mk 1 0 (-9) 4)]⟩, trivial⟩
 iterate 3 refine cLs rfl rfl rfl (decide_eq_false c4) ?_
 refine cL rfl (o_pickF (v := .bool _) rfl (decide_eq_false c4) rfl ?_)
 refine mB rfl rfl ?_
 iterate 2 refine cLs rfl rfl rfl (rfl) ?_
 refine cL rfl (o_pickF (v := .bool _) rfl rfl rfl ?_)
 refine aB rfl rfl ?_
 refine eL ?_
 exact St.to_mk (φ := [none, none, none, none, some 4]) rfl (rfl) ⟨Ren.ref rfl (fun h => h), Ren.lst _ _ _, Ren.int _ _, Ren.int _ _, Ren.int _ _, Ren.bool _, Ren.boolE (dAndT c1 (dAndT c2 (dAndT c3 (dAndF c4)))), trivial⟩ ⟨rfl, rfl, rfl, rfl, .inr ⟨_, rfl, rfl, rfl, rfl, Rens.enc enc66 false [(Con.mk 0 1 5 1), (Con.mk 1 0 (-4) 2), (Con.mk 1 0 (-9) 4)]⟩, trivial⟩
 iterate 2 refine cLs rfl rfl rfl (decide_eq_false c3) ?_
 refine cL rfl (o_pickF (v := .bool _) rfl (decide_eq_false c3) rfl ?_)
 refine mB rfl rfl ?_
 iterate 3 refine cLs rfl rfl rfl (rfl) ?_
 refine cL rfl (o_pickF (v := .bool _) rfl rfl rfl ?_)
 refine mB rfl rfl ?_
 iterate 2 refine cLs rfl rfl rfl (rfl) ?_
 refine cL rfl (o_pickF (v := .bool _) rfl rfl rfl ?_)
 refine aB rfl rfl ?_
 refine eL ?_
 exact St.to_mk (φ := [none, none, none, none, some 4]) rfl (rfl) ⟨Ren.ref rfl (fun h => h), Ren.lst _ _ _, Ren.int _ _, Ren.int _ _, Ren.int _ _, Ren.bool _, Ren.boolE (dAndT c1 (dAndT c2 (dAndF c3))), trivial⟩ ⟨rfl, rfl, rfl, rfl, .inr ⟨_, rfl, rfl, rfl, rfl, Rens.enc enc66 false [(Con.mk 0 1 5 1), (Con.mk 1 0 (-4) 2), (Con.mk 1 0 (-9) 4)]⟩, trivial⟩
 iterate 2 refine cLs rfl rfl rfl (decide_eq_false c2) ?_
 refine cL rfl (o_pickF (v := .bool _) rfl (decide_eq_false c2) rfl ?_)
 refine mB rfl rfl ?_
 iterate 2 refine cLs rfl rfl rfl (rfl) ?_
 refine cL rfl (o_pickF (v := .bool _) rfl rfl rfl ?_)
 refine mB rfl rfl ?_
 iterate 3 refine cLs rfl rfl rfl (rfl) ?_
 refine cL rfl (o_pickF (v := .bool _) rfl rfl rfl ?_)
 refine mB rfl rfl ?_
 iterate 2 refine cLs rfl rfl rfl (rfl) ?_
 refine cL rfl (o_pickF (v := .bool _) rfl rfl rfl ?_)
 refine aB rfl rfl ?_
 refine eL ?_
 exact St.to_mk (φ := [none, none, none, none, some 4]) rfl (rfl) ⟨Ren.ref rfl (fun h => h), Ren.lst _ _ _, Ren.int _ _, Ren.int _ _, Ren.int _ _, Ren.bool _, Ren.boolE (dAndT c1 (dAndF c2)), trivial⟩ ⟨rfl, rfl, rfl, rfl, .inr ⟨_, rfl, rfl, rfl, rfl, Rens.enc enc66 false [(Con.mk 0 1 5 1), (Con.mk 1 0 (-4) 2), (Con.mk 1 0 (-9) 4)]⟩, trivial⟩
 iterate 2 refine cLs rfl rfl rfl (decide_eq_false c1) ?_
 refine cL rfl (o_pickF (v := .bool _) rfl (decide_eq_false c1) rfl ?_)
 refine mB rfl rfl ?_
 iterate 2 refine cLs rfl rfl rfl (rfl) ?_
 refine cL rfl (o_pickF (v := .bool _) rfl rfl rfl ?_)
 refine mB rfl rfl ?_
 iterate 2 refine cLs rfl rfl rfl (rfl) ?_
 refine cL rfl (o_pickF (v := .bool _) rfl rfl rfl ?_)
 refine mB rfl rfl ?_
 iterate 3 refine cLs rfl rfl rfl (rfl) ?_
 refine cL rfl (o_pickF (v := .bool _) rfl rfl rfl ?_)
 refine mB rfl rfl ?_
 iterate 2 refine cLs rfl rfl rfl (rfl) ?_
 refine cL rfl (o_pickF (v := .bool _) rfl rfl rfl ?_)
 refine aB rfl rfl ?_
 refine eL ?_
 exact St.to_mk (φ := [none, none, none, none, some 4]) rfl (rfl) ⟨Ren.ref rfl (fun h => h), Ren.lst _ _ _, Ren.int _ _, Ren.int _ _, Ren.int _ _, Ren.bool _, Ren.boolE (dAndF c1), trivial⟩ ⟨rfl, rfl, rfl, rfl, .inr ⟨_, rfl, rfl, rfl, rfl, Rens.enc enc66 false [(Con.mk 0 1 5 1), (Con.mk 1 0 (-4) 2), (Con.mk 1 0 (-9) 4)]⟩, trivial⟩
 obtain ⟨sd, hv⟩ := hv
 refine W.rPmT ⟨185, look [(0, .bool (decide ((((chM (Flt.mk [(0 : Int), (0 : Int), (0 : Int)] (0 : Int) (1 : Int) [(0 : Int)] [(0 : Int)]) (2 : Int) [(Con.mk 0 1 5 1), (Con.mk 1 0 (-4) 2), (Con.mk 1 0 (-9) 4)]).2 = (0 : Int)) ∧ (((brangeM (Flt.mk [(0 : Int), (0 : Int), (0 : Int)] (0 : Int) (1 : Int) [(0 : Int)] [(0 : Int)]) (2 : Int) [(Con.mk 0 1 5 1), (Con.mk 1 0 (-4) 2), (Con.mk 1 0 (-9) 4)] (0 : Int) (1 : Int)).2.2 = (0 : Int)) ∧ (((liM (Flt.mk [(0 : Int), (0 : Int), (0 : Int)] (0 : Int) (1 : Int) [(0 : Int)] [(0 : Int)]) (2 : Int) [(Con.mk 0 1 5 1), (Con.mk 1 0 (-4) 2), (Con.mk 1 0 (-9) 4)]).2 = (0 : Int)) ∧ (((witM (Flt.mk [(0 : Int), (0 : Int), (0 : Int)] (0 : Int) (1 : Int) [(0 : Int)] [(0 : Int)]) (2 : Int) [(Con.mk 0 1 5 1), (Con.mk 1 0 (-4) 2), (Con.mk 1 0 (-9) 4)] (0 : Int) (1 : Int) (10 : Int)).2.2 = (0 : Int)) ∧ (((chM (Flt.mk [(0 : Int), (0 : Int), (0 : Int)] (0 : Int) (1 : Int) [(0 : Int)] [(0 : Int)]) (2 : Int) ([(Con.mk 0 1 5 1), (Con.mk 1 0 (-4) 2), (Con.mk 1 0 (-9) 4)] ++ [(Con.mk 0 1 6 2)])).2 = (0 : Int)) ∧ (((brangeM (Flt.mk [(0 : Int), (0 : Int), (0 : Int)] (0 : Int) (1 : Int) [(0 : Int)] [(0 : Int)]) (2 : Int) ([(Con.mk 0 1 5 1), (Con.mk 1 0 (-4) 2), (Con.mk 1 0 (-9) 4)] ++ [(Con.mk 0 1 6 2)]) (0 : Int) (1 : Int)).2.2 = (0 : Int)) ∧ (((liM (Flt.mk [(0 : Int), (0 : Int), (0 : Int)] (0 : Int) (1 : Int) [(0 : Int)] [(0 : Int)]) (2 : Int) ([(Con.mk 0 1 5 1), (Con.mk 1 0 (-4) 2), (Con.mk 1 0 (-9) 4)] ++ [(Con.mk 0 1 6 2)])).2 = (0 : Int)) ∧ (((chM (Flt.mk [(0 : Int), (0 : Int), (0 : Int)] (0 : Int) (0 : Int) [(0 : Int)] [(0 : Int)]) (2 : Int) [(Con.mk 0 1 5 1), (Con.mk 1 0 (-4) 2), (Con.mk 1 0 (-9) 4)]).2 = (100 : Int)) ∧ ((chM (Flt.mk [] (0 : Int) (0 : Int) [] []) (2 : Int) [(Con.mk 0 1 5 1), (Con.mk 1 0 (-4) 2), (Con.mk 1 0 (-9) 4)]).2 = (2 : Int)))))))))) ∧ (((((chM (Flt.mk [(0 : Int), (0 : Int), (0 : Int)] (0 : Int) (1 : Int) [(0 : Int)] [(0 : Int)]) (2 : Int) [(Con.mk 0 1 5 1), (Con.mk 1 0 (-4) 2), (Con.mk 1 0 (-9) 4)]).1) = [(3 : Int), (6 : Int)]) ∧ (((brangeM (Flt.mk [(0 : Int), (0 : Int), (0 : Int)] (0 : Int) (1 : Int) [(0 : Int)] [(0 : Int)]) (2 : Int) [(Con.mk 0 1 5 1), (Con.mk 1 0 (-4) 2), (Con.mk 1 0 (-9) 4)] (0 : Int) (1 : Int)).1 = (4 : Int)) ∧ (((brangeM (Flt.mk [(0 : Int), (0 : Int), (0 : Int)] (0 : Int) (1 : Int) [(0 : Int)] [(0 : Int)]) (2 : Int) [(Con.mk 0 1 5 1), (Con.mk 1 0 (-4) 2), (Con.mk 1 0 (-9) 4)] (0 : Int) (1 : Int)).2.1 = (1152921504606846976 : Int)) ∧ (((liM (Flt.mk [(0 : Int), (0 : Int), (0 : Int)] (0 : Int) (1 : Int) [(0 : Int)] [(0 : Int)]) (2 : Int) [(Con.mk 0 1 5 1), (Con.mk 1 0 (-4) 2), (Con.mk 1 0 (-9) 4)]).1 = (0 : Int)) ∧ ((((witM (Flt.mk [(0 : Int), (0 : Int), (0 : Int)] (0 : Int) (1 : Int) [(0 : Int)] [(0 : Int)]) (2 : Int) [(Con.mk 0 1 5 1), (Con.mk 1 0 (-4) 2), (Con.mk 1 0 (-9) 4)] (0 : Int) (1 : Int) (10 : Int)).1) = [(0 : Int), (10 : Int)]) ∧ ((witM (Flt.mk [(0 : Int), (0 : Int), (0 : Int)] (0 : Int) (1 : Int) [(0 : Int)] [(0 : Int)]) (2 : Int) [(Con.mk 0 1 5 1), (Con.mk 1 0 (-4) 2), (Con.mk 1 0 (-9) 4)] (0 : Int) (1 : Int) (10 : Int)).2.1 = (6 : Int))))))) ∧ ((((chM (Flt.mk [(0 : Int), (0 : Int), (0 : Int)] (0 : Int) (1 : Int) [(0 : Int)] [(0 : Int)]) (2 : Int) ([(Con.mk 0 1 5 1), (Con.mk 1 0 (-4) 2), (Con.mk 1 0 (-9) 4)] ++ [(Con.mk 0 1 6 2)])).1) = [(3 : Int)]) ∧ (((brangeM (Flt.mk [(0 : Int), (0 : Int), (0 : Int)] (0 : Int) (1 : Int) [(0 : Int)] [(0 : Int)]) (2 : Int) ([(Con.mk 0 1 5 1), (Con.mk 1 0 (-4) 2), (Con.mk 1 0 (-9) 4)] ++ [(Con.mk 0 1 6 2)]) (0 : Int) (1 : Int)).1 = (4 : Int)) ∧ (((brangeM (Flt.mk [(0 : Int), (0 : Int), (0 : Int)] (0 : Int) (1 : Int) [(0 : Int)] [(0 : Int)]) (2 : Int) ([(Con.mk 0 1 5 1), (Con.mk 1 0 (-4) 2), (Con.mk 1 0 (-9) 4)] ++ [(Con.mk 0 1 6 2)]) (0 : Int) (1 : Int)).2.1 = (5 : Int)) ∧ (((liM (Flt.mk [(0 : Int), (0 : Int), (0 : Int)] (0 : Int) (1 : Int) [(0 : Int)] [(0 : Int)]) (2 : Int) ([(Con.mk 0 1 5 1), (Con.mk 1 0 (-4) 2), (Con.mk 1 0 (-9) 4)] ++ [(Con.mk 0 1 6 2)])).1 = (4 : Int)) ∧ ((partM [(Con.mk 0 1 5 1), (Con.mk 1 0 (-4) 2), (Con.mk 1 0 (-9) 4)] (3 : Int)) = ([(Con.mk 0 1 5 1), (Con.mk 1 0 (-4) 2), (Con.mk 1 0 (-9) 4)].take ((2 : Int).toNat)))))))))))], [.dead], 0⟩ [0, 1, 2, 3, 4, 5, 6, 7, 8, 9, 10, 11, 12, 13, 14, 15, 16, 17, 18, 19, 20, 21, 22, 24, 25, 23, 26, 27, 28] (by decide +kernel) rfl ?_ ?_
 iterate 2 refine mB rfl rfl ?_
 by_cases c1 : ((chM (Flt.mk [(0 : Int), (0 : Int), (0 : Int)] (0 : Int) (1 : Int) [(0 : Int)] [(0 : Int)]) (2 : Int) [(Con.mk 0 1 5 1), (Con.mk 1 0 (-4) 2), (Con.mk 1 0 (-9) 4)]).2 = (0 : Int)) ∧ (((brangeM (Flt.mk [(0 : Int), (0 : Int), (0 : Int)] (0 : Int) (1 : Int) [(0 : Int)] [(0 : Int)]) (2 : Int) [(Con.mk 0 1 5 1), (Con.mk 1 0 (-4) 2), (Con.mk 1 0 (-9) 4)] (0 : Int) (1 : Int)).2.2 = (0 : Int)) ∧ (((liM (Flt.mk [(0 : Int), (0 : Int), (0 : Int)] (0 : Int) (1 : Int) [(0 : Int)] [(0 : Int)]) (2 : Int) [(Con.mk 0 1 5 1), (Con.mk 1 0 (-4) 2), (Con.mk 1 0 (-9) 4)]).2 = (0 : Int)) ∧ (((witM (Flt.mk [(0 : Int), (0 : Int), (0 : Int)] (0 : Int) (1 : Int) [(0 : Int)] [(0 : Int)]) (2 : Int) [(Con.mk 0 1 5 1), (Con.mk 1 0 (-4) 2), (Con.mk 1 0 (-9) 4)] (0 : Int) (1 : Int) (10 : Int)).2.2 = (0 : Int)) ∧ (((chM (Flt.mk [(0 : Int), (0 : Int), (0 : Int)] (0 : Int) (1 : Int) [(0 : Int)] [(0 : Int)]) (2 : Int) ([(Con.mk 0 1 5 1), (Con.mk 1 0 (-4) 2), (Con.mk 1 0 (-9) 4)] ++ [(Con.mk 0 1 6 2)])).2 = (0 : Int)) ∧ (((brangeM (Flt.mk [(0 : Int), (0 : Int), (0 : Int)] (0 : Int) (1 : Int) [(0 : Int)] [(0 : Int)]) (2 : Int) ([(Con.mk 0 1 5 1), (Con.mk 1 0 (-4) 2), (Con.mk 1 0 (-9) 4)] ++ [(Con.mk 0 1 6 2)]) (0 : Int) (1 : Int)).2.2 = (0 : Int)) ∧ (((liM (Flt.mk [(0 : Int), (0 : Int), (0 : Int)] (0 : Int) (1 : Int) [(0 : Int)] [(0 : Int)]) (2 : Int) ([(Con.mk 0 1 5 1), (Con.mk 1 0 (-4) 2), (Con.mk 1 0 (-9) 4)] ++ [(Con.mk 0 1 6 2)])).2 = (0 : Int)) ∧ (((chM (Flt.mk [(0 : Int), (0 : Int), (0 : Int)] (0 : Int) (0 : Int) [(0 : Int)] [(0 : Int)]) (2 : Int) [(Con.mk 0 1 5 1), (Con.mk 1 0 (-4) 2), (Con.mk 1 0 (-9) 4)]).2 = (100 : Int)) ∧ ((chM (Flt.mk [] (0 : Int) (0 : Int) [] []) (2 : Int) [(Con.mk 0 1 5 1), (Con.mk 1 0 (-4) 2), (Con.mk 1 0 (-9) 4)]).2 = (2 : Int)))))))))
 have sd := sd.1 c1
 refine cLg rfl rfl (decide_eq_true c1) ?_
 refine mB rfl rfl ?_
 refine cL rfl (o_pickT (v := .bool _) rfl (decide_eq_true c1) rfl ?_)
 refine mB rfl rfl ?_
 by_cases c2 : (((chM (Flt.mk [(0 : Int), (0 : Int), (0 : Int)] (0 : Int) (1 : Int) [(0 : Int)] [(0 : Int)]) (2 : Int) [(Con.mk 0 1 5 1), (Con.mk 1 0 (-4) 2), (Con.mk 1 0 (-9) 4)]).1) = [(3 : Int), (6 : Int)]) ∧ (((brangeM (Flt.mk [(0 : Int), (0 : Int), (0 : Int)] (0 : Int) (1 : Int) [(0 : Int)] [(0 : Int)]) (2 : Int) [(Con.mk 0 1 5 1), (Con.mk 1 0 (-4) 2), (Con.mk 1 0 (-9) 4)] (0 : Int) (1 : Int)).1 = (4 : Int)) ∧ (((brangeM (Flt.mk [(0 : Int), (0 : Int), (0 : Int)] (0 : Int) (1 : Int) [(0 : Int)] [(0 : Int)]) (2 : Int) [(Con.mk 0 1 5 1), (Con.mk 1 0 (-4) 2), (Con.mk 1 0 (-9) 4)] (0 : Int) (1 : Int)).2.1 = (1152921504606846976 : Int)) ∧ (((liM (Flt.mk [(0 : Int), (0 : Int), (0 : Int)] (0 : Int) (1 : Int) [(0 : Int)] [(0 : Int)]) (2 : Int) [(Con.mk 0 1 5 1), (Con.mk 1 0 (-4) 2), (Con.mk 1 0 (-9) 4)]).1 = (0 : Int)) ∧ ((((witM (Flt.mk [(0 : Int), (0 : Int), (0 : Int)] (0 : Int) (1 : Int) [(0 : Int)] [(0 : Int)]) (2 : Int) [(Con.mk 0 1 5 1), (Con.mk 1 0 (-4) 2), (Con.mk 1 0 (-9) 4)] (0 : Int) (1 : Int) (10 : Int)).1) = [(0 : Int), (10 : Int)]) ∧ ((witM (Flt.mk [(0 : Int), (0 : Int), (0 : Int)] (0 : Int) (1 : Int) [(0 : Int)] [(0 : Int)]) (2 : Int) [(Con.mk 0 1 5 1), (Con.mk 1 0 (-4) 2), (Con.mk 1 0 (-9) 4)] (0 : Int) (1 : Int) (10 : Int)).2.1 = (6 : Int))))))
 have sd := sd.1 c2
 refine cLg rfl rfl (decide_eq_true c2) ?_
 refine mL rfl rfl ?_
 refine cLg rfl rfl (decide_eq_true c2) ?_
 refine cL rfl (o_bs1 (v := .int _ _) (q := 5) tt23 tt3 rfl rfl rfl rfl rfl rfl rfl rfl ?_)
 refine cLg rfl rfl (decide_eq_true c2) ?_
 obtain ⟨s48, sd⟩ := sd
 refine cL rfl (o_callP1 (k := 17) (fst := []) (caps := []) (ys := [.lst _ _ _, .ref _ _ _]) rfl rfl (spec_ints ((chM (Flt.mk [(0 : Int), (0 : Int), (0 : Int)] (0 : Int) (1 : Int) [(0 : Int)] [(0 : Int)]) (2 : Int) ([(Con.mk 0 1 5 1), (Con.mk 1 0 (-4) 2), (Con.mk 1 0 (-9) 4)] ++ [(Con.mk 0 1 6 2)])).1) [(3 : Int)] s48) (Wks.cons (ag_lst _ _ _ _ _) (Wks.cons (ag_ref (fl := false) (xs := [(3 : Int)]) encInt 4 _ rfl rfl) (Wks.refl _))) ?_)
 refine cL rfl (o_pickT (v := .bool _) rfl (decide_eq_true c2) rfl ?_)
 refine mB rfl rfl ?_
 by_cases c3 : ((chM (Flt.mk [(0 : Int), (0 : Int), (0 : Int)] (0 : Int) (1 : Int) [(0 : Int)] [(0 : Int)]) (2 : Int) ([(Con.mk 0 1 5 1), (Con.mk 1 0 (-4) 2), (Con.mk 1 0 (-9) 4)] ++ [(Con.mk 0 1 6 2)])).1) = [(3 : Int)]
 have sd := sd.1 c3
 refine cLg rfl rfl (decide_eq_true c3) ?_
 refine mI rfl rfl ?_
 refine cLg rfl rfl (decide_eq_true c3) ?_
 refine cL rfl (o_eqI rfl rfl rfl ?_)
 refine cL rfl (o_pickT (v := .bool _) rfl (decide_eq_true c3) rfl ?_)
 refine mB rfl rfl ?_
 by_cases c4 : (brangeM (Flt.mk [(0 : Int), (0 : Int), (0 : Int)] (0 : Int) (1 : Int) [(0 : Int)] [(0 : Int)]) (2 : Int) ([(Con.mk 0 1 5 1), (Con.mk 1 0 (-4) 2), (Con.mk 1 0 (-9) 4)] ++ [(Con.mk 0 1 6 2)]) (0 : Int) (1 : Int)).1 = (4 : Int)
 have sd := sd.1 c4
 refine cLg rfl rfl (decide_eq_true c4) ?_
 refine mI rfl rfl ?_
 refine cLg rfl rfl (decide_eq_true c4) ?_
 refine cL rfl (o_eqI rfl rfl rfl ?_)
 refine cL rfl (o_pickT (v := .bool _) rfl (decide_eq_true c4) rfl ?_)
 refine mB rfl rfl ?_
 by_cases c5 : (brangeM (Flt.mk [(0 : Int), (0 : Int), (0 : Int)] (0 : Int) (1 : Int) [(0 : Int)] [(0 : Int)]) (2 : Int) ([(Con.mk 0 1 5 1), (Con.mk 1 0 (-4) 2), (Con.mk 1 0 (-9) 4)] ++ [(Con.mk 0 1 6 2)]) (0 : Int) (1 : Int)).2.1 = (5 : Int)
 have sd := sd.1 c5
 refine cLg rfl rfl (decide_eq_true c5) ?_
 refine mI rfl rfl ?_
 refine cLg rfl rfl (decide_eq_true c5) ?_
 refine cL rfl (o_eqI rfl rfl rfl ?_)
 refine cL rfl (o_pickT (v := .bool _) rfl (decide_eq_true c5) rfl ?_)
 refine mB rfl rfl ?_
 by_cases c6 : (liM (Flt.mk [(0 : Int), (0 : Int), (0 : Int)] (0 : Int) (1 : Int) [(0 : Int)] [(0 : Int)]) (2 : Int) ([(Con.mk 0 1 5 1), (Con.mk 1 0 (-4) 2), (Con.mk 1 0 (-9) 4)] ++ [(Con.mk 0 1 6 2)])).1 = (4 : Int)
 have sd := sd.1 c6
 refine cLg rfl rfl (decide_eq_true c6) ?_
 refine cL rfl (o_move (v := .ref _ _ _) rfl ?_)
 refine cLg rfl rfl (decide_eq_true c6) ?_
 refine cL rfl (o_move (v := .ref _ _ _) rfl ?_)
 refine cLg rfl rfl (decide_eq_true c6) ?_
 obtain ⟨s49, sd⟩ := sd
 refine cL rfl (o_slR tt28 tt66 rfl rfl rfl s49 (off := 0) (c := (2 : Int).toNat) (by simp) (by simp) ?_)
 refine cLg rfl rfl (decide_eq_true c6) ?_
 obtain ⟨s50, sd⟩ := sd
 refine cL rfl (o_callP1 (k := 19) (fst := []) (caps := []) (ys := [.ref _ _ _, .int _ _]) rfl rfl (spec_part [(Con.mk 0 1 5 1), (Con.mk 1 0 (-4) 2), (Con.mk 1 0 (-9) 4)] (3 : Int) s50) (Wks.cons (ag_ref (fl := false) (xs := [(Con.mk 0 1 5 1), (Con.mk 1 0 (-4) 2), (Con.mk 1 0 (-9) 4)]) enc66 4 _ rfl rfl) (Wks.cons (ag_int _ _ _ _) (Wks.refl _))) ?_)
 refine cLg rfl rfl (decide_eq_true c6) ?_
 obtain ⟨s51, s52, sd⟩ := sd
 refine cL rfl (o_callP1 (k := 18) (fst := []) (caps := []) (ys := [.lst _ _ _, .sub _ _ _]) rfl rfl (spec_csame (partM [(Con.mk 0 1 5 1), (Con.mk 1 0 (-4) 2), (Con.mk 1 0 (-9) 4)] (3 : Int)) ([(Con.mk 0 1 5 1), (Con.mk 1 0 (-4) 2), (Con.mk 1 0 (-9) 4)].take ((2 : Int).toNat)) s51) (Wks.cons (ag_lst _ _ _ _ _) (Wks.cons (ag_subR (fl := false) (xs := [(Con.mk 0 1 5 1), (Con.mk 1 0 (-4) 2), (Con.mk 1 0 (-9) 4)]) enc66 4 (k := 0) (ys := [(Con.mk 0 1 5 1), (Con.mk 1 0 (-4) 2), (Con.mk 1 0 (-9) 4)].take ((2 : Int).toNat)) rfl (by simp) (by simp) s52) (Wks.refl _))) ?_)
 refine cL rfl (o_pickT (v := .bool _) rfl (decide_eq_true c6) rfl ?_)
 refine aB rfl rfl ?_
 refine eL ?_
 exact St.to_mk (φ := [none]) rfl (rfl) ⟨Ren.boolE (dAndT c1 (dAndT c2 (dAndT c3 (dAndT c4 (dAndT c5 (dAndT c6 (rfl))))))), trivial⟩ ⟨rfl, trivial⟩
 iterate 5 refine cLs rfl rfl rfl (decide_eq_false c6) ?_
 refine cL rfl (o_pickF (v := .bool _) rfl (decide_eq_false c6) rfl ?_)
 refine aB rfl rfl ?_
 refine eL ?_
 exact St.to_mk (φ := [none]) rfl (rfl) ⟨Ren.boolE (dAndT c1 (dAndT c2 (dAndT c3 (dAndT c4 (dAndT c5 (dAndF c6)))))), trivial⟩ ⟨rfl, trivial⟩
 iterate 2 refine cLs rfl rfl rfl (decide_eq_false c5) ?_
 refine cL rfl (o_pickF (v := .bool _) rfl (decide_eq_false c5) rfl ?_)
 refine mB rfl rfl ?_
 iterate 5 refine cLs rfl rfl rfl (rfl) ?_
 refine cL rfl (o_pickF (v := .bool _) rfl rfl rfl ?_)
 refine aB rfl rfl ?_
 refine eL ?_
 exact St.to_mk (φ := [none]) rfl (rfl) ⟨Ren.boolE (dAndT c1 (dAndT c2 (dAndT c3 (dAndT c4 (dAndF c5))))), trivial⟩ ⟨rfl, trivial⟩
 iterate 2 refine cLs rfl rfl rfl (decide_eq_false c4) ?_
 refine cL rfl (o_pickF (v := .bool _) rfl (decide_eq_false c4) rfl ?_)
 refine mB rfl rfl ?_
 iterate 2 refine cLs rfl rfl rfl (rfl) ?_
 refine cL rfl (o_pickF (v := .bool _) rfl rfl rfl ?_)
 refine mB rfl rfl ?_
 iterate 5 refine cLs rfl rfl rfl (rfl) ?_
 refine cL rfl (o_pickF (v := .bool _) rfl rfl rfl ?_)
 refine aB rfl rfl ?_
 refine eL ?_
 exact St.to_mk (φ := [none]) rfl (rfl) ⟨Ren.boolE (dAndT c1 (dAndT c2 (dAndT c3 (dAndF c4)))), trivial⟩ ⟨rfl, trivial⟩
 iterate 2 refine cLs rfl rfl rfl (decide_eq_false c3) ?_
 refine cL rfl (o_pickF (v := .bool _) rfl (decide_eq_false c3) rfl ?_)
 refine mB rfl rfl ?_
 iterate 2 refine cLs rfl rfl rfl (rfl) ?_
 refine cL rfl (o_pickF (v := .bool _) rfl rfl rfl ?_)
 refine mB rfl rfl ?_
 iterate 2 refine cLs rfl rfl rfl (rfl) ?_
 refine cL rfl (o_pickF (v := .bool _) rfl rfl rfl ?_)
 refine mB rfl rfl ?_
 iterate 5 refine cLs rfl rfl rfl (rfl) ?_
 refine cL rfl (o_pickF (v := .bool _) rfl rfl rfl ?_)
 refine aB rfl rfl ?_
 refine eL ?_
 exact St.to_mk (φ := [none]) rfl (rfl) ⟨Ren.boolE (dAndT c1 (dAndT c2 (dAndF c3))), trivial⟩ ⟨rfl, trivial⟩
 iterate 3 refine cLs rfl rfl rfl (decide_eq_false c2) ?_
 refine cL rfl (o_pickF (v := .bool _) rfl (decide_eq_false c2) rfl ?_)
 refine mB rfl rfl ?_
 iterate 2 refine cLs rfl rfl rfl (rfl) ?_
 refine cL rfl (o_pickF (v := .bool _) rfl rfl rfl ?_)
 refine mB rfl rfl ?_
 iterate 2 refine cLs rfl rfl rfl (rfl) ?_
 refine cL rfl (o_pickF (v := .bool _) rfl rfl rfl ?_)
 refine mB rfl rfl ?_
 iterate 2 refine cLs rfl rfl rfl (rfl) ?_
 refine cL rfl (o_pickF (v := .bool _) rfl rfl rfl ?_)
 refine mB rfl rfl ?_
 iterate 5 refine cLs rfl rfl rfl (rfl) ?_
 refine cL rfl (o_pickF (v := .bool _) rfl rfl rfl ?_)
 refine aB rfl rfl ?_
 refine eL ?_
 exact St.to_mk (φ := [none]) rfl (rfl) ⟨Ren.boolE (dAndT c1 (dAndF c2)), trivial⟩ ⟨rfl, trivial⟩
 refine cLs rfl rfl rfl (decide_eq_false c1) ?_
 refine cL rfl (o_pickF (v := .bool _) rfl (decide_eq_false c1) rfl ?_)
 refine mB rfl rfl ?_
 iterate 3 refine cLs rfl rfl rfl (rfl) ?_
 refine cL rfl (o_pickF (v := .bool _) rfl rfl rfl ?_)
 refine mB rfl rfl ?_
 iterate 2 refine cLs rfl rfl rfl (rfl) ?_
 refine cL rfl (o_pickF (v := .bool _) rfl rfl rfl ?_)
 refine mB rfl rfl ?_
 iterate 2 refine cLs rfl rfl rfl (rfl) ?_
 refine cL rfl (o_pickF (v := .bool _) rfl rfl rfl ?_)
 refine mB rfl rfl ?_
 iterate 2 refine cLs rfl rfl rfl (rfl) ?_
 refine cL rfl (o_pickF (v := .bool _) rfl rfl rfl ?_)
 refine mB rfl rfl ?_
 iterate 5 refine cLs rfl rfl rfl (rfl) ?_
 refine cL rfl (o_pickF (v := .bool _) rfl rfl rfl ?_)
 refine aB rfl rfl ?_
 refine eL ?_
 exact St.to_mk (φ := [none]) rfl (rfl) ⟨Ren.boolE (dAndF c1), trivial⟩ ⟨rfl, trivial⟩
 refine W.ret ?_
 refine rt ?_
 refine rt_t (v := .bool _) rfl ?_
 refine rt_n ?_
 exact ⟨_, rs_bool _ _ _, (decide ((((chM (Flt.mk [(0 : Int), (0 : Int), (0 : Int)] (0 : Int) (1 : Int) [(0 : Int)] [(0 : Int)]) (2 : Int) [(Con.mk 0 1 5 1), (Con.mk 1 0 (-4) 2), (Con.mk 1 0 (-9) 4)]).2 = (0 : Int)) ∧ (((brangeM (Flt.mk [(0 : Int), (0 : Int), (0 : Int)] (0 : Int) (1 : Int) [(0 : Int)] [(0 : Int)]) (2 : Int) [(Con.mk 0 1 5 1), (Con.mk 1 0 (-4) 2), (Con.mk 1 0 (-9) 4)] (0 : Int) (1 : Int)).2.2 = (0 : Int)) ∧ (((liM (Flt.mk [(0 : Int), (0 : Int), (0 : Int)] (0 : Int) (1 : Int) [(0 : Int)] [(0 : Int)]) (2 : Int) [(Con.mk 0 1 5 1), (Con.mk 1 0 (-4) 2), (Con.mk 1 0 (-9) 4)]).2 = (0 : Int)) ∧ (((witM (Flt.mk [(0 : Int), (0 : Int), (0 : Int)] (0 : Int) (1 : Int) [(0 : Int)] [(0 : Int)]) (2 : Int) [(Con.mk 0 1 5 1), (Con.mk 1 0 (-4) 2), (Con.mk 1 0 (-9) 4)] (0 : Int) (1 : Int) (10 : Int)).2.2 = (0 : Int)) ∧ (((chM (Flt.mk [(0 : Int), (0 : Int), (0 : Int)] (0 : Int) (1 : Int) [(0 : Int)] [(0 : Int)]) (2 : Int) ([(Con.mk 0 1 5 1), (Con.mk 1 0 (-4) 2), (Con.mk 1 0 (-9) 4)] ++ [(Con.mk 0 1 6 2)])).2 = (0 : Int)) ∧ (((brangeM (Flt.mk [(0 : Int), (0 : Int), (0 : Int)] (0 : Int) (1 : Int) [(0 : Int)] [(0 : Int)]) (2 : Int) ([(Con.mk 0 1 5 1), (Con.mk 1 0 (-4) 2), (Con.mk 1 0 (-9) 4)] ++ [(Con.mk 0 1 6 2)]) (0 : Int) (1 : Int)).2.2 = (0 : Int)) ∧ (((liM (Flt.mk [(0 : Int), (0 : Int), (0 : Int)] (0 : Int) (1 : Int) [(0 : Int)] [(0 : Int)]) (2 : Int) ([(Con.mk 0 1 5 1), (Con.mk 1 0 (-4) 2), (Con.mk 1 0 (-9) 4)] ++ [(Con.mk 0 1 6 2)])).2 = (0 : Int)) ∧ (((chM (Flt.mk [(0 : Int), (0 : Int), (0 : Int)] (0 : Int) (0 : Int) [(0 : Int)] [(0 : Int)]) (2 : Int) [(Con.mk 0 1 5 1), (Con.mk 1 0 (-4) 2), (Con.mk 1 0 (-9) 4)]).2 = (100 : Int)) ∧ ((chM (Flt.mk [] (0 : Int) (0 : Int) [] []) (2 : Int) [(Con.mk 0 1 5 1), (Con.mk 1 0 (-4) 2), (Con.mk 1 0 (-9) 4)]).2 = (2 : Int)))))))))) ∧ (((((chM (Flt.mk [(0 : Int), (0 : Int), (0 : Int)] (0 : Int) (1 : Int) [(0 : Int)] [(0 : Int)]) (2 : Int) [(Con.mk 0 1 5 1), (Con.mk 1 0 (-4) 2), (Con.mk 1 0 (-9) 4)]).1) = [(3 : Int), (6 : Int)]) ∧ (((brangeM (Flt.mk [(0 : Int), (0 : Int), (0 : Int)] (0 : Int) (1 : Int) [(0 : Int)] [(0 : Int)]) (2 : Int) [(Con.mk 0 1 5 1), (Con.mk 1 0 (-4) 2), (Con.mk 1 0 (-9) 4)] (0 : Int) (1 : Int)).1 = (4 : Int)) ∧ (((brangeM (Flt.mk [(0 : Int), (0 : Int), (0 : Int)] (0 : Int) (1 : Int) [(0 : Int)] [(0 : Int)]) (2 : Int) [(Con.mk 0 1 5 1), (Con.mk 1 0 (-4) 2), (Con.mk 1 0 (-9) 4)] (0 : Int) (1 : Int)).2.1 = (1152921504606846976 : Int)) ∧ (((liM (Flt.mk [(0 : Int), (0 : Int), (0 : Int)] (0 : Int) (1 : Int) [(0 : Int)] [(0 : Int)]) (2 : Int) [(Con.mk 0 1 5 1), (Con.mk 1 0 (-4) 2), (Con.mk 1 0 (-9) 4)]).1 = (0 : Int)) ∧ ((((witM (Flt.mk [(0 : Int), (0 : Int), (0 : Int)] (0 : Int) (1 : Int) [(0 : Int)] [(0 : Int)]) (2 : Int) [(Con.mk 0 1 5 1), (Con.mk 1 0 (-4) 2), (Con.mk 1 0 (-9) 4)] (0 : Int) (1 : Int) (10 : Int)).1) = [(0 : Int), (10 : Int)]) ∧ ((witM (Flt.mk [(0 : Int), (0 : Int), (0 : Int)] (0 : Int) (1 : Int) [(0 : Int)] [(0 : Int)]) (2 : Int) [(Con.mk 0 1 5 1), (Con.mk 1 0 (-4) 2), (Con.mk 1 0 (-9) 4)] (0 : Int) (1 : Int) (10 : Int)).2.1 = (6 : Int))))))) ∧ ((((chM (Flt.mk [(0 : Int), (0 : Int), (0 : Int)] (0 : Int) (1 : Int) [(0 : Int)] [(0 : Int)]) (2 : Int) ([(Con.mk 0 1 5 1), (Con.mk 1 0 (-4) 2), (Con.mk 1 0 (-9) 4)] ++ [(Con.mk 0 1 6 2)])).1) = [(3 : Int)]) ∧ (((brangeM (Flt.mk [(0 : Int), (0 : Int), (0 : Int)] (0 : Int) (1 : Int) [(0 : Int)] [(0 : Int)]) (2 : Int) ([(Con.mk 0 1 5 1), (Con.mk 1 0 (-4) 2), (Con.mk 1 0 (-9) 4)] ++ [(Con.mk 0 1 6 2)]) (0 : Int) (1 : Int)).1 = (4 : Int)) ∧ (((brangeM (Flt.mk [(0 : Int), (0 : Int), (0 : Int)] (0 : Int) (1 : Int) [(0 : Int)] [(0 : Int)]) (2 : Int) ([(Con.mk 0 1 5 1), (Con.mk 1 0 (-4) 2), (Con.mk 1 0 (-9) 4)] ++ [(Con.mk 0 1 6 2)]) (0 : Int) (1 : Int)).2.1 = (5 : Int)) ∧ (((liM (Flt.mk [(0 : Int), (0 : Int), (0 : Int)] (0 : Int) (1 : Int) [(0 : Int)] [(0 : Int)]) (2 : Int) ([(Con.mk 0 1 5 1), (Con.mk 1 0 (-4) 2), (Con.mk 1 0 (-9) 4)] ++ [(Con.mk 0 1 6 2)])).1 = (4 : Int)) ∧ ((partM [(Con.mk 0 1 5 1), (Con.mk 1 0 (-4) 2), (Con.mk 1 0 (-9) 4)] (3 : Int)) = ([(Con.mk 0 1 5 1), (Con.mk 1 0 (-4) 2), (Con.mk 1 0 (-9) 4)].take ((2 : Int).toNat)))))))))), rfl, hv⟩
theorem vcp_bsane   : vc_bsane (fun q0 => q0 = (true)) := by
  unfold vc_bsane
  have e1 : [(Con.mk 0 1 5 1), (Con.mk 1 0 (-4) 2), (Con.mk 1 0 (-9) 4)].take (2 : Int).toNat = [(Con.mk 0 1 5 1), (Con.mk 1 0 (-4) 2)] := rfl
  have e2 : [(Con.mk 0 1 5 1), (Con.mk 1 0 (-4) 2), (Con.mk 1 0 (-9) 4)] ++ [(Con.mk 0 1 6 2)] = [(Con.mk 0 1 5 1), (Con.mk 1 0 (-4) 2), (Con.mk 1 0 (-9) 4), (Con.mk 0 1 6 2)] := rfl
  simp only [e1, e2, bs1, bs2, bs3, bs4, bs5, bs6, bs7, bs8, bs9, bs10]
  simp
theorem spec_bsane   : FnP Try.prog 10 [] (fun xR => xR = .bool (true)) :=
  (walk_bsane (vcp_bsane)).mono (by rintro _ ⟨_, rfl, rfl⟩; rfl)
end Go.Lat
