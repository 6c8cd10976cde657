/- The law latecomerlaw10.BeliefAttained returns true for every input, and each argument reads afterwards as it read before. Part 11 of 12. No condition. -/
import Derived.Test.YtoaaemmchnfilaaLatD
import Derived.Test.YtoaaemmchnfilaaLatE
import Derived.Test.YtoaaemmchnfilaaLatI
import Derived.Test.YtoaaemmchnfilaaLatJ
import Derived.Test.YtoaaemmchnfilaaLatG
import Derived.Test.YtoaaemmchnfilaaLatH
import Derived.Test.YtoaaemmchnfilaaLatF
set_option linter.unusedVariables false
set_option linter.unusedSimpArgs false
set_option linter.unnecessarySimpa false
namespace Go.Lat
open Go.RowKit Go.Proofs
attribute [local irreducible] cvalidM bvalidM choicesM partM chM liM brangeM witM pcM inM allM inSet
attribute [local irreducible] closeM rangeM pointM addBM cycleM holdsM validBM sameM madeM pickM plusM validM possM firstM tableM longerM boundsM ofM addM freeM
def vc_bAttained (c : Cas) (v : A2) (Post : Bool → Prop) : Prop :=
  (CasOk c) ∧ (inI v.y0) ∧ (1 ≤ ((mkM c).2.1)) ∧ (inI v.y1) ∧ (1 ≤ ((mkM c).2.1)) ∧ (((mkM c).1).dr.length ≤ 1073741824) ∧ (((mkM c).1).sv.length ≤ 1073741824) ∧ (((mkM c).1).tm.length ≤ 1073741824) ∧ (((mkM c).2.2.1).length ≤ 1073741824) ∧ (((mkM c).1).dr.length ≤ 1073741824) ∧ (((mkM c).1).sv.length ≤ 1073741824) ∧ (((mkM c).1).tm.length ≤ 1073741824) ∧ (((mkM c).2.2.1).length ≤ 1073741824) ∧ (((¬ (brangeM ((mkM c).1) ((mkM c).2.1) ((mkM c).2.2.1) (pickM v.y0 ((mkM c).2.1)) (pickM v.y1 ((mkM c).2.1))).2.2 = (0 : Int)) ∨ (¬ (chM ((mkM c).1) ((mkM c).2.1) ((mkM c).2.2.1)).2 = (0 : Int))) → Post false) ∧ (¬ ((¬ (brangeM ((mkM c).1) ((mkM c).2.1) ((mkM c).2.2.1) (pickM v.y0 ((mkM c).2.1)) (pickM v.y1 ((mkM c).2.1))).2.2 = (0 : Int)) ∨ (¬ (chM ((mkM c).1) ((mkM c).2.1) ((mkM c).2.2.1)).2 = (0 : Int))) → ∃ (I1 : Int → Prop) (μ1 : Int → Nat), I1 (0 : Int) ∧ ∀ (v18 : Int), I1 v18 → ((v18 < (2 : Int)) → ∃ J2 : Prop, (J2 → (inI (v18 + (1 : Int))) ∧ (I1 (v18 + (1 : Int)) ∧ μ1 (v18 + (1 : Int)) < μ1 v18)) ∧ (((0 ≤ v18 ∧ v18 < (([(brangeM ((mkM c).1) ((mkM c).2.1) ((mkM c).2.2.1) (pickM v.y0 ((mkM c).2.1)) (pickM v.y1 ((mkM c).2.1))).1, (brangeM ((mkM c).1) ((mkM c).2.1) ((mkM c).2.2.1) (pickM v.y0 ((mkM c).2.1)) (pickM v.y1 ((mkM c).2.1))).2.1].length : Nat) : Int)) ∧ (((lat [(brangeM ((mkM c).1) ((mkM c).2.1) ((mkM c).2.2.1) (pickM v.y0 ((mkM c).2.1)) (pickM v.y1 ((mkM c).2.1))).1, (brangeM ((mkM c).1) ((mkM c).2.1) ((mkM c).2.2.1) (pickM v.y0 ((mkM c).2.1)) (pickM v.y1 ((mkM c).2.1))).2.1] v18) < (-36028797018963968 : Int)) → True) ∧ (¬ ((lat [(brangeM ((mkM c).1) ((mkM c).2.1) ((mkM c).2.2.1) (pickM v.y0 ((mkM c).2.1)) (pickM v.y1 ((mkM c).2.1))).1, (brangeM ((mkM c).1) ((mkM c).2.1) ((mkM c).2.2.1) (pickM v.y0 ((mkM c).2.1)) (pickM v.y1 ((mkM c).2.1))).2.1] v18) < (-36028797018963968 : Int)) → (0 ≤ v18 ∧ v18 < (([(brangeM ((mkM c).1) ((mkM c).2.1) ((mkM c).2.2.1) (pickM v.y0 ((mkM c).2.1)) (pickM v.y1 ((mkM c).2.1))).1, (brangeM ((mkM c).1) ((mkM c).2.1) ((mkM c).2.2.1) (pickM v.y0 ((mkM c).2.1)) (pickM v.y1 ((mkM c).2.1))).2.1].length : Nat) : Int)) ∧ True)) ∧ (((((lat [(brangeM ((mkM c).1) ((mkM c).2.1) ((mkM c).2.2.1) (pickM v.y0 ((mkM c).2.1)) (pickM v.y1 ((mkM c).2.1))).1, (brangeM ((mkM c).1) ((mkM c).2.1) ((mkM c).2.2.1) (pickM v.y0 ((mkM c).2.1)) (pickM v.y1 ((mkM c).2.1))).2.1] v18) < (-36028797018963968 : Int)) ∨ ((36028797018963968 : Int) < (lat [(brangeM ((mkM c).1) ((mkM c).2.1) ((mkM c).2.2.1) (pickM v.y0 ((mkM c).2.1)) (pickM v.y1 ((mkM c).2.1))).1, (brangeM ((mkM c).1) ((mkM c).2.1) ((mkM c).2.2.1) (pickM v.y0 ((mkM c).2.1)) (pickM v.y1 ((mkM c).2.1))).2.1] v18))) → J2) ∧ (¬ (((lat [(brangeM ((mkM c).1) ((mkM c).2.1) ((mkM c).2.2.1) (pickM v.y0 ((mkM c).2.1)) (pickM v.y1 ((mkM c).2.1))).1, (brangeM ((mkM c).1) ((mkM c).2.1) ((mkM c).2.2.1) (pickM v.y0 ((mkM c).2.1)) (pickM v.y1 ((mkM c).2.1))).2.1] v18) < (-36028797018963968 : Int)) ∨ ((36028797018963968 : Int) < (lat [(brangeM ((mkM c).1) ((mkM c).2.1) ((mkM c).2.2.1) (pickM v.y0 ((mkM c).2.1)) (pickM v.y1 ((mkM c).2.1))).1, (brangeM ((mkM c).1) ((mkM c).2.1) ((mkM c).2.2.1) (pickM v.y0 ((mkM c).2.1)) (pickM v.y1 ((mkM c).2.1))).2.1] v18))) → (0 ≤ v18 ∧ v18 < (([(brangeM ((mkM c).1) ((mkM c).2.1) ((mkM c).2.2.1) (pickM v.y0 ((mkM c).2.1)) (pickM v.y1 ((mkM c).2.1))).1, (brangeM ((mkM c).1) ((mkM c).2.1) ((mkM c).2.2.1) (pickM v.y0 ((mkM c).2.1)) (pickM v.y1 ((mkM c).2.1))).2.1].length : Nat) : Int)) ∧ (((mkM c).1).dr.length ≤ 1073741824) ∧ (((mkM c).1).sv.length ≤ 1073741824) ∧ (((mkM c).1).tm.length ≤ 1073741824) ∧ (((mkM c).2.2.1).length ≤ 1073741824) ∧ ∃ (I3 : Bool → Int → Prop) (μ3 : Bool → Int → Nat), I3 false (0 : Int) ∧ ∀ (v22 : Bool) (v23 : Int), I3 v22 v23 → ((v23 < ((((chM ((mkM c).1) ((mkM c).2.1) ((mkM c).2.2.1)).1).length : Nat) : Int)) → (((v22 = true) → True) ∧ (¬ (v22 = true) → (0 ≤ v23 ∧ v23 < (((chM ((mkM c).1) ((mkM c).2.1) ((mkM c).2.2.1)).1).length : Int)) ∧ True)) ∧ ((inI (v23 + (1 : Int))) ∧ (I3 (decide ((v22 = true) ∨ (lat ((chM ((mkM c).1) ((mkM c).2.1) ((mkM c).2.2.1)).1) v23 = (witM ((mkM c).1) ((mkM c).2.1) ((mkM c).2.2.1) (pickM v.y0 ((mkM c).2.1)) (pickM v.y1 ((mkM c).2.1)) (lat [(brangeM ((mkM c).1) ((mkM c).2.1) ((mkM c).2.2.1) (pickM v.y0 ((mkM c).2.1)) (pickM v.y1 ((mkM c).2.1))).1, (brangeM ((mkM c).1) ((mkM c).2.1) ((mkM c).2.2.1) (pickM v.y0 ((mkM c).2.1)) (pickM v.y1 ((mkM c).2.1))).2.1] v18)).2.1))) (v23 + (1 : Int)) ∧ μ3 (decide ((v22 = true) ∨ (lat ((chM ((mkM c).1) ((mkM c).2.1) ((mkM c).2.2.1)).1) v23 = (witM ((mkM c).1) ((mkM c).2.1) ((mkM c).2.2.1) (pickM v.y0 ((mkM c).2.1)) (pickM v.y1 ((mkM c).2.1)) (lat [(brangeM ((mkM c).1) ((mkM c).2.1) ((mkM c).2.2.1) (pickM v.y0 ((mkM c).2.1)) (pickM v.y1 ((mkM c).2.1))).1, (brangeM ((mkM c).1) ((mkM c).2.1) ((mkM c).2.2.1) (pickM v.y0 ((mkM c).2.1)) (pickM v.y1 ((mkM c).2.1))).2.1] v18)).2.1))) (v23 + (1 : Int)) < μ3 v22 v23))) ∧ (¬ (v23 < ((((chM ((mkM c).1) ((mkM c).2.1) ((mkM c).2.2.1)).1).length : Nat) : Int)) → (((¬ (witM ((mkM c).1) ((mkM c).2.1) ((mkM c).2.2.1) (pickM v.y0 ((mkM c).2.1)) (pickM v.y1 ((mkM c).2.1)) (lat [(brangeM ((mkM c).1) ((mkM c).2.1) ((mkM c).2.2.1) (pickM v.y0 ((mkM c).2.1)) (pickM v.y1 ((mkM c).2.1))).1, (brangeM ((mkM c).1) ((mkM c).2.1) ((mkM c).2.2.1) (pickM v.y0 ((mkM c).2.1)) (pickM v.y1 ((mkM c).2.1))).2.1] v18)).2.2 = (0 : Int)) → True) ∧ (¬ (¬ (witM ((mkM c).1) ((mkM c).2.1) ((mkM c).2.2.1) (pickM v.y0 ((mkM c).2.1)) (pickM v.y1 ((mkM c).2.1)) (lat [(brangeM ((mkM c).1) ((mkM c).2.1) ((mkM c).2.2.1) (pickM v.y0 ((mkM c).2.1)) (pickM v.y1 ((mkM c).2.1))).1, (brangeM ((mkM c).1) ((mkM c).2.1) ((mkM c).2.2.1) (pickM v.y0 ((mkM c).2.1)) (pickM v.y1 ((mkM c).2.1))).2.1] v18)).2.2 = (0 : Int)) → ((¬ (v22 = true)) → True) ∧ (¬ (¬ (v22 = true)) → ((¬ ((((witM ((mkM c).1) ((mkM c).2.1) ((mkM c).2.2.1) (pickM v.y0 ((mkM c).2.1)) (pickM v.y1 ((mkM c).2.1)) (lat [(brangeM ((mkM c).1) ((mkM c).2.1) ((mkM c).2.2.1) (pickM v.y0 ((mkM c).2.1)) (pickM v.y1 ((mkM c).2.1))).1, (brangeM ((mkM c).1) ((mkM c).2.1) ((mkM c).2.2.1) (pickM v.y0 ((mkM c).2.1)) (pickM v.y1 ((mkM c).2.1))).2.1] v18)).1).length : Nat) : Int) = (mkM c).2.1) → True) ∧ (¬ (¬ ((((witM ((mkM c).1) ((mkM c).2.1) ((mkM c).2.2.1) (pickM v.y0 ((mkM c).2.1)) (pickM v.y1 ((mkM c).2.1)) (lat [(brangeM ((mkM c).1) ((mkM c).2.1) ((mkM c).2.2.1) (pickM v.y0 ((mkM c).2.1)) (pickM v.y1 ((mkM c).2.1))).1, (brangeM ((mkM c).1) ((mkM c).2.1) ((mkM c).2.2.1) (pickM v.y0 ((mkM c).2.1)) (pickM v.y1 ((mkM c).2.1))).2.1] v18)).1).length : Nat) : Int) = (mkM c).2.1) → (0 ≤ (pickM v.y1 ((mkM c).2.1)) ∧ (pickM v.y1 ((mkM c).2.1)) < (((witM ((mkM c).1) ((mkM c).2.1) ((mkM c).2.2.1) (pickM v.y0 ((mkM c).2.1)) (pickM v.y1 ((mkM c).2.1)) (lat [(brangeM ((mkM c).1) ((mkM c).2.1) ((mkM c).2.2.1) (pickM v.y0 ((mkM c).2.1)) (pickM v.y1 ((mkM c).2.1))).1, (brangeM ((mkM c).1) ((mkM c).2.1) ((mkM c).2.2.1) (pickM v.y0 ((mkM c).2.1)) (pickM v.y1 ((mkM c).2.1))).2.1] v18)).1).length : Int)) ∧ (0 ≤ (pickM v.y0 ((mkM c).2.1)) ∧ (pickM v.y0 ((mkM c).2.1)) < (((witM ((mkM c).1) ((mkM c).2.1) ((mkM c).2.2.1) (pickM v.y0 ((mkM c).2.1)) (pickM v.y1 ((mkM c).2.1)) (lat [(brangeM ((mkM c).1) ((mkM c).2.1) ((mkM c).2.2.1) (pickM v.y0 ((mkM c).2.1)) (pickM v.y1 ((mkM c).2.1))).1, (brangeM ((mkM c).1) ((mkM c).2.1) ((mkM c).2.2.1) (pickM v.y0 ((mkM c).2.1)) (pickM v.y1 ((mkM c).2.1))).2.1] v18)).1).length : Int)) ∧ (inI ((lat ((witM ((mkM c).1) ((mkM c).2.1) ((mkM c).2.2.1) (pickM v.y0 ((mkM c).2.1)) (pickM v.y1 ((mkM c).2.1)) (lat [(brangeM ((mkM c).1) ((mkM c).2.1) ((mkM c).2.2.1) (pickM v.y0 ((mkM c).2.1)) (pickM v.y1 ((mkM c).2.1))).1, (brangeM ((mkM c).1) ((mkM c).2.1) ((mkM c).2.2.1) (pickM v.y0 ((mkM c).2.1)) (pickM v.y1 ((mkM c).2.1))).2.1] v18)).1) (pickM v.y1 ((mkM c).2.1))) - (lat ((witM ((mkM c).1) ((mkM c).2.1) ((mkM c).2.2.1) (pickM v.y0 ((mkM c).2.1)) (pickM v.y1 ((mkM c).2.1)) (lat [(brangeM ((mkM c).1) ((mkM c).2.1) ((mkM c).2.2.1) (pickM v.y0 ((mkM c).2.1)) (pickM v.y1 ((mkM c).2.1))).1, (brangeM ((mkM c).1) ((mkM c).2.1) ((mkM c).2.2.1) (pickM v.y0 ((mkM c).2.1)) (pickM v.y1 ((mkM c).2.1))).2.1] v18)).1) (pickM v.y0 ((mkM c).2.1))))) ∧ (0 ≤ v18 ∧ v18 < (([(brangeM ((mkM c).1) ((mkM c).2.1) ((mkM c).2.2.1) (pickM v.y0 ((mkM c).2.1)) (pickM v.y1 ((mkM c).2.1))).1, (brangeM ((mkM c).1) ((mkM c).2.1) ((mkM c).2.2.1) (pickM v.y0 ((mkM c).2.1)) (pickM v.y1 ((mkM c).2.1))).2.1].length : Nat) : Int)) ∧ ((¬ ((lat ((witM ((mkM c).1) ((mkM c).2.1) ((mkM c).2.2.1) (pickM v.y0 ((mkM c).2.1)) (pickM v.y1 ((mkM c).2.1)) (lat [(brangeM ((mkM c).1) ((mkM c).2.1) ((mkM c).2.2.1) (pickM v.y0 ((mkM c).2.1)) (pickM v.y1 ((mkM c).2.1))).1, (brangeM ((mkM c).1) ((mkM c).2.1) ((mkM c).2.2.1) (pickM v.y0 ((mkM c).2.1)) (pickM v.y1 ((mkM c).2.1))).2.1] v18)).1) (pickM v.y1 ((mkM c).2.1))) - (lat ((witM ((mkM c).1) ((mkM c).2.1) ((mkM c).2.2.1) (pickM v.y0 ((mkM c).2.1)) (pickM v.y1 ((mkM c).2.1)) (lat [(brangeM ((mkM c).1) ((mkM c).2.1) ((mkM c).2.2.1) (pickM v.y0 ((mkM c).2.1)) (pickM v.y1 ((mkM c).2.1))).1, (brangeM ((mkM c).1) ((mkM c).2.1) ((mkM c).2.2.1) (pickM v.y0 ((mkM c).2.1)) (pickM v.y1 ((mkM c).2.1))).2.1] v18)).1) (pickM v.y0 ((mkM c).2.1)))) = lat [(brangeM ((mkM c).1) ((mkM c).2.1) ((mkM c).2.2.1) (pickM v.y0 ((mkM c).2.1)) (pickM v.y1 ((mkM c).2.1))).1, (brangeM ((mkM c).1) ((mkM c).2.1) ((mkM c).2.2.1) (pickM v.y0 ((mkM c).2.1)) (pickM v.y1 ((mkM c).2.1))).2.1] v18) → True) ∧ (¬ (¬ ((lat ((witM ((mkM c).1) ((mkM c).2.1) ((mkM c).2.2.1) (pickM v.y0 ((mkM c).2.1)) (pickM v.y1 ((mkM c).2.1)) (lat [(brangeM ((mkM c).1) ((mkM c).2.1) ((mkM c).2.2.1) (pickM v.y0 ((mkM c).2.1)) (pickM v.y1 ((mkM c).2.1))).1, (brangeM ((mkM c).1) ((mkM c).2.1) ((mkM c).2.2.1) (pickM v.y0 ((mkM c).2.1)) (pickM v.y1 ((mkM c).2.1))).2.1] v18)).1) (pickM v.y1 ((mkM c).2.1))) - (lat ((witM ((mkM c).1) ((mkM c).2.1) ((mkM c).2.2.1) (pickM v.y0 ((mkM c).2.1)) (pickM v.y1 ((mkM c).2.1)) (lat [(brangeM ((mkM c).1) ((mkM c).2.1) ((mkM c).2.2.1) (pickM v.y0 ((mkM c).2.1)) (pickM v.y1 ((mkM c).2.1))).1, (brangeM ((mkM c).1) ((mkM c).2.1) ((mkM c).2.2.1) (pickM v.y0 ((mkM c).2.1)) (pickM v.y1 ((mkM c).2.1))).2.1] v18)).1) (pickM v.y0 ((mkM c).2.1)))) = lat [(brangeM ((mkM c).1) ((mkM c).2.1) ((mkM c).2.2.1) (pickM v.y0 ((mkM c).2.1)) (pickM v.y1 ((mkM c).2.1))).1, (brangeM ((mkM c).1) ((mkM c).2.1) ((mkM c).2.2.1) (pickM v.y0 ((mkM c).2.1)) (pickM v.y1 ((mkM c).2.1))).2.1] v18) → (((mkM c).2.2.1).length ≤ 1073741824) ∧ ((partM ((mkM c).2.2.1) ((witM ((mkM c).1) ((mkM c).2.1) ((mkM c).2.2.1) (pickM v.y0 ((mkM c).2.1)) (pickM v.y1 ((mkM c).2.1)) (lat [(brangeM ((mkM c).1) ((mkM c).2.1) ((mkM c).2.2.1) (pickM v.y0 ((mkM c).2.1)) (pickM v.y1 ((mkM c).2.1))).1, (brangeM ((mkM c).1) ((mkM c).2.1) ((mkM c).2.2.1) (pickM v.y0 ((mkM c).2.1)) (pickM v.y1 ((mkM c).2.1))).2.1] v18)).2.1)).length ≤ 1073741824) ∧ (((witM ((mkM c).1) ((mkM c).2.1) ((mkM c).2.2.1) (pickM v.y0 ((mkM c).2.1)) (pickM v.y1 ((mkM c).2.1)) (lat [(brangeM ((mkM c).1) ((mkM c).2.1) ((mkM c).2.2.1) (pickM v.y0 ((mkM c).2.1)) (pickM v.y1 ((mkM c).2.1))).1, (brangeM ((mkM c).1) ((mkM c).2.1) ((mkM c).2.2.1) (pickM v.y0 ((mkM c).2.1)) (pickM v.y1 ((mkM c).2.1))).2.1] v18)).1).length ≤ 1073741824) ∧ True))))) ∧ ((((¬ (witM ((mkM c).1) ((mkM c).2.1) ((mkM c).2.2.1) (pickM v.y0 ((mkM c).2.1)) (pickM v.y1 ((mkM c).2.1)) (lat [(brangeM ((mkM c).1) ((mkM c).2.1) ((mkM c).2.2.1) (pickM v.y0 ((mkM c).2.1)) (pickM v.y1 ((mkM c).2.1))).1, (brangeM ((mkM c).1) ((mkM c).2.1) ((mkM c).2.2.1) (pickM v.y0 ((mkM c).2.1)) (pickM v.y1 ((mkM c).2.1))).2.1] v18)).2.2 = (0 : Int)) ∨ ((¬ (v22 = true)) ∨ ((¬ ((((witM ((mkM c).1) ((mkM c).2.1) ((mkM c).2.2.1) (pickM v.y0 ((mkM c).2.1)) (pickM v.y1 ((mkM c).2.1)) (lat [(brangeM ((mkM c).1) ((mkM c).2.1) ((mkM c).2.2.1) (pickM v.y0 ((mkM c).2.1)) (pickM v.y1 ((mkM c).2.1))).1, (brangeM ((mkM c).1) ((mkM c).2.1) ((mkM c).2.2.1) (pickM v.y0 ((mkM c).2.1)) (pickM v.y1 ((mkM c).2.1))).2.1] v18)).1).length : Nat) : Int) = (mkM c).2.1) ∨ ((¬ ((lat ((witM ((mkM c).1) ((mkM c).2.1) ((mkM c).2.2.1) (pickM v.y0 ((mkM c).2.1)) (pickM v.y1 ((mkM c).2.1)) (lat [(brangeM ((mkM c).1) ((mkM c).2.1) ((mkM c).2.2.1) (pickM v.y0 ((mkM c).2.1)) (pickM v.y1 ((mkM c).2.1))).1, (brangeM ((mkM c).1) ((mkM c).2.1) ((mkM c).2.2.1) (pickM v.y0 ((mkM c).2.1)) (pickM v.y1 ((mkM c).2.1))).2.1] v18)).1) (pickM v.y1 ((mkM c).2.1))) - (lat ((witM ((mkM c).1) ((mkM c).2.1) ((mkM c).2.2.1) (pickM v.y0 ((mkM c).2.1)) (pickM v.y1 ((mkM c).2.1)) (lat [(brangeM ((mkM c).1) ((mkM c).2.1) ((mkM c).2.2.1) (pickM v.y0 ((mkM c).2.1)) (pickM v.y1 ((mkM c).2.1))).1, (brangeM ((mkM c).1) ((mkM c).2.1) ((mkM c).2.2.1) (pickM v.y0 ((mkM c).2.1)) (pickM v.y1 ((mkM c).2.1))).2.1] v18)).1) (pickM v.y0 ((mkM c).2.1)))) = lat [(brangeM ((mkM c).1) ((mkM c).2.1) ((mkM c).2.2.1) (pickM v.y0 ((mkM c).2.1)) (pickM v.y1 ((mkM c).2.1))).1, (brangeM ((mkM c).1) ((mkM c).2.1) ((mkM c).2.2.1) (pickM v.y0 ((mkM c).2.1)) (pickM v.y1 ((mkM c).2.1))).2.1] v18) ∨ (¬ ((holdsM (partM ((mkM c).2.2.1) ((witM ((mkM c).1) ((mkM c).2.1) ((mkM c).2.2.1) (pickM v.y0 ((mkM c).2.1)) (pickM v.y1 ((mkM c).2.1)) (lat [(brangeM ((mkM c).1) ((mkM c).2.1) ((mkM c).2.2.1) (pickM v.y0 ((mkM c).2.1)) (pickM v.y1 ((mkM c).2.1))).1, (brangeM ((mkM c).1) ((mkM c).2.1) ((mkM c).2.2.1) (pickM v.y0 ((mkM c).2.1)) (pickM v.y1 ((mkM c).2.1))).2.1] v18)).2.1)) ((witM ((mkM c).1) ((mkM c).2.1) ((mkM c).2.2.1) (pickM v.y0 ((mkM c).2.1)) (pickM v.y1 ((mkM c).2.1)) (lat [(brangeM ((mkM c).1) ((mkM c).2.1) ((mkM c).2.2.1) (pickM v.y0 ((mkM c).2.1)) (pickM v.y1 ((mkM c).2.1))).1, (brangeM ((mkM c).1) ((mkM c).2.1) ((mkM c).2.2.1) (pickM v.y0 ((mkM c).2.1)) (pickM v.y1 ((mkM c).2.1))).2.1] v18)).1)) = true)))))) → Post false) ∧ (¬ ((¬ (witM ((mkM c).1) ((mkM c).2.1) ((mkM c).2.2.1) (pickM v.y0 ((mkM c).2.1)) (pickM v.y1 ((mkM c).2.1)) (lat [(brangeM ((mkM c).1) ((mkM c).2.1) ((mkM c).2.2.1) (pickM v.y0 ((mkM c).2.1)) (pickM v.y1 ((mkM c).2.1))).1, (brangeM ((mkM c).1) ((mkM c).2.1) ((mkM c).2.2.1) (pickM v.y0 ((mkM c).2.1)) (pickM v.y1 ((mkM c).2.1))).2.1] v18)).2.2 = (0 : Int)) ∨ ((¬ (v22 = true)) ∨ ((¬ ((((witM ((mkM c).1) ((mkM c).2.1) ((mkM c).2.2.1) (pickM v.y0 ((mkM c).2.1)) (pickM v.y1 ((mkM c).2.1)) (lat [(brangeM ((mkM c).1) ((mkM c).2.1) ((mkM c).2.2.1) (pickM v.y0 ((mkM c).2.1)) (pickM v.y1 ((mkM c).2.1))).1, (brangeM ((mkM c).1) ((mkM c).2.1) ((mkM c).2.2.1) (pickM v.y0 ((mkM c).2.1)) (pickM v.y1 ((mkM c).2.1))).2.1] v18)).1).length : Nat) : Int) = (mkM c).2.1) ∨ ((¬ ((lat ((witM ((mkM c).1) ((mkM c).2.1) ((mkM c).2.2.1) (pickM v.y0 ((mkM c).2.1)) (pickM v.y1 ((mkM c).2.1)) (lat [(brangeM ((mkM c).1) ((mkM c).2.1) ((mkM c).2.2.1) (pickM v.y0 ((mkM c).2.1)) (pickM v.y1 ((mkM c).2.1))).1, (brangeM ((mkM c).1) ((mkM c).2.1) ((mkM c).2.2.1) (pickM v.y0 ((mkM c).2.1)) (pickM v.y1 ((mkM c).2.1))).2.1] v18)).1) (pickM v.y1 ((mkM c).2.1))) - (lat ((witM ((mkM c).1) ((mkM c).2.1) ((mkM c).2.2.1) (pickM v.y0 ((mkM c).2.1)) (pickM v.y1 ((mkM c).2.1)) (lat [(brangeM ((mkM c).1) ((mkM c).2.1) ((mkM c).2.2.1) (pickM v.y0 ((mkM c).2.1)) (pickM v.y1 ((mkM c).2.1))).1, (brangeM ((mkM c).1) ((mkM c).2.1) ((mkM c).2.2.1) (pickM v.y0 ((mkM c).2.1)) (pickM v.y1 ((mkM c).2.1))).2.1] v18)).1) (pickM v.y0 ((mkM c).2.1)))) = lat [(brangeM ((mkM c).1) ((mkM c).2.1) ((mkM c).2.2.1) (pickM v.y0 ((mkM c).2.1)) (pickM v.y1 ((mkM c).2.1))).1, (brangeM ((mkM c).1) ((mkM c).2.1) ((mkM c).2.2.1) (pickM v.y0 ((mkM c).2.1)) (pickM v.y1 ((mkM c).2.1))).2.1] v18) ∨ (¬ ((holdsM (partM ((mkM c).2.2.1) ((witM ((mkM c).1) ((mkM c).2.1) ((mkM c).2.2.1) (pickM v.y0 ((mkM c).2.1)) (pickM v.y1 ((mkM c).2.1)) (lat [(brangeM ((mkM c).1) ((mkM c).2.1) ((mkM c).2.2.1) (pickM v.y0 ((mkM c).2.1)) (pickM v.y1 ((mkM c).2.1))).1, (brangeM ((mkM c).1) ((mkM c).2.1) ((mkM c).2.2.1) (pickM v.y0 ((mkM c).2.1)) (pickM v.y1 ((mkM c).2.1))).2.1] v18)).2.1)) ((witM ((mkM c).1) ((mkM c).2.1) ((mkM c).2.2.1) (pickM v.y0 ((mkM c).2.1)) (pickM v.y1 ((mkM c).2.1)) (lat [(brangeM ((mkM c).1) ((mkM c).2.1) ((mkM c).2.2.1) (pickM v.y0 ((mkM c).2.1)) (pickM v.y1 ((mkM c).2.1))).1, (brangeM ((mkM c).1) ((mkM c).2.1) ((mkM c).2.2.1) (pickM v.y0 ((mkM c).2.1)) (pickM v.y1 ((mkM c).2.1))).2.1] v18)).1)) = true)))))) → J2))))))) ∧ (¬ (v18 < (2 : Int)) → ∃ (I4 : Int → Prop) (μ4 : Int → Nat), I4 (0 : Int) ∧ ∀ (v24 : Int), I4 v24 → ((v24 < ((((chM ((mkM c).1) ((mkM c).2.1) ((mkM c).2.2.1)).1).length : Nat) : Int)) → (0 ≤ v24 ∧ v24 < (((chM ((mkM c).1) ((mkM c).2.1) ((mkM c).2.2.1)).1).length : Int)) ∧ (((mkM c).2.2.1).length ≤ 1073741824) ∧ ((partM ((mkM c).2.2.1) (lat ((chM ((mkM c).1) ((mkM c).2.1) ((mkM c).2.2.1)).1) v24)).length ≤ 1073741824) ∧ (((closeM ((mkM c).2.1) (partM ((mkM c).2.2.1) (lat ((chM ((mkM c).1) ((mkM c).2.1) ((mkM c).2.2.1)).1) v24))).1).most.length ≤ 1073741824) ∧ (∀ r ∈ ((closeM ((mkM c).2.1) (partM ((mkM c).2.2.1) (lat ((chM ((mkM c).1) ((mkM c).2.1) ((mkM c).2.2.1)).1) v24))).1).most, r.length ≤ 1073741824) ∧ (((¬ (closeM ((mkM c).2.1) (partM ((mkM c).2.2.1) (lat ((chM ((mkM c).1) ((mkM c).2.1) ((mkM c).2.2.1)).1) v24))).2.2 = (0 : Int)) ∨ ((¬ (rangeM ((closeM ((mkM c).2.1) (partM ((mkM c).2.2.1) (lat ((chM ((mkM c).1) ((mkM c).2.1) ((mkM c).2.2.1)).1) v24))).1) (pickM v.y0 ((mkM c).2.1)) (pickM v.y1 ((mkM c).2.1))).2.2 = (0 : Int)) ∨ ((((rangeM ((closeM ((mkM c).2.1) (partM ((mkM c).2.2.1) (lat ((chM ((mkM c).1) ((mkM c).2.1) ((mkM c).2.2.1)).1) v24))).1) (pickM v.y0 ((mkM c).2.1)) (pickM v.y1 ((mkM c).2.1))).1) < ((brangeM ((mkM c).1) ((mkM c).2.1) ((mkM c).2.2.1) (pickM v.y0 ((mkM c).2.1)) (pickM v.y1 ((mkM c).2.1))).1)) ∨ (((brangeM ((mkM c).1) ((mkM c).2.1) ((mkM c).2.2.1) (pickM v.y0 ((mkM c).2.1)) (pickM v.y1 ((mkM c).2.1))).2.1) < ((rangeM ((closeM ((mkM c).2.1) (partM ((mkM c).2.2.1) (lat ((chM ((mkM c).1) ((mkM c).2.1) ((mkM c).2.2.1)).1) v24))).1) (pickM v.y0 ((mkM c).2.1)) (pickM v.y1 ((mkM c).2.1))).2.1))))) → Post false) ∧ (¬ ((¬ (closeM ((mkM c).2.1) (partM ((mkM c).2.2.1) (lat ((chM ((mkM c).1) ((mkM c).2.1) ((mkM c).2.2.1)).1) v24))).2.2 = (0 : Int)) ∨ ((¬ (rangeM ((closeM ((mkM c).2.1) (partM ((mkM c).2.2.1) (lat ((chM ((mkM c).1) ((mkM c).2.1) ((mkM c).2.2.1)).1) v24))).1) (pickM v.y0 ((mkM c).2.1)) (pickM v.y1 ((mkM c).2.1))).2.2 = (0 : Int)) ∨ ((((rangeM ((closeM ((mkM c).2.1) (partM ((mkM c).2.2.1) (lat ((chM ((mkM c).1) ((mkM c).2.1) ((mkM c).2.2.1)).1) v24))).1) (pickM v.y0 ((mkM c).2.1)) (pickM v.y1 ((mkM c).2.1))).1) < ((brangeM ((mkM c).1) ((mkM c).2.1) ((mkM c).2.2.1) (pickM v.y0 ((mkM c).2.1)) (pickM v.y1 ((mkM c).2.1))).1)) ∨ (((brangeM ((mkM c).1) ((mkM c).2.1) ((mkM c).2.2.1) (pickM v.y0 ((mkM c).2.1)) (pickM v.y1 ((mkM c).2.1))).2.1) < ((rangeM ((closeM ((mkM c).2.1) (partM ((mkM c).2.2.1) (lat ((chM ((mkM c).1) ((mkM c).2.1) ((mkM c).2.2.1)).1) v24))).1) (pickM v.y0 ((mkM c).2.1)) (pickM v.y1 ((mkM c).2.1))).2.1))))) → (inI (v24 + (1 : Int))) ∧ (I4 (v24 + (1 : Int)) ∧ μ4 (v24 + (1 : Int)) < μ4 v24))) ∧ (¬ (v24 < ((((chM ((mkM c).1) ((mkM c).2.1) ((mkM c).2.2.1)).1).length : Nat) : Int)) → (inI (((brangeM ((mkM c).1) ((mkM c).2.1) ((mkM c).2.2.1) (pickM v.y0 ((mkM c).2.1)) (pickM v.y1 ((mkM c).2.1))).2.1) + (1 : Int))) ∧ (((mkM c).1).dr.length ≤ 1073741824) ∧ (((mkM c).1).sv.length ≤ 1073741824) ∧ (((mkM c).1).tm.length ≤ 1073741824) ∧ (((mkM c).2.2.1).length ≤ 1073741824) ∧ Post (decide (((witM ((mkM c).1) ((mkM c).2.1) ((mkM c).2.2.1) (pickM v.y0 ((mkM c).2.1)) (pickM v.y1 ((mkM c).2.1)) (((brangeM ((mkM c).1) ((mkM c).2.1) ((mkM c).2.2.1) (pickM v.y0 ((mkM c).2.1)) (pickM v.y1 ((mkM c).2.1))).2.1) + (1 : Int))).2.2 = (100 : Int)) ∧ (((((witM ((mkM c).1) ((mkM c).2.1) ((mkM c).2.2.1) (pickM v.y0 ((mkM c).2.1)) (pickM v.y1 ((mkM c).2.1)) (((brangeM ((mkM c).1) ((mkM c).2.1) ((mkM c).2.2.1) (pickM v.y0 ((mkM c).2.1)) (pickM v.y1 ((mkM c).2.1))).2.1) + (1 : Int))).1).length : Nat) : Int) = (0 : Int)))))))
set_option maxRecDepth 100000 in
set_option maxHeartbeats 4000000 in
theorem walk_bAttained {c : Cas} {v : A2} {Post : Bool → Prop} (hv : vc_bAttained c v Post) : FnP Try.prog 9 [.agg ((e25 true) c), .agg (e61 v)] (fun x => ∃ q0, x = .bool q0 ∧ Post q0) := by
 refine FnP.of_walk (T := tt) (nt := 220) ttOk ttMix ⟨⟨Try.f9, Try.func9, rfl, rfl, rfl, rfl⟩⟩ (by simp) ?_
 unfold vc_bAttained at hv
 change W _ _ _ ⟨220, look [(0, .agg [.int .i64 c.fl, .int .i64 c.n, .lst true c.x.length (encL e29 c.x), .lst true c.tr.length (encL eInt c.tr), .int .i64 c.ho]), (1, .agg [.int .i64 v.y0, .int .i64 v.y1])], [], 0⟩ _
 refine W.tr [(0, .agg _), (1, .agg _)] [] ⟨rfl, rfl, trivial⟩ rfl ?_
 refine W.rL ?_
 refine cL rfl (o_box (v := .agg _) (p := 0) rfl rfl rfl ?_)
 refine cL rfl (o_box (v := .agg _) (p := 1) rfl rfl rfl ?_)
 refine aB rfl rfl ?_
 refine eL ?_
 refine W.tr [(2, .ptr _ _), (3, .ptr _ _)] [.box _ [.int _ _, .int _ _, .lst _ _ _, .lst _ _ _, .int _ _], .box _ [.int _ _, .int _ _]] ⟨rfl, rfl, trivial⟩ rfl ?_
 refine W.seq' ?_
 refine W.rL ?_
 refine cL rfl (o_callP1 (k := 10) (fst := []) (caps := []) (ys := []) rfl rfl (spec_bsane) (Wks.refl _) ?_)
 refine cL rfl (o_notB rfl ?_)
 refine eL ?_
 refine W.tr [(2, .ptr _ _), (3, .ptr _ _), (35, .bool _)] [.box _ [.int _ _, .int _ _, .lst _ _ _, .lst _ _ _, .int _ _], .box _ [.int _ _, .int _ _]] ⟨rfl, rfl, rfl, trivial⟩ rfl ?_
 refine W.cF rfl ?_
 refine W.skip ?_
 refine th_nrm ?_
 refine W.tr [(2, .ptr _ _), (3, .ptr _ _)] [.box _ [.int _ _, .int _ _, .lst _ _ _, .lst _ _ _, .int _ _], .box _ [.int _ _, .int _ _]] ⟨rfl, rfl, trivial⟩ rfl ?_
 refine W.rL ?_
 refine cL rfl (o_ldA (cs := [.int _ _, .int _ _, .lst _ _ _, .lst _ _ _, .int _ _]) tt25 rfl rfl ⟨_, rfl⟩ rfl ?_)
 obtain ⟨s1, hv⟩ := hv
 refine cL rfl (o_callP1 (k := 11) (fst := []) (caps := []) (ys := [.agg _]) rfl rfl (spec_mk c s1) (Wks.cons (ag_agg 5 _ (Wks.cons (ag_int _ _ _ _) (Wks.cons (ag_int _ _ _ _) (Wks.cons (ag_lst _ _ _ _ _) (Wks.cons (ag_lst _ _ _ _ _) (Wks.cons (ag_int _ _ _ _) (Wks.refl _))))))) (Wks.refl _)) ?_)
 refine cL rfl (o_move (v := .tup _) rfl ?_)
 refine cL rfl (o_ext (v := .agg _) rfl rfl ?_)
 refine cL rfl (o_ext (v := .int _ _) rfl rfl ?_)
 iterate 2 refine cL rfl (o_ext (v := .lst _ _ _) rfl rfl ?_)
 refine cL rfl (o_ext (v := .int _ _) rfl rfl ?_)
 refine cL rfl (o_alloc (p := 2) tt27 rfl rfl ?_)
 refine cLn (o_stB (v := .agg _) (vs := [.lst _ _ _, .int _ _, .int _ _, .lst _ _ _, .lst _ _ _]) (cs2 := [.lst _ _ _, .int _ _, .int _ _, .lst _ _ _, .lst _ _ _]) tt27 rfl rfl rfl rfl rfl (Nat.le_of_ble_eq_true rfl) rfl ?_)
 refine aI rfl rfl ?_
 iterate 2 refine aL rfl rfl ?_
 refine aI rfl rfl ?_
 refine eL ?_
 refine W.tr [(3, .ptr _ _), (5, .ptr _ _), (6, .int _ _), (7, .lst _ _ _)] [.box _ [.int _ _, .int _ _, .lst _ _ _, .lst _ _ _, .int _ _], .box _ [.int _ _, .int _ _], .box _ [.lst _ _ _, .int _ _, .int _ _, .lst _ _ _, .lst _ _ _]] ⟨rfl, rfl, rfl, rfl, trivial⟩ rfl ?_
 refine W.rL ?_
 refine cL rfl (o_iaA tt61 tt3 rfl rfl ⟨by decide, by decide⟩ rfl ?_)
 refine cL rfl (o_ldS (v := .int _ _) tt3 rfl rfl ⟨_, rfl⟩ ?_)
 refine mI rfl rfl ?_
 obtain ⟨s2, s3, hv⟩ := hv
 refine cL rfl (o_callP1 (k := 21) (fst := []) (caps := []) (ys := [.int _ _, .int _ _]) rfl rfl (spec_pick v.y0 ((mkM c).2.1) s2 s3) (Wks.cons (ag_int _ _ _ _) (Wks.cons (ag_int _ _ _ _) (Wks.refl _))) ?_)
 refine aI rfl rfl ?_
 refine eL ?_
 refine W.tr [(3, .ptr _ _), (5, .ptr _ _), (6, .int _ _), (7, .lst _ _ _), (10, .int _ _)] [.box _ [.int _ _, .int _ _, .lst _ _ _, .lst _ _ _, .int _ _], .box _ [.int _ _, .int _ _], .box _ [.lst _ _ _, .int _ _, .int _ _, .lst _ _ _, .lst _ _ _]] ⟨rfl, rfl, rfl, rfl, rfl, trivial⟩ rfl ?_
 refine W.rL ?_
 refine cL rfl (o_iaA tt61 tt3 rfl rfl ⟨by decide, by decide⟩ rfl ?_)
 refine cL rfl (o_ldS (v := .int _ _) tt3 rfl rfl ⟨_, rfl⟩ ?_)
 refine mI rfl rfl ?_
 obtain ⟨s4, s5, hv⟩ := hv
 refine cL rfl (o_callP1 (k := 21) (fst := []) (caps := []) (ys := [.int _ _, .int _ _]) rfl rfl (spec_pick v.y1 ((mkM c).2.1) s4 s5) (Wks.cons (ag_int _ _ _ _) (Wks.cons (ag_int _ _ _ _) (Wks.refl _))) ?_)
 refine aI rfl rfl ?_
 refine eL ?_
 refine W.tr [(5, .ptr _ _), (6, .int _ _), (7, .lst _ _ _), (10, .int _ _), (11, .int _ _)] [.box _ [.int _ _, .int _ _, .lst _ _ _, .lst _ _ _, .int _ _], .box _ [.int _ _, .int _ _], .box _ [.lst _ _ _, .int _ _, .int _ _, .lst _ _ _, .lst _ _ _]] ⟨rfl, rfl, rfl, rfl, rfl, trivial⟩ rfl ?_
 refine W.rL ?_
 refine cL rfl (o_ldA (cs := [.lst _ _ _, .int _ _, .int _ _, .lst _ _ _, .lst _ _ _]) tt27 rfl rfl ⟨_, rfl⟩ rfl ?_)
 refine mI rfl rfl ?_
 refine mL rfl rfl ?_
 iterate 2 refine mI rfl rfl ?_
 obtain ⟨s6, s7, s8, s9, hv⟩ := hv
 refine cL rfl (o_callP1 (k := 22) (fst := []) (caps := []) (ys := [.agg _, .int _ _, .lst _ _ _, .int _ _, .int _ _]) rfl rfl (spec_brange ((mkM c).1) ((mkM c).2.1) ((mkM c).2.2.1) (pickM v.y0 ((mkM c).2.1)) (pickM v.y1 ((mkM c).2.1)) s6 s7 s8 s9) (Wks.cons (ag_agg 5 _ (Wks.cons (ag_lst _ _ _ _ _) (Wks.cons (ag_int _ _ _ _) (Wks.cons (ag_int _ _ _ _) (Wks.cons (ag_lst _ _ _ _ _) (Wks.cons (ag_lst _ _ _ _ _) (Wks.refl _))))))) (Wks.cons (ag_int _ _ _ _) (Wks.cons (ag_lst _ _ _ _ _) (Wks.cons (ag_int _ _ _ _) (Wks.cons (ag_int _ _ _ _) (Wks.refl _)))))) ?_)
 refine cL rfl (o_move (v := .tup _) rfl ?_)
 iterate 3 refine cL rfl (o_ext (v := .int _ _) rfl rfl ?_)
 iterate 3 refine aI rfl rfl ?_
 refine eL ?_
 refine W.tr [(5, .ptr _ _), (6, .int _ _), (7, .lst _ _ _), (10, .int _ _), (11, .int _ _), (12, .int _ _), (13, .int _ _), (14, .int _ _)] [.box _ [.int _ _, .int _ _, .lst _ _ _, .lst _ _ _, .int _ _], .box _ [.int _ _, .int _ _], .box _ [.lst _ _ _, .int _ _, .int _ _, .lst _ _ _, .lst _ _ _]] ⟨rfl, rfl, rfl, rfl, rfl, rfl, rfl, rfl, trivial⟩ rfl ?_
 refine W.rL ?_
 refine cL rfl (o_ldA (cs := [.lst _ _ _, .int _ _, .int _ _, .lst _ _ _, .lst _ _ _]) tt27 rfl rfl ⟨_, rfl⟩ rfl ?_)
 refine mI rfl rfl ?_
 refine mL rfl rfl ?_
 obtain ⟨s10, s11, s12, s13, hv⟩ := hv
 refine cL rfl (o_callP1 (k := 13) (fst := []) (caps := []) (ys := [.agg _, .int _ _, .lst _ _ _]) rfl rfl (spec_choices ((mkM c).1) ((mkM c).2.1) ((mkM c).2.2.1) s10 s11 s12 s13) (Wks.cons (ag_agg 5 _ (Wks.cons (ag_lst _ _ _ _ _) (Wks.cons (ag_int _ _ _ _) (Wks.cons (ag_int _ _ _ _) (Wks.cons (ag_lst _ _ _ _ _) (Wks.cons (ag_lst _ _ _ _ _) (Wks.refl _))))))) (Wks.cons (ag_int _ _ _ _) (Wks.cons (ag_lst _ _ _ _ _) (Wks.refl _)))) ?_)
 refine cL rfl (o_move (v := .tup _) rfl ?_)
 refine cL rfl (o_ext (v := .lst _ _ _) rfl rfl ?_)
 refine cL rfl (o_ext (v := .int _ _) rfl rfl ?_)
 refine aL rfl rfl ?_
 refine aI rfl rfl ?_
 refine eL ?_
 refine W.tr [(5, .ptr _ _), (6, .int _ _), (7, .lst _ _ _), (10, .int _ _), (11, .int _ _), (12, .int _ _), (13, .int _ _), (14, .int _ _), (15, .lst _ _ _), (16, .int _ _)] [.box _ [.int _ _, .int _ _, .lst _ _ _, .lst _ _ _, .int _ _], .box _ [.int _ _, .int _ _], .box _ [.lst _ _ _, .int _ _, .int _ _, .lst _ _ _, .lst _ _ _]] ⟨rfl, rfl, rfl, rfl, rfl, rfl, rfl, rfl, rfl, rfl, trivial⟩ rfl ?_
 refine W.seq' ?_
 refine W.rLm ⟨220, look [(5, .ptr 2 0), (6, .int .i64 ((mkM c).2.1)), (7, .lst false ((mkM c).2.2.1).length (encL e66 ((mkM c).2.2.1))), (10, .int .i64 (pickM v.y0 ((mkM c).2.1))), (11, .int .i64 (pickM v.y1 ((mkM c).2.1))), (12, .int .i64 ((brangeM ((mkM c).1) ((mkM c).2.1) ((mkM c).2.2.1) (pickM v.y0 ((mkM c).2.1)) (pickM v.y1 ((mkM c).2.1))).1)), (13, .int .i64 ((brangeM ((mkM c).1) ((mkM c).2.1) ((mkM c).2.2.1) (pickM v.y0 ((mkM c).2.1)) (pickM v.y1 ((mkM c).2.1))).2.1)), (15, .lst false ((chM ((mkM c).1) ((mkM c).2.1) ((mkM c).2.2.1)).1).length (encL eInt ((chM ((mkM c).1) ((mkM c).2.1) ((mkM c).2.2.1)).1))), (74, .bool (decide ((¬ (brangeM ((mkM c).1) ((mkM c).2.1) ((mkM c).2.2.1) (pickM v.y0 ((mkM c).2.1)) (pickM v.y1 ((mkM c).2.1))).2.2 = (0 : Int)) ∨ (¬ (chM ((mkM c).1) ((mkM c).2.1) ((mkM c).2.2.1)).2 = (0 : Int)))))], [.box 25 [.int .i64 c.fl, .int .i64 c.n, .lst true c.x.length (encL e29 c.x), .lst true c.tr.length (encL eInt c.tr), .int .i64 c.ho], .box 61 [.int .i64 v.y0, .int .i64 v.y1], .box 27 [.lst false (((mkM c).1).dr).length (encL eInt (((mkM c).1).dr)), .int .i64 (((mkM c).1).la), .int .i64 (((mkM c).1).li), .lst false (((mkM c).1).sv).length (encL eInt (((mkM c).1).sv)), .lst false (((mkM c).1).tm).length (encL eInt (((mkM c).1).tm))]], 0⟩ ?_ ?_
 refine mI rfl rfl ?_
 refine cL rfl (o_neI rfl rfl rfl ?_)
 refine mB rfl rfl ?_
 by_cases c1 : ¬ (brangeM ((mkM c).1) ((mkM c).2.1) ((mkM c).2.2.1) (pickM v.y0 ((mkM c).2.1)) (pickM v.y1 ((mkM c).2.1))).2.2 = (0 : Int)
 iterate 2 refine cLs rfl rfl rfl (decide_eq_true c1) ?_
 refine cL rfl (o_pickT (v := .bool _) rfl (decide_eq_true c1) rfl ?_)
 refine eL ?_
 exact le_mk ⟨rfl, rfl, rfl, rfl, rfl, rfl, rfl, rfl, (congrArg AV.bool (dOrT c1)).symm, trivial⟩ rfl
 refine cLg rfl rfl (decide_eq_false c1) ?_
 refine mI rfl rfl ?_
 refine cLg rfl rfl (decide_eq_false c1) ?_
 refine cL rfl (o_neI rfl rfl rfl ?_)
 refine cL rfl (o_pickF (v := .bool _) rfl (decide_eq_false c1) rfl ?_)
 refine eL ?_
 exact le_mk ⟨rfl, rfl, rfl, rfl, rfl, rfl, rfl, rfl, (congrArg AV.bool (dOrF c1 (rfl))).symm, trivial⟩ rfl
 refine W.cn rfl (fun hc => ?_) (fun hc => ?_)
 have hv := hv.1 hc
 refine W.rL ?_
 refine aB rfl rfl ?_
 refine eL ?_
 refine W.tr [(4, .bool _)] [.box _ [.int _ _, .int _ _, .lst _ _ _, .lst _ _ _, .int _ _], .box _ [.int _ _, .int _ _], .box _ [.lst _ _ _, .int _ _, .int _ _, .lst _ _ _, .lst _ _ _]] ⟨rfl, trivial⟩ rfl ?_
 refine W.ret ?_
 refine th_ret (rt ?_)
 refine rt_t (v := .bool _) rfl ?_
 refine rt_n ?_
 exact ⟨_, rs_bool _ _ _, false, rfl, hv⟩
 have hv := hv.2 hc
 refine W.skip ?_
 refine th_nrm ?_
 refine W.tr [(5, .ptr _ _), (6, .int _ _), (7, .lst _ _ _), (10, .int _ _), (11, .int _ _), (12, .int _ _), (13, .int _ _), (15, .lst _ _ _)] [.box _ [.int _ _, .int _ _, .lst _ _ _, .lst _ _ _, .int _ _], .box _ [.int _ _, .int _ _], .box _ [.lst _ _ _, .int _ _, .int _ _, .lst _ _ _, .lst _ _ _]] ⟨rfl, rfl, rfl, rfl, rfl, rfl, rfl, rfl, trivial⟩ rfl ?_
 refine W.rL ?_
 iterate 2 refine mI rfl rfl ?_
 refine cL rfl (o_buildS (q := 3) (qs := [(0, .int _ _), (1, .int _ _)]) (cs := [.int _ _, .int _ _]) tt23 tt3 rfl rfl rfl rfl ?_)
 refine cL rfl (o_assign (v := .ref _ _ _) rfl ?_)
 refine eL ?_
 refine W.tr [(5, .ptr _ _), (6, .int _ _), (7, .lst _ _ _), (10, .int _ _), (11, .int _ _), (12, .int _ _), (13, .int _ _), (15, .lst _ _ _), (17, .ref _ _ _)] [.box _ [.int _ _, .int _ _, .lst _ _ _, .lst _ _ _, .int _ _], .box _ [.int _ _, .int _ _], .box _ [.lst _ _ _, .int _ _, .int _ _, .lst _ _ _, .lst _ _ _], .row _ _ _] ⟨rfl, rfl, rfl, rfl, rfl, rfl, rfl, rfl, rfl, trivial⟩ rfl ?_
 refine W.seq' ?_
 refine W.rL ?_
 refine aI rfl rfl ?_
 refine eL ?_
 refine W.tr [(5, .ptr _ _), (6, .int _ _), (7, .lst _ _ _), (10, .int _ _), (11, .int _ _), (12, .int _ _), (13, .int _ _), (15, .lst _ _ _), (17, .ref _ _ _), (18, .int _ _)] [.box _ [.int _ _, .int _ _, .lst _ _ _, .lst _ _ _, .int _ _], .box _ [.int _ _, .int _ _], .box _ [.lst _ _ _, .int _ _, .int _ _, .lst _ _ _, .lst _ _ _], .row _ _ _] ⟨rfl, rfl, rfl, rfl, rfl, rfl, rfl, rfl, rfl, rfl, trivial⟩ rfl ?_
 refine W.block ?_
 obtain ⟨I1, μ1, hp, hv⟩ := hv
 refine W.loop1 (fun v18 => ⟨220, look [(5, .ptr 2 0), (6, .int .i64 ((mkM c).2.1)), (7, .lst false ((mkM c).2.2.1).length (encL e66 ((mkM c).2.2.1))), (10, .int .i64 (pickM v.y0 ((mkM c).2.1))), (11, .int .i64 (pickM v.y1 ((mkM c).2.1))), (12, .int .i64 ((brangeM ((mkM c).1) ((mkM c).2.1) ((mkM c).2.2.1) (pickM v.y0 ((mkM c).2.1)) (pickM v.y1 ((mkM c).2.1))).1)), (13, .int .i64 ((brangeM ((mkM c).1) ((mkM c).2.1) ((mkM c).2.2.1) (pickM v.y0 ((mkM c).2.1)) (pickM v.y1 ((mkM c).2.1))).2.1)), (15, .lst false ((chM ((mkM c).1) ((mkM c).2.1) ((mkM c).2.2.1)).1).length (encL eInt ((chM ((mkM c).1) ((mkM c).2.1) ((mkM c).2.2.1)).1))), (17, .ref false 3 ([(brangeM ((mkM c).1) ((mkM c).2.1) ((mkM c).2.2.1) (pickM v.y0 ((mkM c).2.1)) (pickM v.y1 ((mkM c).2.1))).1, (brangeM ((mkM c).1) ((mkM c).2.1) ((mkM c).2.2.1) (pickM v.y0 ((mkM c).2.1)) (pickM v.y1 ((mkM c).2.1))).2.1].length)), (18, .int .i64 v18)], [.dead, .dead, .box 27 [.lst false (((mkM c).1).dr).length (encL eInt (((mkM c).1).dr)), .int .i64 (((mkM c).1).la), .int .i64 (((mkM c).1).li), .lst false (((mkM c).1).sv).length (encL eInt (((mkM c).1).sv)), .lst false (((mkM c).1).tm).length (encL eInt (((mkM c).1).tm))], .row 3 1 (encL eInt [(brangeM ((mkM c).1) ((mkM c).2.1) ((mkM c).2.2.1) (pickM v.y0 ((mkM c).2.1)) (pickM v.y1 ((mkM c).2.1))).1, (brangeM ((mkM c).1) ((mkM c).2.1) ((mkM c).2.2.1) (pickM v.y0 ((mkM c).2.1)) (pickM v.y1 ((mkM c).2.1))).2.1])], 0⟩) I1 μ1 (0 : Int) (St.to_mk (φ := [none, none, some 2, some 3]) rfl (rfl) ⟨Ren.ptr rfl, Ren.int _ _, Ren.lst _ _ _, Ren.int _ _, Ren.int _ _, Ren.int _ _, Ren.int _ _, Ren.lst _ _ _, Ren.ref rfl (fun h => h), Ren.int _ _, trivial⟩ ⟨rfl, rfl, .inr ⟨_, rfl, rfl, Rens.cons (Ren.lst _ _ _) (Rens.cons (Ren.int _ _) (Rens.cons (Ren.int _ _) (Rens.cons (Ren.lst _ _ _) (Rens.cons (Ren.lst _ _ _) (Rens.nil)))))⟩, .inr ⟨_, rfl, rfl, rfl, rfl, Rens.enc encInt false [(brangeM ((mkM c).1) ((mkM c).2.1) ((mkM c).2.2.1) (pickM v.y0 ((mkM c).2.1)) (pickM v.y1 ((mkM c).2.1))).1, (brangeM ((mkM c).1) ((mkM c).2.1) ((mkM c).2.2.1) (pickM v.y0 ((mkM c).2.1)) (pickM v.y1 ((mkM c).2.1))).2.1]⟩, trivial⟩) hp ?_
 clear hp
 intro v18 hI
 replace hv := hv v18 hI
 clear hI
 refine W.seq' ?_
 refine W.rL ?_
 refine mI rfl rfl ?_
 refine cL rfl (o_lss rfl rfl ?_)
 refine eL ?_
 refine W.tr [(5, .ptr _ _), (6, .int _ _), (7, .lst _ _ _), (10, .int _ _), (11, .int _ _), (12, .int _ _), (13, .int _ _), (15, .lst _ _ _), (17, .ref _ _ _), (18, .int _ _), (79, .bool _)] [.dead, .dead, .box _ [.lst _ _ _, .int _ _, .int _ _, .lst _ _ _, .lst _ _ _], .row _ _ _] ⟨rfl, rfl, rfl, rfl, rfl, rfl, rfl, rfl, rfl, rfl, rfl, trivial⟩ rfl ?_
 refine W.cn rfl (fun hc => ?_) (fun hc => ?_)
 have hv := hv.1 hc
 refine W.skip ?_
 refine th_nrm ?_
 refine W.tr [(5, .ptr _ _), (6, .int _ _), (7, .lst _ _ _), (10, .int _ _), (11, .int _ _), (12, .int _ _), (13, .int _ _), (15, .lst _ _ _), (17, .ref _ _ _), (18, .int _ _)] [.dead, .dead, .box _ [.lst _ _ _, .int _ _, .int _ _, .lst _ _ _, .lst _ _ _], .row _ _ _] ⟨rfl, rfl, rfl, rfl, rfl, rfl, rfl, rfl, rfl, rfl, trivial⟩ rfl ?_
 obtain ⟨J2, hj, hv⟩ := hv
 refine W.mid0 (⟨220, look [(5, .ptr 2 0), (6, .int .i64 ((mkM c).2.1)), (7, .lst false ((mkM c).2.2.1).length (encL e66 ((mkM c).2.2.1))), (10, .int .i64 (pickM v.y0 ((mkM c).2.1))), (11, .int .i64 (pickM v.y1 ((mkM c).2.1))), (12, .int .i64 ((brangeM ((mkM c).1) ((mkM c).2.1) ((mkM c).2.2.1) (pickM v.y0 ((mkM c).2.1)) (pickM v.y1 ((mkM c).2.1))).1)), (13, .int .i64 ((brangeM ((mkM c).1) ((mkM c).2.1) ((mkM c).2.2.1) (pickM v.y0 ((mkM c).2.1)) (pickM v.y1 ((mkM c).2.1))).2.1)), (15, .lst false ((chM ((mkM c).1) ((mkM c).2.1) ((mkM c).2.2.1)).1).length (encL eInt ((chM ((mkM c).1) ((mkM c).2.1) ((mkM c).2.2.1)).1))), (17, .ref false 3 ([(brangeM ((mkM c).1) ((mkM c).2.1) ((mkM c).2.2.1) (pickM v.y0 ((mkM c).2.1)) (pickM v.y1 ((mkM c).2.1))).1, (brangeM ((mkM c).1) ((mkM c).2.1) ((mkM c).2.2.1) (pickM v.y0 ((mkM c).2.1)) (pickM v.y1 ((mkM c).2.1))).2.1].length)), (18, .int .i64 v18)], [.dead, .dead, .box 27 [.lst false (((mkM c).1).dr).length (encL eInt (((mkM c).1).dr)), .int .i64 (((mkM c).1).la), .int .i64 (((mkM c).1).li), .lst false (((mkM c).1).sv).length (encL eInt (((mkM c).1).sv)), .lst false (((mkM c).1).tm).length (encL eInt (((mkM c).1).tm))], .row 3 1 (encL eInt [(brangeM ((mkM c).1) ((mkM c).2.1) ((mkM c).2.2.1) (pickM v.y0 ((mkM c).2.1)) (pickM v.y1 ((mkM c).2.1))).1, (brangeM ((mkM c).1) ((mkM c).2.1) ((mkM c).2.2.1) (pickM v.y0 ((mkM c).2.1)) (pickM v.y1 ((mkM c).2.1))).2.1])], 0⟩) J2 ?_ ?_
 intro hv
 replace hv := hj hv
 refine W.rL1 ?_
 refine mI rfl rfl ?_
 obtain ⟨s346, hv⟩ := hv
 refine cL rfl (o_add rfl rfl s346 ?_)
 refine aI rfl rfl ?_
 refine eL ?_
 exact th_nrm (⟨(), (v18 + (1 : Int)), hv, St.to_mk (φ := [none, none, some 2, some 3]) rfl (rfl) ⟨Ren.ptr rfl, Ren.int _ _, Ren.lst _ _ _, Ren.int _ _, Ren.int _ _, Ren.int _ _, Ren.int _ _, Ren.lst _ _ _, Ren.ref rfl (fun h => h), Ren.int _ _, trivial⟩ ⟨rfl, rfl, .inr ⟨_, rfl, rfl, Rens.cons (Ren.lst _ _ _) (Rens.cons (Ren.int _ _) (Rens.cons (Ren.int _ _) (Rens.cons (Ren.lst _ _ _) (Rens.cons (Ren.lst _ _ _) (Rens.nil)))))⟩, .inr ⟨_, rfl, rfl, rfl, rfl, Rens.enc encInt false [(brangeM ((mkM c).1) ((mkM c).2.1) ((mkM c).2.2.1) (pickM v.y0 ((mkM c).2.1)) (pickM v.y1 ((mkM c).2.1))).1, (brangeM ((mkM c).1) ((mkM c).2.1) ((mkM c).2.2.1) (pickM v.y0 ((mkM c).2.1)) (pickM v.y1 ((mkM c).2.1))).2.1]⟩, trivial⟩⟩)
 clear hj
 refine W.block ?_
 refine W.seq' ?_
 obtain ⟨sd, hv⟩ := hv
 refine W.rLm ⟨220, look [(5, .ptr 2 0), (6, .int .i64 ((mkM c).2.1)), (7, .lst false ((mkM c).2.2.1).length (encL e66 ((mkM c).2.2.1))), (10, .int .i64 (pickM v.y0 ((mkM c).2.1))), (11, .int .i64 (pickM v.y1 ((mkM c).2.1))), (12, .int .i64 ((brangeM ((mkM c).1) ((mkM c).2.1) ((mkM c).2.2.1) (pickM v.y0 ((mkM c).2.1)) (pickM v.y1 ((mkM c).2.1))).1)), (13, .int .i64 ((brangeM ((mkM c).1) ((mkM c).2.1) ((mkM c).2.2.1) (pickM v.y0 ((mkM c).2.1)) (pickM v.y1 ((mkM c).2.1))).2.1)), (15, .lst false ((chM ((mkM c).1) ((mkM c).2.1) ((mkM c).2.2.1)).1).length (encL eInt ((chM ((mkM c).1) ((mkM c).2.1) ((mkM c).2.2.1)).1))), (17, .ref false 3 ([(brangeM ((mkM c).1) ((mkM c).2.1) ((mkM c).2.2.1) (pickM v.y0 ((mkM c).2.1)) (pickM v.y1 ((mkM c).2.1))).1, (brangeM ((mkM c).1) ((mkM c).2.1) ((mkM c).2.2.1) (pickM v.y0 ((mkM c).2.1)) (pickM v.y1 ((mkM c).2.1))).2.1].length)), (18, .int .i64 v18), (93, .bool (decide (((lat [(brangeM ((mkM c).1) ((mkM c).2.1) ((mkM c).2.2.1) (pickM v.y0 ((mkM c).2.1)) (pickM v.y1 ((mkM c).2.1))).1, (brangeM ((mkM c).1) ((mkM c).2.1) ((mkM c).2.2.1) (pickM v.y0 ((mkM c).2.1)) (pickM v.y1 ((mkM c).2.1))).2.1] v18) < (-36028797018963968 : Int)) ∨ ((36028797018963968 : Int) < (lat [(brangeM ((mkM c).1) ((mkM c).2.1) ((mkM c).2.2.1) (pickM v.y0 ((mkM c).2.1)) (pickM v.y1 ((mkM c).2.1))).1, (brangeM ((mkM c).1) ((mkM c).2.1) ((mkM c).2.2.1) (pickM v.y0 ((mkM c).2.1)) (pickM v.y1 ((mkM c).2.1))).2.1] v18)))))], [.dead, .dead, .box 27 [.lst false (((mkM c).1).dr).length (encL eInt (((mkM c).1).dr)), .int .i64 (((mkM c).1).la), .int .i64 (((mkM c).1).li), .lst false (((mkM c).1).sv).length (encL eInt (((mkM c).1).sv)), .lst false (((mkM c).1).tm).length (encL eInt (((mkM c).1).tm))], .row 3 1 (encL eInt [(brangeM ((mkM c).1) ((mkM c).2.1) ((mkM c).2.2.1) (pickM v.y0 ((mkM c).2.1)) (pickM v.y1 ((mkM c).2.1))).1, (brangeM ((mkM c).1) ((mkM c).2.1) ((mkM c).2.2.1) (pickM v.y0 ((mkM c).2.1)) (pickM v.y1 ((mkM c).2.1))).2.1])], 0⟩ ?_ ?_
 refine cL rfl (o_move (v := .ref _ _ _) rfl ?_)
 refine mI rfl rfl ?_
 obtain ⟨s353, sd⟩ := sd
 refine cL rfl (o_iaR tt23 tt3 rfl rfl s353 ?_)
 refine cL rfl (o_ldS (v := .int _ _) tt3 rfl rfl (cell_of (ca_row (xs := [(brangeM ((mkM c).1) ((mkM c).2.1) ((mkM c).2.2.1) (pickM v.y0 ((mkM c).2.1)) (pickM v.y1 ((mkM c).2.1))).1, (brangeM ((mkM c).1) ((mkM c).2.1) ((mkM c).2.2.1) (pickM v.y0 ((mkM c).2.1)) (pickM v.y1 ((mkM c).2.1))).2.1]) rfl (encInt.wd false) s353) rfl) ?_)
 refine cL rfl (o_lss rfl rfl ?_)
 refine mB rfl rfl ?_
 by_cases c1 : (lat [(brangeM ((mkM c).1) ((mkM c).2.1) ((mkM c).2.2.1) (pickM v.y0 ((mkM c).2.1)) (pickM v.y1 ((mkM c).2.1))).1, (brangeM ((mkM c).1) ((mkM c).2.1) ((mkM c).2.2.1) (pickM v.y0 ((mkM c).2.1)) (pickM v.y1 ((mkM c).2.1))).2.1] v18) < (-36028797018963968 : Int)
 iterate 5 refine cLs rfl rfl rfl (decide_eq_true c1) ?_
 refine cL rfl (o_pickT (v := .bool _) rfl (decide_eq_true c1) rfl ?_)
 refine eL ?_
 exact le_mk ⟨rfl, rfl, rfl, rfl, rfl, rfl, rfl, rfl, rfl, rfl, (congrArg AV.bool (dOrT c1)).symm, trivial⟩ rfl
 have sd := sd.2 c1
 refine cLg rfl rfl (decide_eq_false c1) ?_
 refine cL rfl (o_move (v := .ref _ _ _) rfl ?_)
 refine cLg rfl rfl (decide_eq_false c1) ?_
 refine mI rfl rfl ?_
 refine cLg rfl rfl (decide_eq_false c1) ?_
 obtain ⟨s354, sd⟩ := sd
 refine cL rfl (o_iaR tt23 tt3 rfl rfl s354 ?_)
 refine cLg rfl rfl (decide_eq_false c1) ?_
 refine cL rfl (o_ldS (v := .int _ _) tt3 rfl rfl (cell_of (ca_row (xs := [(brangeM ((mkM c).1) ((mkM c).2.1) ((mkM c).2.2.1) (pickM v.y0 ((mkM c).2.1)) (pickM v.y1 ((mkM c).2.1))).1, (brangeM ((mkM c).1) ((mkM c).2.1) ((mkM c).2.2.1) (pickM v.y0 ((mkM c).2.1)) (pickM v.y1 ((mkM c).2.1))).2.1]) rfl (encInt.wd false) s354) rfl) ?_)
 refine cLg rfl rfl (decide_eq_false c1) ?_
 refine cL rfl (o_gtr rfl rfl ?_)
 refine cL rfl (o_pickF (v := .bool _) rfl (decide_eq_false c1) rfl ?_)
 refine eL ?_
 exact le_mk ⟨rfl, rfl, rfl, rfl, rfl, rfl, rfl, rfl, rfl, rfl, (congrArg AV.bool (dOrF c1 (rfl))).symm, trivial⟩ rfl
 refine W.cn rfl (fun hc => ?_) (fun hc => ?_)
 have hv := hv.1 hc
 refine W.exit ?_
 exact th_exit (bl_hit (th_nrm (⟨(), hv, St.to_mk (φ := [none, none, some 2, some 3]) rfl (rfl) ⟨Ren.ptr rfl, Ren.int _ _, Ren.lst _ _ _, Ren.int _ _, Ren.int _ _, Ren.int _ _, Ren.int _ _, Ren.lst _ _ _, Ren.ref rfl (fun h => h), Ren.int _ _, trivial⟩ ⟨rfl, rfl, .inr ⟨_, rfl, rfl, Rens.cons (Ren.lst _ _ _) (Rens.cons (Ren.int _ _) (Rens.cons (Ren.int _ _) (Rens.cons (Ren.lst _ _ _) (Rens.cons (Ren.lst _ _ _) (Rens.nil)))))⟩, .inr ⟨_, rfl, rfl, rfl, rfl, Rens.enc encInt false [(brangeM ((mkM c).1) ((mkM c).2.1) ((mkM c).2.2.1) (pickM v.y0 ((mkM c).2.1)) (pickM v.y1 ((mkM c).2.1))).1, (brangeM ((mkM c).1) ((mkM c).2.1) ((mkM c).2.2.1) (pickM v.y0 ((mkM c).2.1)) (pickM v.y1 ((mkM c).2.1))).2.1]⟩, trivial⟩⟩)))
 have hv := hv.2 hc
 refine W.skip ?_
 refine th_nrm ?_
 refine W.tr [(5, .ptr _ _), (6, .int _ _), (7, .lst _ _ _), (10, .int _ _), (11, .int _ _), (12, .int _ _), (13, .int _ _), (15, .lst _ _ _), (17, .ref _ _ _), (18, .int _ _)] [.dead, .dead, .box _ [.lst _ _ _, .int _ _, .int _ _, .lst _ _ _, .lst _ _ _], .row _ _ _] ⟨rfl, rfl, rfl, rfl, rfl, rfl, rfl, rfl, rfl, rfl, trivial⟩ rfl ?_
 refine W.rD [0, 1, 2, 3, 4, 5, 6, 7, 8, 9, 10, 11, 12, 13, 14, 15, 16] (by decide +kernel) rfl ?_
 refine cL rfl (o_ldA (cs := [.lst _ _ _, .int _ _, .int _ _, .lst _ _ _, .lst _ _ _]) tt27 rfl rfl ⟨_, rfl⟩ rfl ?_)
 refine mI rfl rfl ?_
 refine mL rfl rfl ?_
 iterate 2 refine mI rfl rfl ?_
 refine cL rfl (o_move (v := .ref _ _ _) rfl ?_)
 refine mI rfl rfl ?_
 obtain ⟨s355, hv⟩ := hv
 refine cL rfl (o_iaR tt23 tt3 rfl rfl s355 ?_)
 refine cL rfl (o_ldS (v := .int _ _) tt3 rfl rfl (cell_of (ca_row (xs := [(brangeM ((mkM c).1) ((mkM c).2.1) ((mkM c).2.2.1) (pickM v.y0 ((mkM c).2.1)) (pickM v.y1 ((mkM c).2.1))).1, (brangeM ((mkM c).1) ((mkM c).2.1) ((mkM c).2.2.1) (pickM v.y0 ((mkM c).2.1)) (pickM v.y1 ((mkM c).2.1))).2.1]) rfl (encInt.wd false) s355) rfl) ?_)
 obtain ⟨s356, s357, s358, s359, hv⟩ := hv
 refine cL rfl (o_callP1 (k := 24) (fst := []) (caps := []) (ys := [.agg _, .int _ _, .lst _ _ _, .int _ _, .int _ _, .int _ _]) rfl rfl (spec_witness ((mkM c).1) ((mkM c).2.1) ((mkM c).2.2.1) (pickM v.y0 ((mkM c).2.1)) (pickM v.y1 ((mkM c).2.1)) (lat [(brangeM ((mkM c).1) ((mkM c).2.1) ((mkM c).2.2.1) (pickM v.y0 ((mkM c).2.1)) (pickM v.y1 ((mkM c).2.1))).1, (brangeM ((mkM c).1) ((mkM c).2.1) ((mkM c).2.2.1) (pickM v.y0 ((mkM c).2.1)) (pickM v.y1 ((mkM c).2.1))).2.1] v18) s356 s357 s358 s359) (Wks.cons (ag_agg 5 _ (Wks.cons (ag_lst _ _ _ _ _) (Wks.cons (ag_int _ _ _ _) (Wks.cons (ag_int _ _ _ _) (Wks.cons (ag_lst _ _ _ _ _) (Wks.cons (ag_lst _ _ _ _ _) (Wks.refl _))))))) (Wks.cons (ag_int _ _ _ _) (Wks.cons (ag_lst _ _ _ _ _) (Wks.cons (ag_int _ _ _ _) (Wks.cons (ag_int _ _ _ _) (Wks.cons (ag_int _ _ _ _) (Wks.refl _))))))) ?_)
 refine cL rfl (o_move (v := .tup _) rfl ?_)
 refine cL rfl (o_ext (v := .lst _ _ _) rfl rfl ?_)
 iterate 2 refine cL rfl (o_ext (v := .int _ _) rfl rfl ?_)
 refine aL rfl rfl ?_
 iterate 2 refine aI rfl rfl ?_
 refine eL ?_
 refine W.tr [(5, .ptr _ _), (6, .int _ _), (7, .lst _ _ _), (10, .int _ _), (11, .int _ _), (12, .int _ _), (13, .int _ _), (15, .lst _ _ _), (17, .ref _ _ _), (18, .int _ _), (19, .lst _ _ _), (20, .int _ _), (21, .int _ _)] [.dead, .dead, .box _ [.lst _ _ _, .int _ _, .int _ _, .lst _ _ _, .lst _ _ _], .row _ _ _] ⟨rfl, rfl, rfl, rfl, rfl, rfl, rfl, rfl, rfl, rfl, rfl, rfl, rfl, trivial⟩ rfl ?_
 refine W.rL ?_
 refine aB rfl rfl ?_
 refine eL ?_
 refine W.tr [(5, .ptr _ _), (6, .int _ _), (7, .lst _ _ _), (10, .int _ _), (11, .int _ _), (12, .int _ _), (13, .int _ _), (15, .lst _ _ _), (17, .ref _ _ _), (18, .int _ _), (19, .lst _ _ _), (20, .int _ _), (21, .int _ _), (22, .bool _)] [.dead, .dead, .box _ [.lst _ _ _, .int _ _, .int _ _, .lst _ _ _, .lst _ _ _], .row _ _ _] ⟨rfl, rfl, rfl, rfl, rfl, rfl, rfl, rfl, rfl, rfl, rfl, rfl, rfl, rfl, trivial⟩ rfl ?_
 refine W.seq' ?_
 refine W.rL ?_
 refine aI rfl rfl ?_
 refine eL ?_
 refine W.tr [(5, .ptr _ _), (6, .int _ _), (7, .lst _ _ _), (10, .int _ _), (11, .int _ _), (12, .int _ _), (13, .int _ _), (15, .lst _ _ _), (17, .ref _ _ _), (18, .int _ _), (19, .lst _ _ _), (20, .int _ _), (21, .int _ _), (22, .bool _), (23, .int _ _)] [.dead, .dead, .box _ [.lst _ _ _, .int _ _, .int _ _, .lst _ _ _, .lst _ _ _], .row _ _ _] ⟨rfl, rfl, rfl, rfl, rfl, rfl, rfl, rfl, rfl, rfl, rfl, rfl, rfl, rfl, rfl, trivial⟩ rfl ?_
 refine W.block ?_
 obtain ⟨I3, μ3, hp, hv⟩ := hv
 refine W.loop2 (fun v22 v23 => ⟨220, look [(5, .ptr 2 0), (6, .int .i64 ((mkM c).2.1)), (7, .lst false ((mkM c).2.2.1).length (encL e66 ((mkM c).2.2.1))), (10, .int .i64 (pickM v.y0 ((mkM c).2.1))), (11, .int .i64 (pickM v.y1 ((mkM c).2.1))), (12, .int .i64 ((brangeM ((mkM c).1) ((mkM c).2.1) ((mkM c).2.2.1) (pickM v.y0 ((mkM c).2.1)) (pickM v.y1 ((mkM c).2.1))).1)), (13, .int .i64 ((brangeM ((mkM c).1) ((mkM c).2.1) ((mkM c).2.2.1) (pickM v.y0 ((mkM c).2.1)) (pickM v.y1 ((mkM c).2.1))).2.1)), (15, .lst false ((chM ((mkM c).1) ((mkM c).2.1) ((mkM c).2.2.1)).1).length (encL eInt ((chM ((mkM c).1) ((mkM c).2.1) ((mkM c).2.2.1)).1))), (17, .ref false 3 ([(brangeM ((mkM c).1) ((mkM c).2.1) ((mkM c).2.2.1) (pickM v.y0 ((mkM c).2.1)) (pickM v.y1 ((mkM c).2.1))).1, (brangeM ((mkM c).1) ((mkM c).2.1) ((mkM c).2.2.1) (pickM v.y0 ((mkM c).2.1)) (pickM v.y1 ((mkM c).2.1))).2.1].length)), (18, .int .i64 v18), (19, .lst false ((witM ((mkM c).1) ((mkM c).2.1) ((mkM c).2.2.1) (pickM v.y0 ((mkM c).2.1)) (pickM v.y1 ((mkM c).2.1)) (lat [(brangeM ((mkM c).1) ((mkM c).2.1) ((mkM c).2.2.1) (pickM v.y0 ((mkM c).2.1)) (pickM v.y1 ((mkM c).2.1))).1, (brangeM ((mkM c).1) ((mkM c).2.1) ((mkM c).2.2.1) (pickM v.y0 ((mkM c).2.1)) (pickM v.y1 ((mkM c).2.1))).2.1] v18)).1).length (encL eInt ((witM ((mkM c).1) ((mkM c).2.1) ((mkM c).2.2.1) (pickM v.y0 ((mkM c).2.1)) (pickM v.y1 ((mkM c).2.1)) (lat [(brangeM ((mkM c).1) ((mkM c).2.1) ((mkM c).2.2.1) (pickM v.y0 ((mkM c).2.1)) (pickM v.y1 ((mkM c).2.1))).1, (brangeM ((mkM c).1) ((mkM c).2.1) ((mkM c).2.2.1) (pickM v.y0 ((mkM c).2.1)) (pickM v.y1 ((mkM c).2.1))).2.1] v18)).1))), (20, .int .i64 ((witM ((mkM c).1) ((mkM c).2.1) ((mkM c).2.2.1) (pickM v.y0 ((mkM c).2.1)) (pickM v.y1 ((mkM c).2.1)) (lat [(brangeM ((mkM c).1) ((mkM c).2.1) ((mkM c).2.2.1) (pickM v.y0 ((mkM c).2.1)) (pickM v.y1 ((mkM c).2.1))).1, (brangeM ((mkM c).1) ((mkM c).2.1) ((mkM c).2.2.1) (pickM v.y0 ((mkM c).2.1)) (pickM v.y1 ((mkM c).2.1))).2.1] v18)).2.1)), (21, .int .i64 ((witM ((mkM c).1) ((mkM c).2.1) ((mkM c).2.2.1) (pickM v.y0 ((mkM c).2.1)) (pickM v.y1 ((mkM c).2.1)) (lat [(brangeM ((mkM c).1) ((mkM c).2.1) ((mkM c).2.2.1) (pickM v.y0 ((mkM c).2.1)) (pickM v.y1 ((mkM c).2.1))).1, (brangeM ((mkM c).1) ((mkM c).2.1) ((mkM c).2.2.1) (pickM v.y0 ((mkM c).2.1)) (pickM v.y1 ((mkM c).2.1))).2.1] v18)).2.2)), (22, .bool v22), (23, .int .i64 v23)], [.dead, .dead, .box 27 [.lst false (((mkM c).1).dr).length (encL eInt (((mkM c).1).dr)), .int .i64 (((mkM c).1).la), .int .i64 (((mkM c).1).li), .lst false (((mkM c).1).sv).length (encL eInt (((mkM c).1).sv)), .lst false (((mkM c).1).tm).length (encL eInt (((mkM c).1).tm))], .row 3 1 (encL eInt [(brangeM ((mkM c).1) ((mkM c).2.1) ((mkM c).2.2.1) (pickM v.y0 ((mkM c).2.1)) (pickM v.y1 ((mkM c).2.1))).1, (brangeM ((mkM c).1) ((mkM c).2.1) ((mkM c).2.2.1) (pickM v.y0 ((mkM c).2.1)) (pickM v.y1 ((mkM c).2.1))).2.1])], 0⟩) I3 μ3 false (0 : Int) (St.to_mk (φ := [none, none, some 2, some 3]) rfl (rfl) ⟨Ren.ptr rfl, Ren.int _ _, Ren.lst _ _ _, Ren.int _ _, Ren.int _ _, Ren.int _ _, Ren.int _ _, Ren.lst _ _ _, Ren.ref rfl (fun h => h), Ren.int _ _, Ren.lst _ _ _, Ren.int _ _, Ren.int _ _, Ren.bool _, Ren.int _ _, trivial⟩ ⟨rfl, rfl, .inr ⟨_, rfl, rfl, Rens.cons (Ren.lst _ _ _) (Rens.cons (Ren.int _ _) (Rens.cons (Ren.int _ _) (Rens.cons (Ren.lst _ _ _) (Rens.cons (Ren.lst _ _ _) (Rens.nil)))))⟩, .inr ⟨_, rfl, rfl, rfl, rfl, Rens.enc encInt false [(brangeM ((mkM c).1) ((mkM c).2.1) ((mkM c).2.2.1) (pickM v.y0 ((mkM c).2.1)) (pickM v.y1 ((mkM c).2.1))).1, (brangeM ((mkM c).1) ((mkM c).2.1) ((mkM c).2.2.1) (pickM v.y0 ((mkM c).2.1)) (pickM v.y1 ((mkM c).2.1))).2.1]⟩, trivial⟩) hp ?_
 clear hp
 intro v22 v23 hI
 replace hv := hv v22 v23 hI
 clear hI
 refine W.seq' ?_
 refine W.rL ?_
 refine mI rfl rfl ?_
 refine mL rfl rfl ?_
 refine cL rfl (o_len (v := .lst _ _ _) tt23 rfl rfl ?_)
 refine cL rfl (o_lss rfl rfl ?_)
 refine eL ?_
 refine W.tr [(5, .ptr _ _), (6, .int _ _), (7, .lst _ _ _), (10, .int _ _), (11, .int _ _), (12, .int _ _), (13, .int _ _), (15, .lst _ _ _), (17, .ref _ _ _), (18, .int _ _), (19, .lst _ _ _), (20, .int _ _), (21, .int _ _), (22, .bool _), (23, .int _ _), (111, .bool _)] [.dead, .dead, .box _ [.lst _ _ _, .int _ _, .int _ _, .lst _ _ _, .lst _ _ _], .row _ _ _] ⟨rfl, rfl, rfl, rfl, rfl, rfl, rfl, rfl, rfl, rfl, rfl, rfl, rfl, rfl, rfl, rfl, trivial⟩ rfl ?_
 refine W.cn rfl (fun hc => ?_) (fun hc => ?_)
 have hv := hv.1 hc
 refine W.skip ?_
 refine th_nrm ?_
 refine W.tr [(5, .ptr _ _), (6, .int _ _), (7, .lst _ _ _), (10, .int _ _), (11, .int _ _), (12, .int _ _), (13, .int _ _), (15, .lst _ _ _), (17, .ref _ _ _), (18, .int _ _), (19, .lst _ _ _), (20, .int _ _), (21, .int _ _), (22, .bool _), (23, .int _ _)] [.dead, .dead, .box _ [.lst _ _ _, .int _ _, .int _ _, .lst _ _ _, .lst _ _ _], .row _ _ _] ⟨rfl, rfl, rfl, rfl, rfl, rfl, rfl, rfl, rfl, rfl, rfl, rfl, rfl, rfl, rfl, trivial⟩ rfl ?_
 refine W.seq' ?_
 refine W.block ?_
 obtain ⟨sd, hv⟩ := hv
 refine W.rLm1 ⟨220, look [(5, .ptr 2 0), (6, .int .i64 ((mkM c).2.1)), (7, .lst false ((mkM c).2.2.1).length (encL e66 ((mkM c).2.2.1))), (10, .int .i64 (pickM v.y0 ((mkM c).2.1))), (11, .int .i64 (pickM v.y1 ((mkM c).2.1))), (12, .int .i64 ((brangeM ((mkM c).1) ((mkM c).2.1) ((mkM c).2.2.1) (pickM v.y0 ((mkM c).2.1)) (pickM v.y1 ((mkM c).2.1))).1)), (13, .int .i64 ((brangeM ((mkM c).1) ((mkM c).2.1) ((mkM c).2.2.1) (pickM v.y0 ((mkM c).2.1)) (pickM v.y1 ((mkM c).2.1))).2.1)), (15, .lst false ((chM ((mkM c).1) ((mkM c).2.1) ((mkM c).2.2.1)).1).length (encL eInt ((chM ((mkM c).1) ((mkM c).2.1) ((mkM c).2.2.1)).1))), (17, .ref false 3 ([(brangeM ((mkM c).1) ((mkM c).2.1) ((mkM c).2.2.1) (pickM v.y0 ((mkM c).2.1)) (pickM v.y1 ((mkM c).2.1))).1, (brangeM ((mkM c).1) ((mkM c).2.1) ((mkM c).2.2.1) (pickM v.y0 ((mkM c).2.1)) (pickM v.y1 ((mkM c).2.1))).2.1].length)), (18, .int .i64 v18), (19, .lst false ((witM ((mkM c).1) ((mkM c).2.1) ((mkM c).2.2.1) (pickM v.y0 ((mkM c).2.1)) (pickM v.y1 ((mkM c).2.1)) (lat [(brangeM ((mkM c).1) ((mkM c).2.1) ((mkM c).2.2.1) (pickM v.y0 ((mkM c).2.1)) (pickM v.y1 ((mkM c).2.1))).1, (brangeM ((mkM c).1) ((mkM c).2.1) ((mkM c).2.2.1) (pickM v.y0 ((mkM c).2.1)) (pickM v.y1 ((mkM c).2.1))).2.1] v18)).1).length (encL eInt ((witM ((mkM c).1) ((mkM c).2.1) ((mkM c).2.2.1) (pickM v.y0 ((mkM c).2.1)) (pickM v.y1 ((mkM c).2.1)) (lat [(brangeM ((mkM c).1) ((mkM c).2.1) ((mkM c).2.2.1) (pickM v.y0 ((mkM c).2.1)) (pickM v.y1 ((mkM c).2.1))).1, (brangeM ((mkM c).1) ((mkM c).2.1) ((mkM c).2.2.1) (pickM v.y0 ((mkM c).2.1)) (pickM v.y1 ((mkM c).2.1))).2.1] v18)).1))), (20, .int .i64 ((witM ((mkM c).1) ((mkM c).2.1) ((mkM c).2.2.1) (pickM v.y0 ((mkM c).2.1)) (pickM v.y1 ((mkM c).2.1)) (lat [(brangeM ((mkM c).1) ((mkM c).2.1) ((mkM c).2.2.1) (pickM v.y0 ((mkM c).2.1)) (pickM v.y1 ((mkM c).2.1))).1, (brangeM ((mkM c).1) ((mkM c).2.1) ((mkM c).2.2.1) (pickM v.y0 ((mkM c).2.1)) (pickM v.y1 ((mkM c).2.1))).2.1] v18)).2.1)), (21, .int .i64 ((witM ((mkM c).1) ((mkM c).2.1) ((mkM c).2.2.1) (pickM v.y0 ((mkM c).2.1)) (pickM v.y1 ((mkM c).2.1)) (lat [(brangeM ((mkM c).1) ((mkM c).2.1) ((mkM c).2.2.1) (pickM v.y0 ((mkM c).2.1)) (pickM v.y1 ((mkM c).2.1))).1, (brangeM ((mkM c).1) ((mkM c).2.1) ((mkM c).2.2.1) (pickM v.y0 ((mkM c).2.1)) (pickM v.y1 ((mkM c).2.1))).2.1] v18)).2.2)), (22, .bool (decide ((v22 = true) ∨ (lat ((chM ((mkM c).1) ((mkM c).2.1) ((mkM c).2.2.1)).1) v23 = (witM ((mkM c).1) ((mkM c).2.1) ((mkM c).2.2.1) (pickM v.y0 ((mkM c).2.1)) (pickM v.y1 ((mkM c).2.1)) (lat [(brangeM ((mkM c).1) ((mkM c).2.1) ((mkM c).2.2.1) (pickM v.y0 ((mkM c).2.1)) (pickM v.y1 ((mkM c).2.1))).1, (brangeM ((mkM c).1) ((mkM c).2.1) ((mkM c).2.2.1) (pickM v.y0 ((mkM c).2.1)) (pickM v.y1 ((mkM c).2.1))).2.1] v18)).2.1)))), (23, .int .i64 v23)], [.dead, .dead, .box 27 [.lst false (((mkM c).1).dr).length (encL eInt (((mkM c).1).dr)), .int .i64 (((mkM c).1).la), .int .i64 (((mkM c).1).li), .lst false (((mkM c).1).sv).length (encL eInt (((mkM c).1).sv)), .lst false (((mkM c).1).tm).length (encL eInt (((mkM c).1).tm))], .row 3 1 (encL eInt [(brangeM ((mkM c).1) ((mkM c).2.1) ((mkM c).2.2.1) (pickM v.y0 ((mkM c).2.1)) (pickM v.y1 ((mkM c).2.1))).1, (brangeM ((mkM c).1) ((mkM c).2.1) ((mkM c).2.2.1) (pickM v.y0 ((mkM c).2.1)) (pickM v.y1 ((mkM c).2.1))).2.1])], 0⟩ (fun s hl h => W.le hl h) ?_ ?_
 iterate 2 refine mB rfl rfl ?_
 by_cases c1 : v22 = true
 iterate 6 refine cLs rfl rfl rfl (c1) ?_
 refine cL rfl (o_pickT (v := .bool _) rfl c1 rfl ?_)
 refine aB rfl rfl ?_
 refine eL ?_
 exact le_mk ⟨rfl, rfl, rfl, rfl, rfl, rfl, rfl, rfl, rfl, rfl, rfl, rfl, rfl, (congrArg AV.bool (dOrT c1)).symm, rfl, trivial⟩ rfl
 have sd := sd.2 c1
 refine cLg rfl rfl ((Bool.eq_false_iff.2 c1)) ?_
 refine mL rfl rfl ?_
 refine cLg rfl rfl ((Bool.eq_false_iff.2 c1)) ?_
 refine mI rfl rfl ?_
 refine cLg rfl rfl ((Bool.eq_false_iff.2 c1)) ?_
 obtain ⟨s378, sd⟩ := sd
 refine cL rfl (o_iaL tt23 tt3 rfl rfl (encInt.wd true) rfl s378 ?_)
 intro rest378
 refine cLg rfl rfl ((Bool.eq_false_iff.2 c1)) ?_
 refine cL rfl (o_ldS (v := .int _ _) tt3 rfl rfl ⟨_, rfl⟩ ?_)
 refine cLg rfl rfl ((Bool.eq_false_iff.2 c1)) ?_
 refine mI rfl rfl ?_
 refine cLg rfl rfl ((Bool.eq_false_iff.2 c1)) ?_
 refine cL rfl (o_eqI rfl rfl rfl ?_)
 refine cL rfl (o_pickF (v := .bool _) rfl (Bool.eq_false_iff.2 c1) rfl ?_)
 refine aB rfl rfl ?_
 refine eL ?_
 exact le_mk ⟨rfl, rfl, rfl, rfl, rfl, rfl, rfl, rfl, rfl, rfl, rfl, rfl, rfl, (congrArg AV.bool (dOrF c1 (rfl))).symm, rfl, trivial⟩ rfl
 refine bl_nrm (th_nrm ?_)
 refine W.tr [(5, .ptr _ _), (6, .int _ _), (7, .lst _ _ _), (10, .int _ _), (11, .int _ _), (12, .int _ _), (13, .int _ _), (15, .lst _ _ _), (17, .ref _ _ _), (18, .int _ _), (19, .lst _ _ _), (20, .int _ _), (21, .int _ _), (22, .bool _), (23, .int _ _)] [.dead, .dead, .box _ [.lst _ _ _, .int _ _, .int _ _, .lst _ _ _, .lst _ _ _], .row _ _ _] ⟨rfl, rfl, rfl, rfl, rfl, rfl, rfl, rfl, rfl, rfl, rfl, rfl, rfl, rfl, rfl, trivial⟩ rfl ?_
 refine W.rL1 ?_
 refine mI rfl rfl ?_
 obtain ⟨s379, hv⟩ := hv
 refine cL rfl (o_add rfl rfl s379 ?_)
 refine aI rfl rfl ?_
 refine eL ?_
 exact th_nrm (⟨(), (decide ((v22 = true) ∨ (lat ((chM ((mkM c).1) ((mkM c).2.1) ((mkM c).2.2.1)).1) v23 = (witM ((mkM c).1) ((mkM c).2.1) ((mkM c).2.2.1) (pickM v.y0 ((mkM c).2.1)) (pickM v.y1 ((mkM c).2.1)) (lat [(brangeM ((mkM c).1) ((mkM c).2.1) ((mkM c).2.2.1) (pickM v.y0 ((mkM c).2.1)) (pickM v.y1 ((mkM c).2.1))).1, (brangeM ((mkM c).1) ((mkM c).2.1) ((mkM c).2.2.1) (pickM v.y0 ((mkM c).2.1)) (pickM v.y1 ((mkM c).2.1))).2.1] v18)).2.1))), (v23 + (1 : Int)), hv, St.to_mk (φ := [none, none, some 2, some 3]) rfl (rfl) ⟨Ren.ptr rfl, Ren.int _ _, Ren.lst _ _ _, Ren.int _ _, Ren.int _ _, Ren.int _ _, Ren.int _ _, Ren.lst _ _ _, Ren.ref rfl (fun h => h), Ren.int _ _, Ren.lst _ _ _, Ren.int _ _, Ren.int _ _, Ren.bool _, Ren.int _ _, trivial⟩ ⟨rfl, rfl, .inr ⟨_, rfl, rfl, Rens.cons (Ren.lst _ _ _) (Rens.cons (Ren.int _ _) (Rens.cons (Ren.int _ _) (Rens.cons (Ren.lst _ _ _) (Rens.cons (Ren.lst _ _ _) (Rens.nil)))))⟩, .inr ⟨_, rfl, rfl, rfl, rfl, Rens.enc encInt false [(brangeM ((mkM c).1) ((mkM c).2.1) ((mkM c).2.2.1) (pickM v.y0 ((mkM c).2.1)) (pickM v.y1 ((mkM c).2.1))).1, (brangeM ((mkM c).1) ((mkM c).2.1) ((mkM c).2.2.1) (pickM v.y0 ((mkM c).2.1)) (pickM v.y1 ((mkM c).2.1))).2.1]⟩, trivial⟩⟩)
 have hv := hv.2 hc
 refine W.exit ?_
 refine th_exit (th_exit (bl_hit (th_nrm ?_)))
 refine W.tr [(5, .ptr _ _), (6, .int _ _), (7, .lst _ _ _), (10, .int _ _), (11, .int _ _), (12, .int _ _), (13, .int _ _), (15, .lst _ _ _), (17, .ref _ _ _), (18, .int _ _), (19, .lst _ _ _), (20, .int _ _), (21, .int _ _), (22, .bool _)] [.dead, .dead, .box _ [.lst _ _ _, .int _ _, .int _ _, .lst _ _ _, .lst _ _ _], .row _ _ _] ⟨rfl, rfl, rfl, rfl, rfl, rfl, rfl, rfl, rfl, rfl, rfl, rfl, rfl, rfl, trivial⟩ rfl ?_
 obtain ⟨sd, hv⟩ := hv
 refine W.rPm ⟨220, look [(5, .ptr 2 0), (6, .int .i64 ((mkM c).2.1)), (7, .lst false ((mkM c).2.2.1).length (encL e66 ((mkM c).2.2.1))), (10, .int .i64 (pickM v.y0 ((mkM c).2.1))), (11, .int .i64 (pickM v.y1 ((mkM c).2.1))), (12, .int .i64 ((brangeM ((mkM c).1) ((mkM c).2.1) ((mkM c).2.2.1) (pickM v.y0 ((mkM c).2.1)) (pickM v.y1 ((mkM c).2.1))).1)), (13, .int .i64 ((brangeM ((mkM c).1) ((mkM c).2.1) ((mkM c).2.2.1) (pickM v.y0 ((mkM c).2.1)) (pickM v.y1 ((mkM c).2.1))).2.1)), (15, .lst false ((chM ((mkM c).1) ((mkM c).2.1) ((mkM c).2.2.1)).1).length (encL eInt ((chM ((mkM c).1) ((mkM c).2.1) ((mkM c).2.2.1)).1))), (17, .ref false 3 ([(brangeM ((mkM c).1) ((mkM c).2.1) ((mkM c).2.2.1) (pickM v.y0 ((mkM c).2.1)) (pickM v.y1 ((mkM c).2.1))).1, (brangeM ((mkM c).1) ((mkM c).2.1) ((mkM c).2.2.1) (pickM v.y0 ((mkM c).2.1)) (pickM v.y1 ((mkM c).2.1))).2.1].length)), (18, .int .i64 v18), (158, .bool (decide ((¬ (witM ((mkM c).1) ((mkM c).2.1) ((mkM c).2.2.1) (pickM v.y0 ((mkM c).2.1)) (pickM v.y1 ((mkM c).2.1)) (lat [(brangeM ((mkM c).1) ((mkM c).2.1) ((mkM c).2.2.1) (pickM v.y0 ((mkM c).2.1)) (pickM v.y1 ((mkM c).2.1))).1, (brangeM ((mkM c).1) ((mkM c).2.1) ((mkM c).2.2.1) (pickM v.y0 ((mkM c).2.1)) (pickM v.y1 ((mkM c).2.1))).2.1] v18)).2.2 = (0 : Int)) ∨ ((¬ (v22 = true)) ∨ ((¬ ((((witM ((mkM c).1) ((mkM c).2.1) ((mkM c).2.2.1) (pickM v.y0 ((mkM c).2.1)) (pickM v.y1 ((mkM c).2.1)) (lat [(brangeM ((mkM c).1) ((mkM c).2.1) ((mkM c).2.2.1) (pickM v.y0 ((mkM c).2.1)) (pickM v.y1 ((mkM c).2.1))).1, (brangeM ((mkM c).1) ((mkM c).2.1) ((mkM c).2.2.1) (pickM v.y0 ((mkM c).2.1)) (pickM v.y1 ((mkM c).2.1))).2.1] v18)).1).length : Nat) : Int) = (mkM c).2.1) ∨ ((¬ ((lat ((witM ((mkM c).1) ((mkM c).2.1) ((mkM c).2.2.1) (pickM v.y0 ((mkM c).2.1)) (pickM v.y1 ((mkM c).2.1)) (lat [(brangeM ((mkM c).1) ((mkM c).2.1) ((mkM c).2.2.1) (pickM v.y0 ((mkM c).2.1)) (pickM v.y1 ((mkM c).2.1))).1, (brangeM ((mkM c).1) ((mkM c).2.1) ((mkM c).2.2.1) (pickM v.y0 ((mkM c).2.1)) (pickM v.y1 ((mkM c).2.1))).2.1] v18)).1) (pickM v.y1 ((mkM c).2.1))) - (lat ((witM ((mkM c).1) ((mkM c).2.1) ((mkM c).2.2.1) (pickM v.y0 ((mkM c).2.1)) (pickM v.y1 ((mkM c).2.1)) (lat [(brangeM ((mkM c).1) ((mkM c).2.1) ((mkM c).2.2.1) (pickM v.y0 ((mkM c).2.1)) (pickM v.y1 ((mkM c).2.1))).1, (brangeM ((mkM c).1) ((mkM c).2.1) ((mkM c).2.2.1) (pickM v.y0 ((mkM c).2.1)) (pickM v.y1 ((mkM c).2.1))).2.1] v18)).1) (pickM v.y0 ((mkM c).2.1)))) = lat [(brangeM ((mkM c).1) ((mkM c).2.1) ((mkM c).2.2.1) (pickM v.y0 ((mkM c).2.1)) (pickM v.y1 ((mkM c).2.1))).1, (brangeM ((mkM c).1) ((mkM c).2.1) ((mkM c).2.2.1) (pickM v.y0 ((mkM c).2.1)) (pickM v.y1 ((mkM c).2.1))).2.1] v18) ∨ (¬ ((holdsM (partM ((mkM c).2.2.1) ((witM ((mkM c).1) ((mkM c).2.1) ((mkM c).2.2.1) (pickM v.y0 ((mkM c).2.1)) (pickM v.y1 ((mkM c).2.1)) (lat [(brangeM ((mkM c).1) ((mkM c).2.1) ((mkM c).2.2.1) (pickM v.y0 ((mkM c).2.1)) (pickM v.y1 ((mkM c).2.1))).1, (brangeM ((mkM c).1) ((mkM c).2.1) ((mkM c).2.2.1) (pickM v.y0 ((mkM c).2.1)) (pickM v.y1 ((mkM c).2.1))).2.1] v18)).2.1)) ((witM ((mkM c).1) ((mkM c).2.1) ((mkM c).2.2.1) (pickM v.y0 ((mkM c).2.1)) (pickM v.y1 ((mkM c).2.1)) (lat [(brangeM ((mkM c).1) ((mkM c).2.1) ((mkM c).2.2.1) (pickM v.y0 ((mkM c).2.1)) (pickM v.y1 ((mkM c).2.1))).1, (brangeM ((mkM c).1) ((mkM c).2.1) ((mkM c).2.2.1) (pickM v.y0 ((mkM c).2.1)) (pickM v.y1 ((mkM c).2.1))).2.1] v18)).1)) = true))))))))], [.dead, .dead, .box 27 [.lst false (((mkM c).1).dr).length (encL eInt (((mkM c).1).dr)), .int .i64 (((mkM c).1).la), .int .i64 (((mkM c).1).li), .lst false (((mkM c).1).sv).length (encL eInt (((mkM c).1).sv)), .lst false (((mkM c).1).tm).length (encL eInt (((mkM c).1).tm))], .row 3 1 (encL eInt [(brangeM ((mkM c).1) ((mkM c).2.1) ((mkM c).2.2.1) (pickM v.y0 ((mkM c).2.1)) (pickM v.y1 ((mkM c).2.1))).1, (brangeM ((mkM c).1) ((mkM c).2.1) ((mkM c).2.2.1) (pickM v.y0 ((mkM c).2.1)) (pickM v.y1 ((mkM c).2.1))).2.1])], 0⟩ [0, 1, 2, 3, 4, 5, 6, 7, 8, 9, 10, 11, 12, 13, 14, 15, 16, 17, 18, 19, 20, 21, 22, 23, 24, 25, 26, 27, 28, 29, 30, 32, 31, 33, 34, 35] (by decide +kernel) rfl ?_ ?_
 refine mI rfl rfl ?_
 refine cL rfl (o_neI rfl rfl rfl ?_)
 refine mB rfl rfl ?_
 by_cases c1 : ¬ (witM ((mkM c).1) ((mkM c).2.1) ((mkM c).2.2.1) (pickM v.y0 ((mkM c).2.1)) (pickM v.y1 ((mkM c).2.1)) (lat [(brangeM ((mkM c).1) ((mkM c).2.1) ((mkM c).2.2.1) (pickM v.y0 ((mkM c).2.1)) (pickM v.y1 ((mkM c).2.1))).1, (brangeM ((mkM c).1) ((mkM c).2.1) ((mkM c).2.2.1) (pickM v.y0 ((mkM c).2.1)) (pickM v.y1 ((mkM c).2.1))).2.1] v18)).2.2 = (0 : Int)
 iterate 2 refine cLs rfl rfl rfl (decide_eq_true c1) ?_
 refine cL rfl (o_pickT (v := .bool _) rfl (decide_eq_true c1) rfl ?_)
 refine mB rfl rfl ?_
 iterate 4 refine cLs rfl rfl rfl (rfl) ?_
 refine cL rfl (o_pickT (v := .bool _) rfl rfl rfl ?_)
 refine mB rfl rfl ?_
 iterate 14 refine cLs rfl rfl rfl (rfl) ?_
 refine cL rfl (o_pickT (v := .bool _) rfl rfl rfl ?_)
 refine mB rfl rfl ?_
 iterate 6 refine cLs rfl rfl rfl (rfl) ?_
 refine cL rfl (o_pickT (v := .bool _) rfl rfl rfl ?_)
 refine eL ?_
 exact le_mk ⟨rfl, rfl, rfl, rfl, rfl, rfl, rfl, rfl, rfl, rfl, (congrArg AV.bool (dOrT c1)).symm, trivial⟩ rfl
 have sd := sd.2 c1
 refine cLg rfl rfl (decide_eq_false c1) ?_
 refine mB rfl rfl ?_
 refine cLg rfl rfl (decide_eq_false c1) ?_
 refine cL rfl (o_notB rfl ?_)
 refine cL rfl (o_pickF (v := .bool _) rfl (decide_eq_false c1) rfl ?_)
 refine mB rfl rfl ?_
 by_cases c2 : ¬ (v22 = true)
 iterate 4 refine cLs rfl rfl rfl (decide_eq_true c2) ?_
 refine cL rfl (o_pickT (v := .bool _) rfl (decide_eq_true c2) rfl ?_)
 refine mB rfl rfl ?_
 iterate 14 refine cLs rfl rfl rfl (rfl) ?_
 refine cL rfl (o_pickT (v := .bool _) rfl rfl rfl ?_)
 refine mB rfl rfl ?_
 iterate 6 refine cLs rfl rfl rfl (rfl) ?_
 refine cL rfl (o_pickT (v := .bool _) rfl rfl rfl ?_)
 refine eL ?_
 exact le_mk ⟨rfl, rfl, rfl, rfl, rfl, rfl, rfl, rfl, rfl, rfl, (congrArg AV.bool (dOrF c1 (dOrT c2))).symm, trivial⟩ rfl
 have sd := sd.2 c2
 refine cLg rfl rfl (decide_eq_false c2) ?_
 refine mL rfl rfl ?_
 refine cLg rfl rfl (decide_eq_false c2) ?_
 refine cL rfl (o_len (v := .lst _ _ _) tt23 rfl rfl ?_)
 refine cLg rfl rfl (decide_eq_false c2) ?_
 refine mI rfl rfl ?_
 refine cLg rfl rfl (decide_eq_false c2) ?_
 refine cL rfl (o_neI rfl rfl rfl ?_)
 refine cL rfl (o_pickF (v := .bool _) rfl (decide_eq_false c2) rfl ?_)
 refine mB rfl rfl ?_
 by_cases c3 : ¬ ((((witM ((mkM c).1) ((mkM c).2.1) ((mkM c).2.2.1) (pickM v.y0 ((mkM c).2.1)) (pickM v.y1 ((mkM c).2.1)) (lat [(brangeM ((mkM c).1) ((mkM c).2.1) ((mkM c).2.2.1) (pickM v.y0 ((mkM c).2.1)) (pickM v.y1 ((mkM c).2.1))).1, (brangeM ((mkM c).1) ((mkM c).2.1) ((mkM c).2.2.1) (pickM v.y0 ((mkM c).2.1)) (pickM v.y1 ((mkM c).2.1))).2.1] v18)).1).length : Nat) : Int) = (mkM c).2.1
 iterate 14 refine cLs rfl rfl rfl (decide_eq_true c3) ?_
 refine cL rfl (o_pickT (v := .bool _) rfl (decide_eq_true c3) rfl ?_)
 refine mB rfl rfl ?_
 iterate 6 refine cLs rfl rfl rfl (rfl) ?_
 refine cL rfl (o_pickT (v := .bool _) rfl rfl rfl ?_)
 refine eL ?_
 exact le_mk ⟨rfl, rfl, rfl, rfl, rfl, rfl, rfl, rfl, rfl, rfl, (congrArg AV.bool (dOrF c1 (dOrF c2 (dOrT c3)))).symm, trivial⟩ rfl
 have sd := sd.2 c3
 refine cLg rfl rfl (decide_eq_false c3) ?_
 refine mL rfl rfl ?_
 refine cLg rfl rfl (decide_eq_false c3) ?_
 refine mI rfl rfl ?_
 refine cLg rfl rfl (decide_eq_false c3) ?_
 obtain ⟨s387, sd⟩ := sd
 refine cL rfl (o_iaL tt23 tt3 rfl rfl (encInt.wd true) rfl s387 ?_)
 intro rest387
 refine cLg rfl rfl (decide_eq_false c3) ?_
 refine cL rfl (o_ldS (v := .int _ _) tt3 rfl rfl ⟨_, rfl⟩ ?_)
 refine cLg rfl rfl (decide_eq_false c3) ?_
 refine mL rfl rfl ?_
 refine cLg rfl rfl (decide_eq_false c3) ?_
 refine mI rfl rfl ?_
 refine cLg rfl rfl (decide_eq_false c3) ?_
 obtain ⟨s388, sd⟩ := sd
 refine cL rfl (o_iaL tt23 tt3 rfl rfl (encInt.wd true) rfl s388 ?_)
 intro rest388
 refine cLg rfl rfl (decide_eq_false c3) ?_
 refine cL rfl (o_ldS (v := .int _ _) tt3 rfl rfl ⟨_, rfl⟩ ?_)
 refine cLg rfl rfl (decide_eq_false c3) ?_
 obtain ⟨s389, sd⟩ := sd
 refine cL rfl (o_sub rfl rfl s389 ?_)
 refine cLg rfl rfl (decide_eq_false c3) ?_
 refine cL rfl (o_move (v := .ref _ _ _) rfl ?_)
 refine cLg rfl rfl (decide_eq_false c3) ?_
 refine mI rfl rfl ?_
 refine cLg rfl rfl (decide_eq_false c3) ?_
 obtain ⟨s390, sd⟩ := sd
 refine cL rfl (o_iaR tt23 tt3 rfl rfl s390 ?_)
 refine cLg rfl rfl (decide_eq_false c3) ?_
 refine cL rfl (o_ldS (v := .int _ _) tt3 rfl rfl (cell_of (ca_row (xs := [(brangeM ((mkM c).1) ((mkM c).2.1) ((mkM c).2.2.1) (pickM v.y0 ((mkM c).2.1)) (pickM v.y1 ((mkM c).2.1))).1, (brangeM ((mkM c).1) ((mkM c).2.1) ((mkM c).2.2.1) (pickM v.y0 ((mkM c).2.1)) (pickM v.y1 ((mkM c).2.1))).2.1]) rfl (encInt.wd false) s390) rfl) ?_)
 refine cLg rfl rfl (decide_eq_false c3) ?_
 refine cL rfl (o_neI rfl rfl rfl ?_)
 refine cL rfl (o_pickF (v := .bool _) rfl (decide_eq_false c3) rfl ?_)
 refine mB rfl rfl ?_
 by_cases c4 : ¬ ((lat ((witM ((mkM c).1) ((mkM c).2.1) ((mkM c).2.2.1) (pickM v.y0 ((mkM c).2.1)) (pickM v.y1 ((mkM c).2.1)) (lat [(brangeM ((mkM c).1) ((mkM c).2.1) ((mkM c).2.2.1) (pickM v.y0 ((mkM c).2.1)) (pickM v.y1 ((mkM c).2.1))).1, (brangeM ((mkM c).1) ((mkM c).2.1) ((mkM c).2.2.1) (pickM v.y0 ((mkM c).2.1)) (pickM v.y1 ((mkM c).2.1))).2.1] v18)).1) (pickM v.y1 ((mkM c).2.1))) - (lat ((witM ((mkM c).1) ((mkM c).2.1) ((mkM c).2.2.1) (pickM v.y0 ((mkM c).2.1)) (pickM v.y1 ((mkM c).2.1)) (lat [(brangeM ((mkM c).1) ((mkM c).2.1) ((mkM c).2.2.1) (pickM v.y0 ((mkM c).2.1)) (pickM v.y1 ((mkM c).2.1))).1, (brangeM ((mkM c).1) ((mkM c).2.1) ((mkM c).2.2.1) (pickM v.y0 ((mkM c).2.1)) (pickM v.y1 ((mkM c).2.1))).2.1] v18)).1) (pickM v.y0 ((mkM c).2.1)))) = lat [(brangeM ((mkM c).1) ((mkM c).2.1) ((mkM c).2.2.1) (pickM v.y0 ((mkM c).2.1)) (pickM v.y1 ((mkM c).2.1))).1, (brangeM ((mkM c).1) ((mkM c).2.1) ((mkM c).2.2.1) (pickM v.y0 ((mkM c).2.1)) (pickM v.y1 ((mkM c).2.1))).2.1] v18
 iterate 6 refine cLs rfl rfl rfl (decide_eq_true c4) ?_
 refine cL rfl (o_pickT (v := .bool _) rfl (decide_eq_true c4) rfl ?_)
 refine eL ?_
 exact le_mk ⟨rfl, rfl, rfl, rfl, rfl, rfl, rfl, rfl, rfl, rfl, (congrArg AV.bool (dOrF c1 (dOrF c2 (dOrF c3 (dOrT c4))))).symm, trivial⟩ rfl
 have sd := sd.2 c4
 refine cLg rfl rfl (decide_eq_false c4) ?_
 refine mL rfl rfl ?_
 refine cLg rfl rfl (decide_eq_false c4) ?_
 refine mI rfl rfl ?_
 refine cLg rfl rfl (decide_eq_false c4) ?_
 refine mL rfl rfl ?_
 refine cLg rfl rfl (decide_eq_false c4) ?_
 obtain ⟨s391, sd⟩ := sd
 refine cL rfl (o_callP1 (k := 19) (fst := []) (caps := []) (ys := [.lst _ _ _, .int _ _]) rfl rfl (spec_part ((mkM c).2.2.1) ((witM ((mkM c).1) ((mkM c).2.1) ((mkM c).2.2.1) (pickM v.y0 ((mkM c).2.1)) (pickM v.y1 ((mkM c).2.1)) (lat [(brangeM ((mkM c).1) ((mkM c).2.1) ((mkM c).2.2.1) (pickM v.y0 ((mkM c).2.1)) (pickM v.y1 ((mkM c).2.1))).1, (brangeM ((mkM c).1) ((mkM c).2.1) ((mkM c).2.2.1) (pickM v.y0 ((mkM c).2.1)) (pickM v.y1 ((mkM c).2.1))).2.1] v18)).2.1) s391) (Wks.cons (ag_lst _ _ _ _ _) (Wks.cons (ag_int _ _ _ _) (Wks.refl _))) ?_)
 refine cLg rfl rfl (decide_eq_false c4) ?_
 obtain ⟨s392, s393, sd⟩ := sd
 refine cL rfl (o_callP1 (k := 31) (fst := []) (caps := []) (ys := [.lst _ _ _, .lst _ _ _]) rfl rfl (spec_holds (partM ((mkM c).2.2.1) ((witM ((mkM c).1) ((mkM c).2.1) ((mkM c).2.2.1) (pickM v.y0 ((mkM c).2.1)) (pickM v.y1 ((mkM c).2.1)) (lat [(brangeM ((mkM c).1) ((mkM c).2.1) ((mkM c).2.2.1) (pickM v.y0 ((mkM c).2.1)) (pickM v.y1 ((mkM c).2.1))).1, (brangeM ((mkM c).1) ((mkM c).2.1) ((mkM c).2.2.1) (pickM v.y0 ((mkM c).2.1)) (pickM v.y1 ((mkM c).2.1))).2.1] v18)).2.1)) ((witM ((mkM c).1) ((mkM c).2.1) ((mkM c).2.2.1) (pickM v.y0 ((mkM c).2.1)) (pickM v.y1 ((mkM c).2.1)) (lat [(brangeM ((mkM c).1) ((mkM c).2.1) ((mkM c).2.2.1) (pickM v.y0 ((mkM c).2.1)) (pickM v.y1 ((mkM c).2.1))).1, (brangeM ((mkM c).1) ((mkM c).2.1) ((mkM c).2.2.1) (pickM v.y0 ((mkM c).2.1)) (pickM v.y1 ((mkM c).2.1))).2.1] v18)).1) s392 s393) (Wks.cons (ag_lst _ _ _ _ _) (Wks.cons (ag_lst _ _ _ _ _) (Wks.refl _))) ?_)
 refine cLg rfl rfl (decide_eq_false c4) ?_
 refine cL rfl (o_notB rfl ?_)
 refine cL rfl (o_pickF (v := .bool _) rfl (decide_eq_false c4) rfl ?_)
 refine eL ?_
 exact le_mk ⟨rfl, rfl, rfl, rfl, rfl, rfl, rfl, rfl, rfl, rfl, (congrArg AV.bool (dOrF c1 (dOrF c2 (dOrF c3 (dOrF c4 (rfl)))))).symm, trivial⟩ rfl
 refine W.cn rfl (fun hc => ?_) (fun hc => ?_)
 have hv := hv.1 hc
 refine W.rL ?_
 refine aB rfl rfl ?_
 refine eL ?_
 refine W.tr [(4, .bool _)] [.dead, .dead, .box _ [.lst _ _ _, .int _ _, .int _ _, .lst _ _ _, .lst _ _ _], .row _ _ _] ⟨rfl, trivial⟩ rfl ?_
 refine W.ret ?_
 refine bl_ret (th_ret (th_ret (bl_ret (th_ret (rt ?_)))))
 refine rt_t (v := .bool _) rfl ?_
 refine rt_n ?_
 exact ⟨_, rs_bool _ _ _, false, rfl, hv⟩
 have hv := hv.2 hc
 refine W.skip ?_
 exact bl_nrm (th_nrm (⟨(), hv, St.to_mk (φ := [none, none, some 2, some 3]) rfl (rfl) ⟨Ren.ptr rfl, Ren.int _ _, Ren.lst _ _ _, Ren.int _ _, Ren.int _ _, Ren.int _ _, Ren.int _ _, Ren.lst _ _ _, Ren.ref rfl (fun h => h), Ren.int _ _, trivial⟩ ⟨rfl, rfl, .inr ⟨_, rfl, rfl, Rens.cons (Ren.lst _ _ _) (Rens.cons (Ren.int _ _) (Rens.cons (Ren.int _ _) (Rens.cons (Ren.lst _ _ _) (Rens.cons (Ren.lst _ _ _) (Rens.nil)))))⟩, .inr ⟨_, rfl, rfl, rfl, rfl, Rens.enc encInt false [(brangeM ((mkM c).1) ((mkM c).2.1) ((mkM c).2.2.1) (pickM v.y0 ((mkM c).2.1)) (pickM v.y1 ((mkM c).2.1))).1, (brangeM ((mkM c).1) ((mkM c).2.1) ((mkM c).2.2.1) (pickM v.y0 ((mkM c).2.1)) (pickM v.y1 ((mkM c).2.1))).2.1]⟩, trivial⟩⟩))
 have hv := hv.2 hc
 refine W.exit ?_
 refine th_exit (th_exit (bl_hit (th_nrm ?_)))
 refine W.tr [(5, .ptr _ _), (6, .int _ _), (7, .lst _ _ _), (10, .int _ _), (11, .int _ _), (12, .int _ _), (13, .int _ _), (15, .lst _ _ _)] [.dead, .dead, .box _ [.lst _ _ _, .int _ _, .int _ _, .lst _ _ _, .lst _ _ _], .row _ _ _] ⟨rfl, rfl, rfl, rfl, rfl, rfl, rfl, rfl, trivial⟩ rfl ?_
 refine W.seq' ?_
 refine W.rL ?_
 refine aI rfl rfl ?_
 refine eL ?_
 refine W.tr [(5, .ptr _ _), (6, .int _ _), (7, .lst _ _ _), (10, .int _ _), (11, .int _ _), (12, .int _ _), (13, .int _ _), (15, .lst _ _ _), (24, .int _ _)] [.dead, .dead, .box _ [.lst _ _ _, .int _ _, .int _ _, .lst _ _ _, .lst _ _ _], .row _ _ _] ⟨rfl, rfl, rfl, rfl, rfl, rfl, rfl, rfl, rfl, trivial⟩ rfl ?_
 refine W.block ?_
 obtain ⟨I4, μ4, hp, hv⟩ := hv
 refine W.loop1 (fun v24 => ⟨220, look [(5, .ptr 2 0), (6, .int .i64 ((mkM c).2.1)), (7, .lst false ((mkM c).2.2.1).length (encL e66 ((mkM c).2.2.1))), (10, .int .i64 (pickM v.y0 ((mkM c).2.1))), (11, .int .i64 (pickM v.y1 ((mkM c).2.1))), (12, .int .i64 ((brangeM ((mkM c).1) ((mkM c).2.1) ((mkM c).2.2.1) (pickM v.y0 ((mkM c).2.1)) (pickM v.y1 ((mkM c).2.1))).1)), (13, .int .i64 ((brangeM ((mkM c).1) ((mkM c).2.1) ((mkM c).2.2.1) (pickM v.y0 ((mkM c).2.1)) (pickM v.y1 ((mkM c).2.1))).2.1)), (15, .lst false ((chM ((mkM c).1) ((mkM c).2.1) ((mkM c).2.2.1)).1).length (encL eInt ((chM ((mkM c).1) ((mkM c).2.1) ((mkM c).2.2.1)).1))), (24, .int .i64 v24)], [.dead, .dead, .box 27 [.lst false (((mkM c).1).dr).length (encL eInt (((mkM c).1).dr)), .int .i64 (((mkM c).1).la), .int .i64 (((mkM c).1).li), .lst false (((mkM c).1).sv).length (encL eInt (((mkM c).1).sv)), .lst false (((mkM c).1).tm).length (encL eInt (((mkM c).1).tm))]], 0⟩) I4 μ4 (0 : Int) (St.to_mk (φ := [none, none, some 2]) rfl (rfl) ⟨Ren.ptr rfl, Ren.int _ _, Ren.lst _ _ _, Ren.int _ _, Ren.int _ _, Ren.int _ _, Ren.int _ _, Ren.lst _ _ _, Ren.int _ _, trivial⟩ ⟨rfl, rfl, .inr ⟨_, rfl, rfl, Rens.cons (Ren.lst _ _ _) (Rens.cons (Ren.int _ _) (Rens.cons (Ren.int _ _) (Rens.cons (Ren.lst _ _ _) (Rens.cons (Ren.lst _ _ _) (Rens.nil)))))⟩, trivial⟩) hp ?_
 clear hp
 intro v24 hI
 replace hv := hv v24 hI
 clear hI
 refine W.seq' ?_
 refine W.rL ?_
 refine mI rfl rfl ?_
 refine mL rfl rfl ?_
 refine cL rfl (o_len (v := .lst _ _ _) tt23 rfl rfl ?_)
 refine cL rfl (o_lss rfl rfl ?_)
 refine eL ?_
 refine W.tr [(5, .ptr _ _), (6, .int _ _), (7, .lst _ _ _), (10, .int _ _), (11, .int _ _), (12, .int _ _), (13, .int _ _), (15, .lst _ _ _), (24, .int _ _), (162, .bool _)] [.dead, .dead, .box _ [.lst _ _ _, .int _ _, .int _ _, .lst _ _ _, .lst _ _ _]] ⟨rfl, rfl, rfl, rfl, rfl, rfl, rfl, rfl, rfl, rfl, trivial⟩ rfl ?_
 refine W.cn rfl (fun hc => ?_) (fun hc => ?_)
 have hv := hv.1 hc
 refine W.skip ?_
 refine th_nrm ?_
 refine W.tr [(5, .ptr _ _), (6, .int _ _), (7, .lst _ _ _), (10, .int _ _), (11, .int _ _), (12, .int _ _), (13, .int _ _), (15, .lst _ _ _), (24, .int _ _)] [.dead, .dead, .box _ [.lst _ _ _, .int _ _, .int _ _, .lst _ _ _, .lst _ _ _]] ⟨rfl, rfl, rfl, rfl, rfl, rfl, rfl, rfl, rfl, trivial⟩ rfl ?_
 refine W.seq' ?_
 refine W.block ?_
 refine W.rL ?_
 refine mI rfl rfl ?_
 iterate 2 refine mL rfl rfl ?_
 refine mI rfl rfl ?_
 obtain ⟨s432, hv⟩ := hv
 refine cL rfl (o_iaL tt23 tt3 rfl rfl (encInt.wd true) rfl s432 ?_)
 intro rest432
 refine cL rfl (o_ldS (v := .int _ _) tt3 rfl rfl ⟨_, rfl⟩ ?_)
 obtain ⟨s433, hv⟩ := hv
 refine cL rfl (o_callP1 (k := 19) (fst := []) (caps := []) (ys := [.lst _ _ _, .int _ _]) rfl rfl (spec_part ((mkM c).2.2.1) (lat ((chM ((mkM c).1) ((mkM c).2.1) ((mkM c).2.2.1)).1) v24) s433) (Wks.cons (ag_lst _ _ _ _ _) (Wks.cons (ag_int _ _ _ _) (Wks.refl _))) ?_)
 obtain ⟨s434, hv⟩ := hv
 refine cL rfl (o_callP1 (k := 26) (fst := []) (caps := []) (ys := [.int _ _, .lst _ _ _]) rfl rfl (spec_close ((mkM c).2.1) (partM ((mkM c).2.2.1) (lat ((chM ((mkM c).1) ((mkM c).2.1) ((mkM c).2.2.1)).1) v24)) s434) (Wks.cons (ag_int _ _ _ _) (Wks.cons (ag_lst _ _ _ _ _) (Wks.refl _))) ?_)
 refine cL rfl (o_move (v := .tup _) rfl ?_)
 refine cL rfl (o_ext (v := .agg _) rfl rfl ?_)
 refine cL rfl (o_ext (v := .lst _ _ _) rfl rfl ?_)
 refine cL rfl (o_ext (v := .int _ _) rfl rfl ?_)
 refine cL rfl (o_alloc (p := 3) tt53 rfl rfl ?_)
 refine cLn (o_stB (v := .agg _) (vs := [.int _ _, .lst _ _ _]) (cs2 := [.int _ _, .lst _ _ _]) tt53 rfl rfl rfl rfl rfl (Nat.le_of_ble_eq_true rfl) rfl ?_)
 refine aL rfl rfl ?_
 refine aI rfl rfl ?_
 refine eL ?_
 refine W.tr [(5, .ptr _ _), (6, .int _ _), (7, .lst _ _ _), (10, .int _ _), (11, .int _ _), (12, .int _ _), (13, .int _ _), (15, .lst _ _ _), (24, .int _ _), (25, .ptr _ _), (27, .int _ _)] [.dead, .dead, .box _ [.lst _ _ _, .int _ _, .int _ _, .lst _ _ _, .lst _ _ _], .box _ [.int _ _, .lst _ _ _]] ⟨rfl, rfl, rfl, rfl, rfl, rfl, rfl, rfl, rfl, rfl, rfl, trivial⟩ rfl ?_
 refine W.rL ?_
 refine cL rfl (o_ldA (cs := [.int _ _, .lst _ _ _]) tt53 rfl rfl ⟨_, rfl⟩ rfl ?_)
 iterate 2 refine mI rfl rfl ?_
 obtain ⟨s435, s436, hv⟩ := hv
 refine cL rfl (o_callP1 (k := 27) (fst := []) (caps := []) (ys := [.agg _, .int _ _, .int _ _]) rfl rfl (spec_range ((closeM ((mkM c).2.1) (partM ((mkM c).2.2.1) (lat ((chM ((mkM c).1) ((mkM c).2.1) ((mkM c).2.2.1)).1) v24))).1) (pickM v.y0 ((mkM c).2.1)) (pickM v.y1 ((mkM c).2.1)) s435 s436) (Wks.cons (ag_agg 5 _ (Wks.cons (ag_int _ _ _ _) (Wks.cons (ag_lst _ _ _ _ _) (Wks.refl _)))) (Wks.cons (ag_int _ _ _ _) (Wks.cons (ag_int _ _ _ _) (Wks.refl _)))) ?_)
 refine cL rfl (o_move (v := .tup _) rfl ?_)
 iterate 3 refine cL rfl (o_ext (v := .int _ _) rfl rfl ?_)
 iterate 3 refine aI rfl rfl ?_
 refine eL ?_
 refine W.tr [(5, .ptr _ _), (6, .int _ _), (7, .lst _ _ _), (10, .int _ _), (11, .int _ _), (12, .int _ _), (13, .int _ _), (15, .lst _ _ _), (24, .int _ _), (27, .int _ _), (28, .int _ _), (29, .int _ _), (30, .int _ _)] [.dead, .dead, .box _ [.lst _ _ _, .int _ _, .int _ _, .lst _ _ _, .lst _ _ _], .box _ [.int _ _, .lst _ _ _]] ⟨rfl, rfl, rfl, rfl, rfl, rfl, rfl, rfl, rfl, rfl, rfl, rfl, rfl, trivial⟩ rfl ?_
 refine W.rLm ⟨220, look [(5, .ptr 2 0), (6, .int .i64 ((mkM c).2.1)), (7, .lst false ((mkM c).2.2.1).length (encL e66 ((mkM c).2.2.1))), (10, .int .i64 (pickM v.y0 ((mkM c).2.1))), (11, .int .i64 (pickM v.y1 ((mkM c).2.1))), (12, .int .i64 ((brangeM ((mkM c).1) ((mkM c).2.1) ((mkM c).2.2.1) (pickM v.y0 ((mkM c).2.1)) (pickM v.y1 ((mkM c).2.1))).1)), (13, .int .i64 ((brangeM ((mkM c).1) ((mkM c).2.1) ((mkM c).2.2.1) (pickM v.y0 ((mkM c).2.1)) (pickM v.y1 ((mkM c).2.1))).2.1)), (15, .lst false ((chM ((mkM c).1) ((mkM c).2.1) ((mkM c).2.2.1)).1).length (encL eInt ((chM ((mkM c).1) ((mkM c).2.1) ((mkM c).2.2.1)).1))), (24, .int .i64 v24), (200, .bool (decide ((¬ (closeM ((mkM c).2.1) (partM ((mkM c).2.2.1) (lat ((chM ((mkM c).1) ((mkM c).2.1) ((mkM c).2.2.1)).1) v24))).2.2 = (0 : Int)) ∨ ((¬ (rangeM ((closeM ((mkM c).2.1) (partM ((mkM c).2.2.1) (lat ((chM ((mkM c).1) ((mkM c).2.1) ((mkM c).2.2.1)).1) v24))).1) (pickM v.y0 ((mkM c).2.1)) (pickM v.y1 ((mkM c).2.1))).2.2 = (0 : Int)) ∨ ((((rangeM ((closeM ((mkM c).2.1) (partM ((mkM c).2.2.1) (lat ((chM ((mkM c).1) ((mkM c).2.1) ((mkM c).2.2.1)).1) v24))).1) (pickM v.y0 ((mkM c).2.1)) (pickM v.y1 ((mkM c).2.1))).1) < ((brangeM ((mkM c).1) ((mkM c).2.1) ((mkM c).2.2.1) (pickM v.y0 ((mkM c).2.1)) (pickM v.y1 ((mkM c).2.1))).1)) ∨ (((brangeM ((mkM c).1) ((mkM c).2.1) ((mkM c).2.2.1) (pickM v.y0 ((mkM c).2.1)) (pickM v.y1 ((mkM c).2.1))).2.1) < ((rangeM ((closeM ((mkM c).2.1) (partM ((mkM c).2.2.1) (lat ((chM ((mkM c).1) ((mkM c).2.1) ((mkM c).2.2.1)).1) v24))).1) (pickM v.y0 ((mkM c).2.1)) (pickM v.y1 ((mkM c).2.1))).2.1)))))))], [.dead, .dead, .box 27 [.lst false (((mkM c).1).dr).length (encL eInt (((mkM c).1).dr)), .int .i64 (((mkM c).1).la), .int .i64 (((mkM c).1).li), .lst false (((mkM c).1).sv).length (encL eInt (((mkM c).1).sv)), .lst false (((mkM c).1).tm).length (encL eInt (((mkM c).1).tm))], .box 53 [.int .i64 (((closeM ((mkM c).2.1) (partM ((mkM c).2.2.1) (lat ((chM ((mkM c).1) ((mkM c).2.1) ((mkM c).2.2.1)).1) v24))).1).n), .lst false (((closeM ((mkM c).2.1) (partM ((mkM c).2.2.1) (lat ((chM ((mkM c).1) ((mkM c).2.1) ((mkM c).2.2.1)).1) v24))).1).most).length (encL (eSl eInt true) (((closeM ((mkM c).2.1) (partM ((mkM c).2.2.1) (lat ((chM ((mkM c).1) ((mkM c).2.1) ((mkM c).2.2.1)).1) v24))).1).most))]], 0⟩ ?_ ?_
 refine mI rfl rfl ?_
 refine cL rfl (o_neI rfl rfl rfl ?_)
 refine mB rfl rfl ?_
 by_cases c1 : ¬ (closeM ((mkM c).2.1) (partM ((mkM c).2.2.1) (lat ((chM ((mkM c).1) ((mkM c).2.1) ((mkM c).2.2.1)).1) v24))).2.2 = (0 : Int)
 iterate 2 refine cLs rfl rfl rfl (decide_eq_true c1) ?_
 refine cL rfl (o_pickT (v := .bool _) rfl (decide_eq_true c1) rfl ?_)
 refine mB rfl rfl ?_
 iterate 3 refine cLs rfl rfl rfl (rfl) ?_
 refine cL rfl (o_pickT (v := .bool _) rfl rfl rfl ?_)
 refine mB rfl rfl ?_
 iterate 3 refine cLs rfl rfl rfl (rfl) ?_
 refine cL rfl (o_pickT (v := .bool _) rfl rfl rfl ?_)
 refine eL ?_
 exact le_mk ⟨rfl, rfl, rfl, rfl, rfl, rfl, rfl, rfl, rfl, (congrArg AV.bool (dOrT c1)).symm, trivial⟩ rfl
 refine cLg rfl rfl (decide_eq_false c1) ?_
 refine mI rfl rfl ?_
 refine cLg rfl rfl (decide_eq_false c1) ?_
 refine cL rfl (o_neI rfl rfl rfl ?_)
 refine cL rfl (o_pickF (v := .bool _) rfl (decide_eq_false c1) rfl ?_)
 refine mB rfl rfl ?_
 by_cases c2 : ¬ (rangeM ((closeM ((mkM c).2.1) (partM ((mkM c).2.2.1) (lat ((chM ((mkM c).1) ((mkM c).2.1) ((mkM c).2.2.1)).1) v24))).1) (pickM v.y0 ((mkM c).2.1)) (pickM v.y1 ((mkM c).2.1))).2.2 = (0 : Int)
 iterate 3 refine cLs rfl rfl rfl (decide_eq_true c2) ?_
 refine cL rfl (o_pickT (v := .bool _) rfl (decide_eq_true c2) rfl ?_)
 refine mB rfl rfl ?_
 iterate 3 refine cLs rfl rfl rfl (rfl) ?_
 refine cL rfl (o_pickT (v := .bool _) rfl rfl rfl ?_)
 refine eL ?_
 exact le_mk ⟨rfl, rfl, rfl, rfl, rfl, rfl, rfl, rfl, rfl, (congrArg AV.bool (dOrF c1 (dOrT c2))).symm, trivial⟩ rfl
 refine cLg rfl rfl (decide_eq_false c2) ?_
 refine mI rfl rfl ?_
 refine cLg rfl rfl (decide_eq_false c2) ?_
 refine mI rfl rfl ?_
 refine cLg rfl rfl (decide_eq_false c2) ?_
 refine cL rfl (o_lss rfl rfl ?_)
 refine cL rfl (o_pickF (v := .bool _) rfl (decide_eq_false c2) rfl ?_)
 refine mB rfl rfl ?_
 by_cases c3 : ((rangeM ((closeM ((mkM c).2.1) (partM ((mkM c).2.2.1) (lat ((chM ((mkM c).1) ((mkM c).2.1) ((mkM c).2.2.1)).1) v24))).1) (pickM v.y0 ((mkM c).2.1)) (pickM v.y1 ((mkM c).2.1))).1) < ((brangeM ((mkM c).1) ((mkM c).2.1) ((mkM c).2.2.1) (pickM v.y0 ((mkM c).2.1)) (pickM v.y1 ((mkM c).2.1))).1)
 iterate 3 refine cLs rfl rfl rfl (decide_eq_true c3) ?_
 refine cL rfl (o_pickT (v := .bool _) rfl (decide_eq_true c3) rfl ?_)
 refine eL ?_
 exact le_mk ⟨rfl, rfl, rfl, rfl, rfl, rfl, rfl, rfl, rfl, (congrArg AV.bool (dOrF c1 (dOrF c2 (dOrT c3)))).symm, trivial⟩ rfl
 refine cLg rfl rfl (decide_eq_false c3) ?_
 refine mI rfl rfl ?_
 refine cLg rfl rfl (decide_eq_false c3) ?_
 refine mI rfl rfl ?_
 refine cLg rfl rfl (decide_eq_false c3) ?_
 refine cL rfl (o_gtr rfl rfl ?_)
 refine cL rfl (o_pickF (v := .bool _) rfl (decide_eq_false c3) rfl ?_)
 refine eL ?_
 exact le_mk ⟨rfl, rfl, rfl, rfl, rfl, rfl, rfl, rfl, rfl, (congrArg AV.bool (dOrF c1 (dOrF c2 (dOrF c3 (rfl))))).symm, trivial⟩ rfl
 refine W.cn rfl (fun hc => ?_) (fun hc => ?_)
 have hv := hv.1 hc
 refine W.rL ?_
 refine aB rfl rfl ?_
 refine eL ?_
 refine W.tr [(4, .bool _)] [.dead, .dead, .box _ [.lst _ _ _, .int _ _, .int _ _, .lst _ _ _, .lst _ _ _], .box _ [.int _ _, .lst _ _ _]] ⟨rfl, trivial⟩ rfl ?_
 refine W.ret ?_
 refine bl_ret (th_ret (th_ret (bl_ret (th_ret (rt ?_)))))
 refine rt_t (v := .bool _) rfl ?_
 refine rt_n ?_
 exact ⟨_, rs_bool _ _ _, false, rfl, hv⟩
 have hv := hv.2 hc
 refine W.skip ?_
 refine bl_nrm (th_nrm ?_)
 refine W.tr [(5, .ptr _ _), (6, .int _ _), (7, .lst _ _ _), (10, .int _ _), (11, .int _ _), (12, .int _ _), (13, .int _ _), (15, .lst _ _ _), (24, .int _ _)] [.dead, .dead, .box _ [.lst _ _ _, .int _ _, .int _ _, .lst _ _ _, .lst _ _ _], .box _ [.int _ _, .lst _ _ _]] ⟨rfl, rfl, rfl, rfl, rfl, rfl, rfl, rfl, rfl, trivial⟩ rfl ?_
 refine W.rL1 ?_
 refine mI rfl rfl ?_
 obtain ⟨s437, hv⟩ := hv
 refine cL rfl (o_add rfl rfl s437 ?_)
 refine aI rfl rfl ?_
 refine eL ?_
 exact th_nrm (⟨(), (v24 + (1 : Int)), hv, St.to_mk (φ := [none, none, some 2]) rfl (rfl) ⟨Ren.ptr rfl, Ren.int _ _, Ren.lst _ _ _, Ren.int _ _, Ren.int _ _, Ren.int _ _, Ren.int _ _, Ren.lst _ _ _, Ren.int _ _, trivial⟩ ⟨rfl, rfl, .inr ⟨_, rfl, rfl, Rens.cons (Ren.lst _ _ _) (Rens.cons (Ren.int _ _) (Rens.cons (Ren.int _ _) (Rens.cons (Ren.lst _ _ _) (Rens.cons (Ren.lst _ _ _) (Rens.nil)))))⟩, trivial⟩⟩)
 have hv := hv.2 hc
 refine W.exit ?_
 refine th_exit (th_exit (bl_hit (th_nrm ?_)))
 refine W.tr [(5, .ptr _ _), (6, .int _ _), (7, .lst _ _ _), (10, .int _ _), (11, .int _ _), (13, .int _ _)] [.dead, .dead, .box _ [.lst _ _ _, .int _ _, .int _ _, .lst _ _ _, .lst _ _ _]] ⟨rfl, rfl, rfl, rfl, rfl, rfl, trivial⟩ rfl ?_
 refine W.rL ?_
 refine cL rfl (o_ldA (cs := [.lst _ _ _, .int _ _, .int _ _, .lst _ _ _, .lst _ _ _]) tt27 rfl rfl ⟨_, rfl⟩ rfl ?_)
 refine mI rfl rfl ?_
 refine mL rfl rfl ?_
 iterate 3 refine mI rfl rfl ?_
 obtain ⟨s438, hv⟩ := hv
 refine cL rfl (o_add rfl rfl s438 ?_)
 obtain ⟨s439, s440, s441, s442, hv⟩ := hv
 refine cL rfl (o_callP1 (k := 24) (fst := []) (caps := []) (ys := [.agg _, .int _ _, .lst _ _ _, .int _ _, .int _ _, .int _ _]) rfl rfl (spec_witness ((mkM c).1) ((mkM c).2.1) ((mkM c).2.2.1) (pickM v.y0 ((mkM c).2.1)) (pickM v.y1 ((mkM c).2.1)) (((brangeM ((mkM c).1) ((mkM c).2.1) ((mkM c).2.2.1) (pickM v.y0 ((mkM c).2.1)) (pickM v.y1 ((mkM c).2.1))).2.1) + (1 : Int)) s439 s440 s441 s442) (Wks.cons (ag_agg 5 _ (Wks.cons (ag_lst _ _ _ _ _) (Wks.cons (ag_int _ _ _ _) (Wks.cons (ag_int _ _ _ _) (Wks.cons (ag_lst _ _ _ _ _) (Wks.cons (ag_lst _ _ _ _ _) (Wks.refl _))))))) (Wks.cons (ag_int _ _ _ _) (Wks.cons (ag_lst _ _ _ _ _) (Wks.cons (ag_int _ _ _ _) (Wks.cons (ag_int _ _ _ _) (Wks.cons (ag_int _ _ _ _) (Wks.refl _))))))) ?_)
 refine cL rfl (o_move (v := .tup _) rfl ?_)
 refine cL rfl (o_ext (v := .lst _ _ _) rfl rfl ?_)
 iterate 2 refine cL rfl (o_ext (v := .int _ _) rfl rfl ?_)
 refine aL rfl rfl ?_
 iterate 2 refine aI rfl rfl ?_
 refine eL ?_
 refine W.tr [(31, .lst _ _ _), (33, .int _ _)] [.dead, .dead, .box _ [.lst _ _ _, .int _ _, .int _ _, .lst _ _ _, .lst _ _ _]] ⟨rfl, rfl, trivial⟩ rfl ?_
 refine W.rLm ⟨220, look [(4, .bool (decide (((witM ((mkM c).1) ((mkM c).2.1) ((mkM c).2.2.1) (pickM v.y0 ((mkM c).2.1)) (pickM v.y1 ((mkM c).2.1)) (((brangeM ((mkM c).1) ((mkM c).2.1) ((mkM c).2.2.1) (pickM v.y0 ((mkM c).2.1)) (pickM v.y1 ((mkM c).2.1))).2.1) + (1 : Int))).2.2 = (100 : Int)) ∧ (((((witM ((mkM c).1) ((mkM c).2.1) ((mkM c).2.2.1) (pickM v.y0 ((mkM c).2.1)) (pickM v.y1 ((mkM c).2.1)) (((brangeM ((mkM c).1) ((mkM c).2.1) ((mkM c).2.2.1) (pickM v.y0 ((mkM c).2.1)) (pickM v.y1 ((mkM c).2.1))).2.1) + (1 : Int))).1).length : Nat) : Int) = (0 : Int)))))], [.dead, .dead, .box 27 [.lst false (((mkM c).1).dr).length (encL eInt (((mkM c).1).dr)), .int .i64 (((mkM c).1).la), .int .i64 (((mkM c).1).li), .lst false (((mkM c).1).sv).length (encL eInt (((mkM c).1).sv)), .lst false (((mkM c).1).tm).length (encL eInt (((mkM c).1).tm))]], 0⟩ ?_ ?_
 refine mI rfl rfl ?_
 refine cL rfl (o_eqI rfl rfl rfl ?_)
 refine mB rfl rfl ?_
 by_cases c1 : (witM ((mkM c).1) ((mkM c).2.1) ((mkM c).2.2.1) (pickM v.y0 ((mkM c).2.1)) (pickM v.y1 ((mkM c).2.1)) (((brangeM ((mkM c).1) ((mkM c).2.1) ((mkM c).2.2.1) (pickM v.y0 ((mkM c).2.1)) (pickM v.y1 ((mkM c).2.1))).2.1) + (1 : Int))).2.2 = (100 : Int)
 refine cLg rfl rfl (decide_eq_true c1) ?_
 refine mL rfl rfl ?_
 refine cLg rfl rfl (decide_eq_true c1) ?_
 refine cL rfl (o_len (v := .lst _ _ _) tt23 rfl rfl ?_)
 refine cLg rfl rfl (decide_eq_true c1) ?_
 refine cL rfl (o_eqI rfl rfl rfl ?_)
 refine cL rfl (o_pickT (v := .bool _) rfl (decide_eq_true c1) rfl ?_)
 refine aB rfl rfl ?_
 refine eL ?_
 exact le_mk ⟨(congrArg AV.bool (dAndT c1 (rfl))).symm, trivial⟩ rfl
 iterate 3 refine cLs rfl rfl rfl (decide_eq_false c1) ?_
 refine cL rfl (o_pickF (v := .bool _) rfl (decide_eq_false c1) rfl ?_)
 refine aB rfl rfl ?_
 refine eL ?_
 exact le_mk ⟨(congrArg AV.bool (dAndF c1)).symm, trivial⟩ rfl
 refine W.ret ?_
 refine rt ?_
 refine rt_t (v := .bool _) rfl ?_
 refine rt_n ?_
 exact ⟨_, rs_bool _ _ _, (decide (((witM ((mkM c).1) ((mkM c).2.1) ((mkM c).2.2.1) (pickM v.y0 ((mkM c).2.1)) (pickM v.y1 ((mkM c).2.1)) (((brangeM ((mkM c).1) ((mkM c).2.1) ((mkM c).2.2.1) (pickM v.y0 ((mkM c).2.1)) (pickM v.y1 ((mkM c).2.1))).2.1) + (1 : Int))).2.2 = (100 : Int)) ∧ (((((witM ((mkM c).1) ((mkM c).2.1) ((mkM c).2.2.1) (pickM v.y0 ((mkM c).2.1)) (pickM v.y1 ((mkM c).2.1)) (((brangeM ((mkM c).1) ((mkM c).2.1) ((mkM c).2.2.1) (pickM v.y0 ((mkM c).2.1)) (pickM v.y1 ((mkM c).2.1))).2.1) + (1 : Int))).1).length : Nat) : Int) = (0 : Int)))), rfl, hv⟩
theorem vcp_bAttained (c : Cas) (v : A2) (h0 : CasOk c) (h1 : inI v.y0 ∧ inI v.y1) : vc_bAttained c v (fun q0 => q0 = (true)) := by
  unfold vc_bAttained
  obtain ⟨ho, eho, hl24, hF, hn6, hB⟩ := mk_bel c
  generalize mkM c = p at *
  obtain ⟨F, N, L, TR, HO⟩ := p
  dsimp only at *
  obtain ⟨q1, q2, q3⟩ := hF.lens
  have hno := hB.no
  have hle : L.length ≤ 1073741824 := by omega
  have hpl : ∀ s : Int, (partM L s).length ≤ 1073741824 := fun s => Nat.le_trans partM_len hle
  have p0 := pickM_nonneg (c := v.y0) (n := N) (by omega)
  have p1 := pickM_nonneg (c := v.y1) (n := N) (by omega)
  obtain ⟨a, ea⟩ : ∃ a : Nat, pickM v.y0 N = a := ⟨(pickM v.y0 N).toNat, by omega⟩
  obtain ⟨b, eb⟩ : ∃ b : Nat, pickM v.y1 N = b := ⟨(pickM v.y1 N).toNat, by omega⟩
  rw [ea, eb]
  rw [ea] at p0
  rw [eb] at p1
  obtain ⟨lo, hi, hr⟩ := rg_ok hB.bv hB.ne p0.2 p1.2
  have hch := ch_ok hB.bv hB.ne
  have hz : (chM F N L).2 = 0 := by rw [hch]
  obtain ⟨b1, b2⟩ := rg_bounds p0.2 p1.2 hr
  have hcl : ((chM F N L).1).length ≤ 64 := by
    rw [hch, List.length_map]
    have h1 := List.length_filterMap_le (fun (s : Nat) => choice1 F N L (s : Int)) (List.range (2 ^ F.dr.length))
    rw [List.length_range] at h1
    have := pow_le64 hB.fo.len.2
    unfold choicesM
    omega
  rw [hr.eq, hz]
  dsimp only
  refine ⟨h0, h1.1, by omega, h1.2, by omega, q1, q2, q3, hle, q1, q2, q3, hle, fun h => ?_, fun _ => ⟨fun v => ∃ i : Nat, v = i ∧ i ≤ 2, fun v => 2 - v.toNat, ⟨0, rfl, by omega⟩, ?_⟩⟩
  · exfalso
    rcases h with h | h <;> exact h rfl
  · rintro _ ⟨i, rfl, hi2⟩
    refine ⟨fun h2 => ?_, fun h2 => ?_⟩
    · have hlt : i < 2 := by omega
      have he : lat [lo, hi] (i : Int) = lo ∨ lat [lo, hi] (i : Int) = hi := by
        match i, hlt with
        | 0, _ => exact .inl rfl
        | 1, _ => exact .inr rfl
      have hil : (0 : Int) ≤ (i : Int) ∧ (i : Int) < (([lo, hi].length : Nat) : Int) := by simp; omega
      generalize lat [lo, hi] (i : Int) = e at *
      refine ⟨True, fun _ => ⟨by unfold inI; omega, ⟨i + 1, by omega, by omega⟩, by dsimp only; omega⟩, ⟨hil, fun _ => trivial, fun _ => ⟨hil, trivial⟩⟩, fun _ => trivial, fun h3 => ?_⟩
      have he2 : -36028797018963968 ≤ e ∧ e ≤ 36028797018963968 := by
        constructor
        · exact Int.not_lt.1 fun x => h3 (.inl x)
        · exact Int.not_lt.1 fun x => h3 (.inr x)
      obtain ⟨x, c1, hc1, hw, hxl, hxd, hxh⟩ := hB.wit_end p0.2 p1.2 hr he2 he
      have hin := mem_ch hB.bv hc1
      rw [hw]
      dsimp only
      generalize c1.s = s at *
      refine ⟨hil, q1, q2, q3, hle, fun b v => ∃ j : Nat, v = j ∧ j ≤ ((chM F N L).1).length ∧ (b = true ↔ s ∈ ((chM F N L).1).take j), fun _ v => ((chM F N L).1).length - v.toNat, ⟨0, rfl, by omega, by simp⟩, ?_⟩
      rintro bb _ ⟨j, rfl, hj, hb⟩
      refine ⟨fun h4 => ?_, fun h4 => ?_⟩
      · have hjlt : j < ((chM F N L).1).length := by omega
        rw [lat_get hjlt]
        refine ⟨⟨fun _ => trivial, fun _ => ⟨by omega, trivial⟩⟩, by unfold inI; omega, ⟨j + 1, by omega, by omega, ?_⟩, by dsimp only; omega⟩
        rw [decide_eq_true_eq, take_succ_nat (List.getElem?_eq_getElem hjlt), List.mem_append, ← hb, List.mem_singleton, eq_comm (a := s)]
      · rw [List.take_of_length_le (by omega)] at hb
        have hbt := hb.2 hin
        have hxb := (holdsM_iff.1 hxh).1.2
        have d1 := hxb _ (lat_mem (xs := x) (i := (b : Int)) ⟨by omega, by omega⟩)
        have d2 := hxb _ (lat_mem (xs := x) (i := (a : Int)) ⟨by omega, by omega⟩)
        refine ⟨⟨fun _ => trivial, fun _ => ⟨fun _ => trivial, fun _ => ⟨fun _ => trivial, fun _ => ⟨by omega, by omega, by unfold inI; omega, hil, fun _ => trivial, fun _ => ⟨hle, hpl _, by omega, trivial⟩⟩⟩⟩⟩, fun h5 => ?_, fun _ => trivial⟩
        exfalso
        rcases h5 with h5 | h5 | h5 | h5 | h5
        · exact h5 rfl
        · exact h5 hbt
        · exact h5 (by omega)
        · exact h5 hxd
        · exact h5 hxh
    · refine ⟨fun v => ∃ j : Nat, v = j ∧ j ≤ ((chM F N L).1).length, fun v => ((chM F N L).1).length - v.toNat, ⟨0, rfl, by omega⟩, ?_⟩
      rintro _ ⟨j, rfl, hj⟩
      refine ⟨fun h4 => ?_, fun h4 => ⟨by unfold inI; omega, q1, q2, q3, hle, ?_⟩⟩
      · have hjlt : j < ((chM F N L).1).length := by omega
        rw [lat_get hjlt]
        obtain ⟨x, y, r1, r2, r3, r4, r5, r6⟩ := hB.each p0.2 p1.2 hr (List.getElem_mem hjlt)
        rw [r1, r2]
        refine ⟨by omega, hle, hpl _, r5, r6, fun h5 => ?_, fun _ => ⟨by unfold inI; omega, ⟨j + 1, by omega, by omega⟩, by dsimp only; omega⟩⟩
        exfalso
        rcases h5 with h5 | h5 | h5 | h5
        · exact h5 rfl
        · exact h5 rfl
        · dsimp only at h5; omega
        · dsimp only at h5; omega
      · show decide _ = true
        rw [hB.wit_none p0.2 p1.2 hr]
        simp
theorem spec_bAttained (c : Cas) (v : A2) (h0 : CasOk c) (h1 : inI v.y0 ∧ inI v.y1) : FnP Try.prog 9 [.agg ((e25 true) c), .agg (e61 v)] (fun xR => xR = .bool (true)) :=
  (walk_bAttained (vcp_bAttained c v h0 h1)).mono (by rintro _ ⟨_, rfl, rfl⟩; rfl)
end Go.Lat
