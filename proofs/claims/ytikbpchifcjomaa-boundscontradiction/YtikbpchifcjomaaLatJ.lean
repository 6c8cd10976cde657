/- The law latecomerlaw07.BoundsContradiction returns true for every input, and each argument reads afterwards as it read before. Part 10 of 11. No condition. -/
import Derived.Test.YtikbpchifcjomaaLatE
import Derived.Test.YtikbpchifcjomaaLatF
import Derived.Test.YtikbpchifcjomaaLatG
import Derived.Test.YtikbpchifcjomaaLatH
import Derived.Test.YtikbpchifcjomaaLatI
set_option linter.unusedVariables false
set_option linter.unusedSimpArgs false
set_option linter.unnecessarySimpa false
namespace Go.Lat
open Go.RowKit Go.Proofs
attribute [local irreducible] closeM rangeM pointM addBM cycleM holdsM validBM sameM madeM pickM plusM validM possM firstM tableM longerM boundsM ofM addM freeM
/-- What the walk through latecomerlaw07.BoundsContradiction asks. -/
def vc_Contradiction (n : Int) (x : (List A3)) (values : (List Int)) (at_ : Int) (some_ : (List Int)) (Post : Bool → Prop) : Prop :=
  ((¬ true = true) → Post false) ∧ (¬ (¬ true = true) → (inI n) ∧ (1 ≤ (6 : Int)) ∧ (inI ((1 : Int) + (pickM n (6 : Int)))) ∧ (1 ≤ ((1 : Int) + (pickM n (6 : Int)))) ∧ (((1 : Int) + (pickM n (6 : Int))) ≤ 1000) ∧ (∀ y ∈ x, inI y.x0 ∧ inI y.x1 ∧ inI y.x2) ∧ ((madeM ((1 : Int) + (pickM n (6 : Int))) x).length ≤ 1073741824) ∧ ((¬ (closeM ((1 : Int) + (pickM n (6 : Int))) (madeM ((1 : Int) + (pickM n (6 : Int))) x)).2.2 = (70 : Int)) → Post (decide (((closeM ((1 : Int) + (pickM n (6 : Int))) (madeM ((1 : Int) + (pickM n (6 : Int))) x)).2.2 = (0 : Int)) ∧ (((((closeM ((1 : Int) + (pickM n (6 : Int))) (madeM ((1 : Int) + (pickM n (6 : Int))) x)).2.1).length : Nat) : Int) = (0 : Int))))) ∧ (¬ (¬ (closeM ((1 : Int) + (pickM n (6 : Int))) (madeM ((1 : Int) + (pickM n (6 : Int))) x)).2.2 = (70 : Int)) → (((((((closeM ((1 : Int) + (pickM n (6 : Int))) (madeM ((1 : Int) + (pickM n (6 : Int))) x)).2.1).length : Nat) : Int) = (0 : Int)) → True) ∧ (¬ (((((closeM ((1 : Int) + (pickM n (6 : Int))) (madeM ((1 : Int) + (pickM n (6 : Int))) x)).2.1).length : Nat) : Int) = (0 : Int)) → ((madeM ((1 : Int) + (pickM n (6 : Int))) x).length ≤ 1073741824) ∧ (((closeM ((1 : Int) + (pickM n (6 : Int))) (madeM ((1 : Int) + (pickM n (6 : Int))) x)).2.1).length ≤ 1073741824) ∧ True)) ∧ ((((((((closeM ((1 : Int) + (pickM n (6 : Int))) (madeM ((1 : Int) + (pickM n (6 : Int))) x)).2.1).length : Nat) : Int) = (0 : Int)) ∨ (¬ ((cycleM (madeM ((1 : Int) + (pickM n (6 : Int))) x) ((closeM ((1 : Int) + (pickM n (6 : Int))) (madeM ((1 : Int) + (pickM n (6 : Int))) x)).2.1)) = true))) → Post false) ∧ (¬ ((((((closeM ((1 : Int) + (pickM n (6 : Int))) (madeM ((1 : Int) + (pickM n (6 : Int))) x)).2.1).length : Nat) : Int) = (0 : Int)) ∨ (¬ ((cycleM (madeM ((1 : Int) + (pickM n (6 : Int))) x) ((closeM ((1 : Int) + (pickM n (6 : Int))) (madeM ((1 : Int) + (pickM n (6 : Int))) x)).2.1)) = true))) → ∃ (I1 : Int → Int → List Con → Prop) (μ1 : Int → Int → List Con → Nat), I1 (0 : Int) (0 : Int) [] ∧ ∀ (v17 : Int) (v18 : Int) (r1 : List Con), I1 v17 v18 r1 → ((v18 < ((((closeM ((1 : Int) + (pickM n (6 : Int))) (madeM ((1 : Int) + (pickM n (6 : Int))) x)).2.1).length : Nat) : Int)) → ((0 ≤ v18 ∧ v18 < (((closeM ((1 : Int) + (pickM n (6 : Int))) (madeM ((1 : Int) + (pickM n (6 : Int))) x)).2.1).length : Int)) ∧ (((lat ((closeM ((1 : Int) + (pickM n (6 : Int))) (madeM ((1 : Int) + (pickM n (6 : Int))) x)).2.1) v18) < (0 : Int)) → True) ∧ (¬ ((lat ((closeM ((1 : Int) + (pickM n (6 : Int))) (madeM ((1 : Int) + (pickM n (6 : Int))) x)).2.1) v18) < (0 : Int)) → (0 ≤ v18 ∧ v18 < (((closeM ((1 : Int) + (pickM n (6 : Int))) (madeM ((1 : Int) + (pickM n (6 : Int))) x)).2.1).length : Int)) ∧ True)) ∧ (((((lat ((closeM ((1 : Int) + (pickM n (6 : Int))) (madeM ((1 : Int) + (pickM n (6 : Int))) x)).2.1) v18) < (0 : Int)) ∨ ((((madeM ((1 : Int) + (pickM n (6 : Int))) x).length : Nat) : Int) ≤ (lat ((closeM ((1 : Int) + (pickM n (6 : Int))) (madeM ((1 : Int) + (pickM n (6 : Int))) x)).2.1) v18))) → Post false) ∧ (¬ (((lat ((closeM ((1 : Int) + (pickM n (6 : Int))) (madeM ((1 : Int) + (pickM n (6 : Int))) x)).2.1) v18) < (0 : Int)) ∨ ((((madeM ((1 : Int) + (pickM n (6 : Int))) x).length : Nat) : Int) ≤ (lat ((closeM ((1 : Int) + (pickM n (6 : Int))) (madeM ((1 : Int) + (pickM n (6 : Int))) x)).2.1) v18))) → (0 ≤ v18 ∧ v18 < (((closeM ((1 : Int) + (pickM n (6 : Int))) (madeM ((1 : Int) + (pickM n (6 : Int))) x)).2.1).length : Int)) ∧ (0 ≤ (lat ((closeM ((1 : Int) + (pickM n (6 : Int))) (madeM ((1 : Int) + (pickM n (6 : Int))) x)).2.1) v18) ∧ (lat ((closeM ((1 : Int) + (pickM n (6 : Int))) (madeM ((1 : Int) + (pickM n (6 : Int))) x)).2.1) v18) < ((madeM ((1 : Int) + (pickM n (6 : Int))) x).length : Int)) ∧ ((r1 ++ [(lat (madeM ((1 : Int) + (pickM n (6 : Int))) x) (lat ((closeM ((1 : Int) + (pickM n (6 : Int))) (madeM ((1 : Int) + (pickM n (6 : Int))) x)).2.1) v18))]).length ≤ 1073741824) ∧ (0 ≤ v18 ∧ v18 < (((closeM ((1 : Int) + (pickM n (6 : Int))) (madeM ((1 : Int) + (pickM n (6 : Int))) x)).2.1).length : Int)) ∧ (0 ≤ (lat ((closeM ((1 : Int) + (pickM n (6 : Int))) (madeM ((1 : Int) + (pickM n (6 : Int))) x)).2.1) v18) ∧ (lat ((closeM ((1 : Int) + (pickM n (6 : Int))) (madeM ((1 : Int) + (pickM n (6 : Int))) x)).2.1) v18) < ((madeM ((1 : Int) + (pickM n (6 : Int))) x).length : Int)) ∧ (inI (v17 + ((lat (madeM ((1 : Int) + (pickM n (6 : Int))) x) (lat ((closeM ((1 : Int) + (pickM n (6 : Int))) (madeM ((1 : Int) + (pickM n (6 : Int))) x)).2.1) v18)).m))) ∧ (inI (v18 + (1 : Int))) ∧ (I1 (v17 + ((lat (madeM ((1 : Int) + (pickM n (6 : Int))) x) (lat ((closeM ((1 : Int) + (pickM n (6 : Int))) (madeM ((1 : Int) + (pickM n (6 : Int))) x)).2.1) v18)).m)) (v18 + (1 : Int)) (r1 ++ [(lat (madeM ((1 : Int) + (pickM n (6 : Int))) x) (lat ((closeM ((1 : Int) + (pickM n (6 : Int))) (madeM ((1 : Int) + (pickM n (6 : Int))) x)).2.1) v18))]) ∧ μ1 (v17 + ((lat (madeM ((1 : Int) + (pickM n (6 : Int))) x) (lat ((closeM ((1 : Int) + (pickM n (6 : Int))) (madeM ((1 : Int) + (pickM n (6 : Int))) x)).2.1) v18)).m)) (v18 + (1 : Int)) (r1 ++ [(lat (madeM ((1 : Int) + (pickM n (6 : Int))) x) (lat ((closeM ((1 : Int) + (pickM n (6 : Int))) (madeM ((1 : Int) + (pickM n (6 : Int))) x)).2.1) v18))]) < μ1 v17 v18 r1)))) ∧ (¬ (v18 < ((((closeM ((1 : Int) + (pickM n (6 : Int))) (madeM ((1 : Int) + (pickM n (6 : Int))) x)).2.1).length : Nat) : Int)) → ∃ (I2 : Int → List Int → Prop) (μ2 : Int → List Int → Nat), I2 (0 : Int) [] ∧ ∀ (v20 : Int) (r2 : List Int), I2 v20 r2 → ((v20 < ((1 : Int) + (pickM n (6 : Int)))) → ∃ J3 : Int → Prop, (∀ (v21 : Int), J3 v21 → ((r2 ++ [v21]).length ≤ 1073741824) ∧ (inI (v20 + (1 : Int))) ∧ (I2 (v20 + (1 : Int)) (r2 ++ [v21]) ∧ μ2 (v20 + (1 : Int)) (r2 ++ [v21]) < μ2 v20 r2)) ∧ (((v20 < ((values.length : Nat) : Int)) → (0 ≤ v20 ∧ v20 < (values.length : Int)) ∧ (inI (lat values v20)) ∧ (1 ≤ (1000 : Int)) ∧ J3 (pickM (lat values v20) (1000 : Int))) ∧ (¬ (v20 < ((values.length : Nat) : Int)) → J3 (0 : Int)))) ∧ (¬ (v20 < ((1 : Int) + (pickM n (6 : Int)))) → (inI at_) ∧ (1 ≤ ((r1.length : Nat) : Int)) ∧ (0 < r1.length ∧ 0 ≤ ((0 : Nat) : Int) ∧ ((0 : Nat) : Int) ≤ (pickM at_ ((r1.length : Nat) : Int)) ∧ (pickM at_ ((r1.length : Nat) : Int)) ≤ (r1.length : Int)) ∧ ((pickM at_ ((r1.length : Nat) : Int)).toNat = (r1.take (pickM at_ ((r1.length : Nat) : Int)).toNat).length) ∧ ((r1.take (pickM at_ ((r1.length : Nat) : Int)).toNat).length ≤ 1073741824) ∧ (inI ((pickM at_ ((r1.length : Nat) : Int)) + (1 : Int))) ∧ (0 < r1.length ∧ 0 ≤ ((pickM at_ ((r1.length : Nat) : Int)) + (1 : Int)) ∧ ((pickM at_ ((r1.length : Nat) : Int)) + (1 : Int)) ≤ (r1.length : Int) ∧ (r1.length : Int) ≤ (r1.length : Int)) ∧ (r1.length - ((pickM at_ ((r1.length : Nat) : Int)) + (1 : Int)).toNat = ((r1.drop ((pickM at_ ((r1.length : Nat) : Int)) + (1 : Int)).toNat).take (r1.length - ((pickM at_ ((r1.length : Nat) : Int)) + (1 : Int)).toNat)).length) ∧ (((r1.take (pickM at_ ((r1.length : Nat) : Int)).toNat) ++ ((r1.drop ((pickM at_ ((r1.length : Nat) : Int)) + (1 : Int)).toNat).take (r1.length - ((pickM at_ ((r1.length : Nat) : Int)) + (1 : Int)).toNat))).length ≤ 1073741824) ∧ (((r1.take (pickM at_ ((r1.length : Nat) : Int)).toNat) ++ ((r1.drop ((pickM at_ ((r1.length : Nat) : Int)) + (1 : Int)).toNat).take (r1.length - ((pickM at_ ((r1.length : Nat) : Int)) + (1 : Int)).toNat))).length ≤ 1073741824) ∧ (((¬ (closeM ((1 : Int) + (pickM n (6 : Int))) ((r1.take (pickM at_ ((r1.length : Nat) : Int)).toNat) ++ ((r1.drop ((pickM at_ ((r1.length : Nat) : Int)) + (1 : Int)).toNat).take (r1.length - ((pickM at_ ((r1.length : Nat) : Int)) + (1 : Int)).toNat)))).2.2 = (0 : Int)) → True) ∧ (¬ (¬ (closeM ((1 : Int) + (pickM n (6 : Int))) ((r1.take (pickM at_ ((r1.length : Nat) : Int)).toNat) ++ ((r1.drop ((pickM at_ ((r1.length : Nat) : Int)) + (1 : Int)).toNat).take (r1.length - ((pickM at_ ((r1.length : Nat) : Int)) + (1 : Int)).toNat)))).2.2 = (0 : Int)) → (((0 : Int) ≤ v17) → True) ∧ (¬ ((0 : Int) ≤ v17) → (r1.length ≤ 1073741824) ∧ (r2.length ≤ 1073741824) ∧ True))) ∧ ((((¬ (closeM ((1 : Int) + (pickM n (6 : Int))) ((r1.take (pickM at_ ((r1.length : Nat) : Int)).toNat) ++ ((r1.drop ((pickM at_ ((r1.length : Nat) : Int)) + (1 : Int)).toNat).take (r1.length - ((pickM at_ ((r1.length : Nat) : Int)) + (1 : Int)).toNat)))).2.2 = (0 : Int)) ∨ (((0 : Int) ≤ v17) ∨ ((holdsM r1 r2) = true))) → Post false) ∧ (¬ ((¬ (closeM ((1 : Int) + (pickM n (6 : Int))) ((r1.take (pickM at_ ((r1.length : Nat) : Int)).toNat) ++ ((r1.drop ((pickM at_ ((r1.length : Nat) : Int)) + (1 : Int)).toNat).take (r1.length - ((pickM at_ ((r1.length : Nat) : Int)) + (1 : Int)).toNat)))).2.2 = (0 : Int)) ∨ (((0 : Int) ≤ v17) ∨ ((holdsM r1 r2) = true))) → (((closeM ((1 : Int) + (pickM n (6 : Int))) ((r1.take (pickM at_ ((r1.length : Nat) : Int)).toNat) ++ ((r1.drop ((pickM at_ ((r1.length : Nat) : Int)) + (1 : Int)).toNat).take (r1.length - ((pickM at_ ((r1.length : Nat) : Int)) + (1 : Int)).toNat)))).1).most.length ≤ 1073741824) ∧ (∀ r ∈ ((closeM ((1 : Int) + (pickM n (6 : Int))) ((r1.take (pickM at_ ((r1.length : Nat) : Int)).toNat) ++ ((r1.drop ((pickM at_ ((r1.length : Nat) : Int)) + (1 : Int)).toNat).take (r1.length - ((pickM at_ ((r1.length : Nat) : Int)) + (1 : Int)).toNat)))).1).most, r.length ≤ 1073741824) ∧ (((¬ (pointM ((closeM ((1 : Int) + (pickM n (6 : Int))) ((r1.take (pickM at_ ((r1.length : Nat) : Int)).toNat) ++ ((r1.drop ((pickM at_ ((r1.length : Nat) : Int)) + (1 : Int)).toNat).take (r1.length - ((pickM at_ ((r1.length : Nat) : Int)) + (1 : Int)).toNat)))).1) (0 : Int) (0 : Int) (0 : Int)).2 = (0 : Int)) → True) ∧ (¬ (¬ (pointM ((closeM ((1 : Int) + (pickM n (6 : Int))) ((r1.take (pickM at_ ((r1.length : Nat) : Int)).toNat) ++ ((r1.drop ((pickM at_ ((r1.length : Nat) : Int)) + (1 : Int)).toNat).take (r1.length - ((pickM at_ ((r1.length : Nat) : Int)) + (1 : Int)).toNat)))).1) (0 : Int) (0 : Int) (0 : Int)).2 = (0 : Int)) → (((r1.take (pickM at_ ((r1.length : Nat) : Int)).toNat) ++ ((r1.drop ((pickM at_ ((r1.length : Nat) : Int)) + (1 : Int)).toNat).take (r1.length - ((pickM at_ ((r1.length : Nat) : Int)) + (1 : Int)).toNat))).length ≤ 1073741824) ∧ (((pointM ((closeM ((1 : Int) + (pickM n (6 : Int))) ((r1.take (pickM at_ ((r1.length : Nat) : Int)).toNat) ++ ((r1.drop ((pickM at_ ((r1.length : Nat) : Int)) + (1 : Int)).toNat).take (r1.length - ((pickM at_ ((r1.length : Nat) : Int)) + (1 : Int)).toNat)))).1) (0 : Int) (0 : Int) (0 : Int)).1).length ≤ 1073741824) ∧ True)) ∧ ((((¬ (pointM ((closeM ((1 : Int) + (pickM n (6 : Int))) ((r1.take (pickM at_ ((r1.length : Nat) : Int)).toNat) ++ ((r1.drop ((pickM at_ ((r1.length : Nat) : Int)) + (1 : Int)).toNat).take (r1.length - ((pickM at_ ((r1.length : Nat) : Int)) + (1 : Int)).toNat)))).1) (0 : Int) (0 : Int) (0 : Int)).2 = (0 : Int)) ∨ (¬ ((holdsM ((r1.take (pickM at_ ((r1.length : Nat) : Int)).toNat) ++ ((r1.drop ((pickM at_ ((r1.length : Nat) : Int)) + (1 : Int)).toNat).take (r1.length - ((pickM at_ ((r1.length : Nat) : Int)) + (1 : Int)).toNat))) ((pointM ((closeM ((1 : Int) + (pickM n (6 : Int))) ((r1.take (pickM at_ ((r1.length : Nat) : Int)).toNat) ++ ((r1.drop ((pickM at_ ((r1.length : Nat) : Int)) + (1 : Int)).toNat).take (r1.length - ((pickM at_ ((r1.length : Nat) : Int)) + (1 : Int)).toNat)))).1) (0 : Int) (0 : Int) (0 : Int)).1)) = true))) → Post false) ∧ (¬ ((¬ (pointM ((closeM ((1 : Int) + (pickM n (6 : Int))) ((r1.take (pickM at_ ((r1.length : Nat) : Int)).toNat) ++ ((r1.drop ((pickM at_ ((r1.length : Nat) : Int)) + (1 : Int)).toNat).take (r1.length - ((pickM at_ ((r1.length : Nat) : Int)) + (1 : Int)).toNat)))).1) (0 : Int) (0 : Int) (0 : Int)).2 = (0 : Int)) ∨ (¬ ((holdsM ((r1.take (pickM at_ ((r1.length : Nat) : Int)).toNat) ++ ((r1.drop ((pickM at_ ((r1.length : Nat) : Int)) + (1 : Int)).toNat).take (r1.length - ((pickM at_ ((r1.length : Nat) : Int)) + (1 : Int)).toNat))) ((pointM ((closeM ((1 : Int) + (pickM n (6 : Int))) ((r1.take (pickM at_ ((r1.length : Nat) : Int)).toNat) ++ ((r1.drop ((pickM at_ ((r1.length : Nat) : Int)) + (1 : Int)).toNat).take (r1.length - ((pickM at_ ((r1.length : Nat) : Int)) + (1 : Int)).toNat)))).1) (0 : Int) (0 : Int) (0 : Int)).1)) = true))) → ∃ (I4 : Int → List Con → Prop) (μ4 : Int → List Con → Nat), I4 (0 : Int) [] ∧ ∀ (v30 : Int) (r1_1 : List Con), I4 v30 r1_1 → (((v30 < ((some_.length : Nat) : Int)) → (inI (((((closeM ((1 : Int) + (pickM n (6 : Int))) (madeM ((1 : Int) + (pickM n (6 : Int))) x)).2.1).length : Nat) : Int) - (1 : Int))) ∧ True) ∧ (¬ (v30 < ((some_.length : Nat) : Int)) → True)) ∧ ((((v30 < ((some_.length : Nat) : Int)) ∧ (((r1_1.length : Nat) : Int) < (((((closeM ((1 : Int) + (pickM n (6 : Int))) (madeM ((1 : Int) + (pickM n (6 : Int))) x)).2.1).length : Nat) : Int) - (1 : Int)))) → (0 ≤ v30 ∧ v30 < (some_.length : Int)) ∧ (inI (lat some_ v30)) ∧ (1 ≤ (((madeM ((1 : Int) + (pickM n (6 : Int))) x).length : Nat) : Int)) ∧ (0 ≤ (pickM (lat some_ v30) (((madeM ((1 : Int) + (pickM n (6 : Int))) x).length : Nat) : Int)) ∧ (pickM (lat some_ v30) (((madeM ((1 : Int) + (pickM n (6 : Int))) x).length : Nat) : Int)) < ((madeM ((1 : Int) + (pickM n (6 : Int))) x).length : Int)) ∧ ((r1_1 ++ [(lat (madeM ((1 : Int) + (pickM n (6 : Int))) x) (pickM (lat some_ v30) (((madeM ((1 : Int) + (pickM n (6 : Int))) x).length : Nat) : Int)))]).length ≤ 1073741824) ∧ (inI (v30 + (1 : Int))) ∧ (I4 (v30 + (1 : Int)) (r1_1 ++ [(lat (madeM ((1 : Int) + (pickM n (6 : Int))) x) (pickM (lat some_ v30) (((madeM ((1 : Int) + (pickM n (6 : Int))) x).length : Nat) : Int)))]) ∧ μ4 (v30 + (1 : Int)) (r1_1 ++ [(lat (madeM ((1 : Int) + (pickM n (6 : Int))) x) (pickM (lat some_ v30) (((madeM ((1 : Int) + (pickM n (6 : Int))) x).length : Nat) : Int)))]) < μ4 v30 r1_1)) ∧ (¬ ((v30 < ((some_.length : Nat) : Int)) ∧ (((r1_1.length : Nat) : Int) < (((((closeM ((1 : Int) + (pickM n (6 : Int))) (madeM ((1 : Int) + (pickM n (6 : Int))) x)).2.1).length : Nat) : Int) - (1 : Int)))) → (r1_1.length ≤ 1073741824) ∧ Post (decide ((closeM ((1 : Int) + (pickM n (6 : Int))) r1_1).2.2 = (0 : Int)))))))))))))))
set_option maxRecDepth 100000 in
set_option maxHeartbeats 4000000 in
theorem walk_Contradiction {n : Int} {x : (List A3)} {values : (List Int)} {at_ : Int} {some_ : (List Int)} {Post : Bool → Prop} (hv : vc_Contradiction n x values at_ some_ Post) : FnP Try.prog 7 [.int .i64 n, .lst true x.length (encL e26 x), .lst true values.length (encL eInt values), .int .i64 at_, .lst true some_.length (encL eInt some_)] (fun x => ∃ q0, x = .bool q0 ∧ Post q0) := by
  refine FnP.of_walk (T := tt) (nt := 206) ttOk ttMix ⟨⟨Try.f7, Try.func7, rfl, rfl, rfl, rfl⟩⟩ (by simp) ?_
  unfold vc_Contradiction at hv
  change W _ _ _ ⟨206, look [(0, .int .i64 n), (1, .lst true x.length (encL e26 x)), (2, .lst true values.length (encL eInt values)), (3, .int .i64 at_), (4, .lst true some_.length (encL eInt some_))], [], false⟩ _
  refine W.tr [(0, .int _ _), (1, .lst _ _ _), (2, .lst _ _ _), (3, .int _ _), (4, .lst _ _ _)] [] ⟨rfl, rfl, rfl, rfl, rfl, trivial⟩ rfl ?_
  refine W.rL ?_
  refine cL rfl (o_assign (v := .bool _) rfl ?_)
  refine eL ?_
  refine W.tr [(0, .int _ _), (1, .lst _ _ _), (2, .lst _ _ _), (3, .int _ _), (4, .lst _ _ _)] [] ⟨rfl, rfl, rfl, rfl, rfl, trivial⟩ rfl ?_
  refine W.seq' ?_
  refine W.rL ?_
  refine cL rfl (o_callP1 (k := 11) (fst := []) (caps := []) (ys := []) rfl rfl (spec_sane) (Wks.refl _) ?_)
  refine cL rfl (o_notB rfl ?_)
  refine eL ?_
  refine W.tr [(0, .int _ _), (1, .lst _ _ _), (2, .lst _ _ _), (3, .int _ _), (4, .lst _ _ _), (35, .bool _)] [] ⟨rfl, rfl, rfl, rfl, rfl, rfl, trivial⟩ rfl ?_
  refine W.cn rfl (fun hc => ?_) (fun hc => ?_)
  · have hv := hv.1 hc
    refine W.rL ?_
    refine cL rfl (o_assign (v := .bool _) rfl ?_)
    refine eL ?_
    refine W.tr [(10, .bool _)] [] ⟨rfl, trivial⟩ rfl ?_
    refine W.ret ?_
    refine th_ret (rt ?_)
    refine rt_t (v := .bool _) rfl ?_
    refine rt_n ?_
    exact ⟨_, rs_bool _ _ _, false, rfl, hv⟩
  · have hv := hv.2 hc
    refine W.skip ?_
    refine th_nrm ?_
    refine W.tr [(0, .int _ _), (1, .lst _ _ _), (2, .lst _ _ _), (3, .int _ _), (4, .lst _ _ _)] [] ⟨rfl, rfl, rfl, rfl, rfl, trivial⟩ rfl ?_
    refine W.rL ?_
    refine cL rfl (o_move (v := .int _ _) rfl ?_)
    obtain ⟨s1, hv⟩ := hv
    obtain ⟨s2, hv⟩ := hv
    refine cL rfl (o_callP1 (k := 12) (fst := []) (caps := []) (ys := [.int _ _, .int _ _]) rfl rfl (spec_pick n (6 : Int) s1 s2) (Wks.cons (ag_int _ _ _ _) (Wks.cons (ag_int _ _ _ _) (Wks.refl _))) ?_)
    obtain ⟨s3, hv⟩ := hv
    refine cL rfl (o_add rfl rfl s3 ?_)
    refine cL rfl (o_assign (v := .int _ _) rfl ?_)
    refine eL ?_
    refine W.tr [(1, .lst _ _ _), (2, .lst _ _ _), (3, .int _ _), (4, .lst _ _ _), (11, .int _ _)] [] ⟨rfl, rfl, rfl, rfl, rfl, trivial⟩ rfl ?_
    refine W.rL ?_
    refine cL rfl (o_move (v := .int _ _) rfl ?_)
    refine cL rfl (o_move (v := .lst _ _ _) rfl ?_)
    obtain ⟨s4, hv⟩ := hv
    obtain ⟨s5, hv⟩ := hv
    obtain ⟨s6, hv⟩ := hv
    refine cL rfl (o_callP1 (k := 14) (fst := []) (caps := []) (ys := [.int _ _, .lst _ _ _]) rfl rfl (spec_made ((1 : Int) + (pickM n (6 : Int))) x s4 s5 s6) (Wks.cons (ag_int _ _ _ _) (Wks.cons (ag_lst _ _ _ _ _) (Wks.refl _))) ?_)
    refine cL rfl (o_assign (v := .lst _ _ _) rfl ?_)
    refine eL ?_
    refine W.tr [(2, .lst _ _ _), (3, .int _ _), (4, .lst _ _ _), (11, .int _ _), (12, .lst _ _ _)] [] ⟨rfl, rfl, rfl, rfl, rfl, trivial⟩ rfl ?_
    refine W.rL ?_
    refine cL rfl (o_move (v := .int _ _) rfl ?_)
    refine cL rfl (o_move (v := .lst _ _ _) rfl ?_)
    obtain ⟨s7, hv⟩ := hv
    refine cL rfl (o_callP1 (k := 15) (fst := []) (caps := []) (ys := [.int _ _, .lst _ _ _]) rfl rfl (spec_close ((1 : Int) + (pickM n (6 : Int))) (madeM ((1 : Int) + (pickM n (6 : Int))) x) s7) (Wks.cons (ag_int _ _ _ _) (Wks.cons (ag_lst _ _ _ _ _) (Wks.refl _))) ?_)
    refine cL rfl (o_move (v := .tup _) rfl ?_)
    refine cL rfl (o_ext (v := .agg _) rfl rfl ?_)
    refine cL rfl (o_ext (v := .lst _ _ _) rfl rfl ?_)
    refine cL rfl (o_ext (v := .int _ _) rfl rfl ?_)
    refine cL rfl (o_alloc (p := 0) tt34 rfl rfl ?_)
    refine cLn (o_stB (v := .agg _) (vs := [.int _ _, .lst _ _ _]) (cs2 := [.int _ _, .lst _ _ _]) tt34 rfl rfl rfl rfl rfl (Nat.le_of_ble_eq_true rfl) rfl ?_)
    refine cL rfl (o_assign (v := .lst _ _ _) rfl ?_)
    refine cL rfl (o_assign (v := .int _ _) rfl ?_)
    refine eL ?_
    refine W.tr [(2, .lst _ _ _), (3, .int _ _), (4, .lst _ _ _), (11, .int _ _), (12, .lst _ _ _), (14, .lst _ _ _), (15, .int _ _)] [.box _ [.int _ _, .lst _ _ _]] ⟨rfl, rfl, rfl, rfl, rfl, rfl, rfl, trivial⟩ rfl ?_
    refine W.seq' ?_
    refine W.rL ?_
    refine cL rfl (o_move (v := .int _ _) rfl ?_)
    refine cL rfl (o_neI rfl rfl rfl ?_)
    refine eL ?_
    refine W.tr [(2, .lst _ _ _), (3, .int _ _), (4, .lst _ _ _), (11, .int _ _), (12, .lst _ _ _), (14, .lst _ _ _), (15, .int _ _), (50, .bool _)] [.box _ [.int _ _, .lst _ _ _]] ⟨rfl, rfl, rfl, rfl, rfl, rfl, rfl, rfl, trivial⟩ rfl ?_
    refine W.cn rfl (fun hc => ?_) (fun hc => ?_)
    · have hv := hv.1 hc
      refine W.rLm ⟨206, look [(10, .bool (decide (((closeM ((1 : Int) + (pickM n (6 : Int))) (madeM ((1 : Int) + (pickM n (6 : Int))) x)).2.2 = (0 : Int)) ∧ (((((closeM ((1 : Int) + (pickM n (6 : Int))) (madeM ((1 : Int) + (pickM n (6 : Int))) x)).2.1).length : Nat) : Int) = (0 : Int)))))], [.box 34 [.int .i64 (((closeM ((1 : Int) + (pickM n (6 : Int))) (madeM ((1 : Int) + (pickM n (6 : Int))) x)).1).n), .lst false (((closeM ((1 : Int) + (pickM n (6 : Int))) (madeM ((1 : Int) + (pickM n (6 : Int))) x)).1).most).length (encL (eSl eInt true) (((closeM ((1 : Int) + (pickM n (6 : Int))) (madeM ((1 : Int) + (pickM n (6 : Int))) x)).1).most))]], false⟩ ?_ ?_
      · refine cL rfl (o_move (v := .int _ _) rfl ?_)
        refine cL rfl (o_eqI rfl rfl rfl ?_)
        refine cL rfl (o_move (v := .bool _) rfl ?_)
        by_cases c1 : (closeM ((1 : Int) + (pickM n (6 : Int))) (madeM ((1 : Int) + (pickM n (6 : Int))) x)).2.2 = (0 : Int)
        · refine cLg rfl rfl (decide_eq_true c1) ?_
          refine cL rfl (o_move (v := .lst _ _ _) rfl ?_)
          refine cLg rfl rfl (decide_eq_true c1) ?_
          refine cL rfl (o_len (v := .lst _ _ _) tt35 rfl rfl ?_)
          refine cLg rfl rfl (decide_eq_true c1) ?_
          refine cL rfl (o_eqI rfl rfl rfl ?_)
          refine cL rfl (o_pickT (v := .bool _) rfl (decide_eq_true c1) rfl ?_)
          refine cL rfl (o_assign (v := .bool _) rfl ?_)
          refine eL ?_
          exact le_mk ⟨(congrArg AV.bool (dAndT c1 (rfl))).symm, trivial⟩ rfl
        · refine cLs rfl rfl rfl (decide_eq_false c1) ?_
          refine cLs rfl rfl rfl (decide_eq_false c1) ?_
          refine cLs rfl rfl rfl (decide_eq_false c1) ?_
          refine cL rfl (o_pickF (v := .bool _) rfl (decide_eq_false c1) rfl ?_)
          refine cL rfl (o_assign (v := .bool _) rfl ?_)
          refine eL ?_
          exact le_mk ⟨(congrArg AV.bool (dAndF c1)).symm, trivial⟩ rfl
      · refine W.ret ?_
        refine th_ret (rt ?_)
        refine rt_t (v := .bool _) rfl ?_
        refine rt_n ?_
        exact ⟨_, rs_bool _ _ _, (decide (((closeM ((1 : Int) + (pickM n (6 : Int))) (madeM ((1 : Int) + (pickM n (6 : Int))) x)).2.2 = (0 : Int)) ∧ (((((closeM ((1 : Int) + (pickM n (6 : Int))) (madeM ((1 : Int) + (pickM n (6 : Int))) x)).2.1).length : Nat) : Int) = (0 : Int)))), rfl, hv⟩
    · have hv := hv.2 hc
      refine W.skip ?_
      refine th_nrm ?_
      refine W.tr [(2, .lst _ _ _), (3, .int _ _), (4, .lst _ _ _), (11, .int _ _), (12, .lst _ _ _), (14, .lst _ _ _)] [.box _ [.int _ _, .lst _ _ _]] ⟨rfl, rfl, rfl, rfl, rfl, rfl, trivial⟩ rfl ?_
      refine W.seq' ?_
      obtain ⟨sd, hv⟩ := hv
      refine W.rLm ⟨206, look [(2, .lst true values.length (encL eInt values)), (3, .int .i64 at_), (4, .lst true some_.length (encL eInt some_)), (11, .int .i64 ((1 : Int) + (pickM n (6 : Int)))), (12, .lst false (madeM ((1 : Int) + (pickM n (6 : Int))) x).length (encL e25 (madeM ((1 : Int) + (pickM n (6 : Int))) x))), (14, .lst false ((closeM ((1 : Int) + (pickM n (6 : Int))) (madeM ((1 : Int) + (pickM n (6 : Int))) x)).2.1).length (encL eInt ((closeM ((1 : Int) + (pickM n (6 : Int))) (madeM ((1 : Int) + (pickM n (6 : Int))) x)).2.1))), (66, .bool (decide ((((((closeM ((1 : Int) + (pickM n (6 : Int))) (madeM ((1 : Int) + (pickM n (6 : Int))) x)).2.1).length : Nat) : Int) = (0 : Int)) ∨ (¬ ((cycleM (madeM ((1 : Int) + (pickM n (6 : Int))) x) ((closeM ((1 : Int) + (pickM n (6 : Int))) (madeM ((1 : Int) + (pickM n (6 : Int))) x)).2.1)) = true)))))], [.box 34 [.int .i64 (((closeM ((1 : Int) + (pickM n (6 : Int))) (madeM ((1 : Int) + (pickM n (6 : Int))) x)).1).n), .lst false (((closeM ((1 : Int) + (pickM n (6 : Int))) (madeM ((1 : Int) + (pickM n (6 : Int))) x)).1).most).length (encL (eSl eInt true) (((closeM ((1 : Int) + (pickM n (6 : Int))) (madeM ((1 : Int) + (pickM n (6 : Int))) x)).1).most))]], false⟩ ?_ ?_
      · refine cL rfl (o_move (v := .lst _ _ _) rfl ?_)
        refine cL rfl (o_len (v := .lst _ _ _) tt35 rfl rfl ?_)
        refine cL rfl (o_eqI rfl rfl rfl ?_)
        refine cL rfl (o_move (v := .bool _) rfl ?_)
        by_cases c1 : ((((closeM ((1 : Int) + (pickM n (6 : Int))) (madeM ((1 : Int) + (pickM n (6 : Int))) x)).2.1).length : Nat) : Int) = (0 : Int)
        · refine cLs rfl rfl rfl (decide_eq_true c1) ?_
          refine cLs rfl rfl rfl (decide_eq_true c1) ?_
          refine cLs rfl rfl rfl (decide_eq_true c1) ?_
          refine cLs rfl rfl rfl (decide_eq_true c1) ?_
          refine cL rfl (o_pickT (v := .bool _) rfl (decide_eq_true c1) rfl ?_)
          refine eL ?_
          exact le_mk ⟨rfl, rfl, rfl, rfl, rfl, rfl, (congrArg AV.bool (dOrT c1)).symm, trivial⟩ rfl
        · have sd := sd.2 c1
          refine cLg rfl rfl (decide_eq_false c1) ?_
          refine cL rfl (o_move (v := .lst _ _ _) rfl ?_)
          refine cLg rfl rfl (decide_eq_false c1) ?_
          refine cL rfl (o_move (v := .lst _ _ _) rfl ?_)
          refine cLg rfl rfl (decide_eq_false c1) ?_
          obtain ⟨s14, sd⟩ := sd
          obtain ⟨s15, sd⟩ := sd
          refine cL rfl (o_callP1 (k := 31) (fst := []) (caps := []) (ys := [.lst _ _ _, .lst _ _ _]) rfl rfl (spec_cycle (madeM ((1 : Int) + (pickM n (6 : Int))) x) ((closeM ((1 : Int) + (pickM n (6 : Int))) (madeM ((1 : Int) + (pickM n (6 : Int))) x)).2.1) s14 s15) (Wks.cons (ag_lst _ _ _ _ _) (Wks.cons (ag_lst _ _ _ _ _) (Wks.refl _))) ?_)
          refine cLg rfl rfl (decide_eq_false c1) ?_
          refine cL rfl (o_notB rfl ?_)
          refine cL rfl (o_pickF (v := .bool _) rfl (decide_eq_false c1) rfl ?_)
          refine eL ?_
          exact le_mk ⟨rfl, rfl, rfl, rfl, rfl, rfl, (congrArg AV.bool (dOrF c1 (rfl))).symm, trivial⟩ rfl
      · refine W.cn rfl (fun hc => ?_) (fun hc => ?_)
        · have hv := hv.1 hc
          refine W.rL ?_
          refine cL rfl (o_assign (v := .bool _) rfl ?_)
          refine eL ?_
          refine W.tr [(10, .bool _)] [.box _ [.int _ _, .lst _ _ _]] ⟨rfl, trivial⟩ rfl ?_
          refine W.ret ?_
          refine th_ret (rt ?_)
          refine rt_t (v := .bool _) rfl ?_
          refine rt_n ?_
          exact ⟨_, rs_bool _ _ _, false, rfl, hv⟩
        · have hv := hv.2 hc
          refine W.skip ?_
          refine th_nrm ?_
          refine W.tr [(2, .lst _ _ _), (3, .int _ _), (4, .lst _ _ _), (11, .int _ _), (12, .lst _ _ _), (14, .lst _ _ _)] [.box _ [.int _ _, .lst _ _ _]] ⟨rfl, rfl, rfl, rfl, rfl, rfl, trivial⟩ rfl ?_
          refine W.rL ?_
          refine cL rfl (o_assign (v := .nilS) rfl ?_)
          refine eL ?_
          refine W.tr [(2, .lst _ _ _), (3, .int _ _), (4, .lst _ _ _), (11, .int _ _), (12, .lst _ _ _), (14, .lst _ _ _), (16, .nilS)] [.box _ [.int _ _, .lst _ _ _]] ⟨rfl, rfl, rfl, rfl, rfl, rfl, rfl, trivial⟩ rfl ?_
          refine W.rL ?_
          refine cL rfl (o_assign (v := .int _ _) rfl ?_)
          refine eL ?_
          refine W.tr [(2, .lst _ _ _), (3, .int _ _), (4, .lst _ _ _), (11, .int _ _), (12, .lst _ _ _), (14, .lst _ _ _), (16, .nilS), (17, .int _ _)] [.box _ [.int _ _, .lst _ _ _]] ⟨rfl, rfl, rfl, rfl, rfl, rfl, rfl, rfl, trivial⟩ rfl ?_
          refine W.seq' ?_
          refine W.rL ?_
          refine cL rfl (o_assign (v := .int _ _) rfl ?_)
          refine eL ?_
          refine W.tr [(2, .lst _ _ _), (3, .int _ _), (4, .lst _ _ _), (11, .int _ _), (12, .lst _ _ _), (14, .lst _ _ _), (16, .nilS), (17, .int _ _), (18, .int _ _)] [.box _ [.int _ _, .lst _ _ _]] ⟨rfl, rfl, rfl, rfl, rfl, rfl, rfl, rfl, rfl, trivial⟩ rfl ?_
          refine W.block ?_
          obtain ⟨I1, μ1, hp, hv⟩ := hv
          refine W.loop3 (fun v17 v18 r1 => ⟨206, look [(2, .lst true values.length (encL eInt values)), (3, .int .i64 at_), (4, .lst true some_.length (encL eInt some_)), (11, .int .i64 ((1 : Int) + (pickM n (6 : Int)))), (12, .lst false (madeM ((1 : Int) + (pickM n (6 : Int))) x).length (encL e25 (madeM ((1 : Int) + (pickM n (6 : Int))) x))), (14, .lst false ((closeM ((1 : Int) + (pickM n (6 : Int))) (madeM ((1 : Int) + (pickM n (6 : Int))) x)).2.1).length (encL eInt ((closeM ((1 : Int) + (pickM n (6 : Int))) (madeM ((1 : Int) + (pickM n (6 : Int))) x)).2.1))), (16, .ref true 1 r1.length), (17, .int .i64 v17), (18, .int .i64 v18)], [.dead, .row 25 4 (encL e25 r1)], false⟩) I1 μ1 (0 : Int) (0 : Int) [] (St.to_mk (φ := [none, none]) rfl (.inl rfl) ⟨Ren.lst _ _ _, Ren.int _ _, Ren.lst _ _ _, Ren.int _ _, Ren.lst _ _ _, Ren.lst _ _ _, Ren.nilR rfl rfl, Ren.int _ _, Ren.int _ _, trivial⟩ ⟨rfl, rfl, trivial⟩) hp ?_
          clear hp
          intro v17 v18 r1 hI
          replace hv := hv v17 v18 r1 hI
          clear hI
          refine W.seq' ?_
          refine W.rL ?_
          refine cL rfl (o_move (v := .int _ _) rfl ?_)
          refine cL rfl (o_move (v := .lst _ _ _) rfl ?_)
          refine cL rfl (o_len (v := .lst _ _ _) tt35 rfl rfl ?_)
          refine cL rfl (o_lss rfl rfl ?_)
          refine eL ?_
          refine W.tr [(2, .lst _ _ _), (3, .int _ _), (4, .lst _ _ _), (11, .int _ _), (12, .lst _ _ _), (14, .lst _ _ _), (16, .ref _ _ _), (17, .int _ _), (18, .int _ _), (70, .bool _)] [.dead, .row _ _ _] ⟨rfl, rfl, rfl, rfl, rfl, rfl, rfl, rfl, rfl, rfl, trivial⟩ rfl ?_
          refine W.cn rfl (fun hc => ?_) (fun hc => ?_)
          · have hv := hv.1 hc
            refine W.skip ?_
            refine th_nrm ?_
            refine W.tr [(2, .lst _ _ _), (3, .int _ _), (4, .lst _ _ _), (11, .int _ _), (12, .lst _ _ _), (14, .lst _ _ _), (16, .ref _ _ _), (17, .int _ _), (18, .int _ _)] [.dead, .row _ _ _] ⟨rfl, rfl, rfl, rfl, rfl, rfl, rfl, rfl, rfl, trivial⟩ rfl ?_
            refine W.seq' ?_
            refine W.block ?_
            refine W.seq' ?_
            obtain ⟨sd, hv⟩ := hv
            refine W.rLm ⟨206, look [(2, .lst true values.length (encL eInt values)), (3, .int .i64 at_), (4, .lst true some_.length (encL eInt some_)), (11, .int .i64 ((1 : Int) + (pickM n (6 : Int)))), (12, .lst false (madeM ((1 : Int) + (pickM n (6 : Int))) x).length (encL e25 (madeM ((1 : Int) + (pickM n (6 : Int))) x))), (14, .lst false ((closeM ((1 : Int) + (pickM n (6 : Int))) (madeM ((1 : Int) + (pickM n (6 : Int))) x)).2.1).length (encL eInt ((closeM ((1 : Int) + (pickM n (6 : Int))) (madeM ((1 : Int) + (pickM n (6 : Int))) x)).2.1))), (16, .ref true 1 r1.length), (17, .int .i64 v17), (18, .int .i64 v18), (86, .bool (decide (((lat ((closeM ((1 : Int) + (pickM n (6 : Int))) (madeM ((1 : Int) + (pickM n (6 : Int))) x)).2.1) v18) < (0 : Int)) ∨ ((((madeM ((1 : Int) + (pickM n (6 : Int))) x).length : Nat) : Int) ≤ (lat ((closeM ((1 : Int) + (pickM n (6 : Int))) (madeM ((1 : Int) + (pickM n (6 : Int))) x)).2.1) v18)))))], [.dead, .row 25 4 (encL e25 r1)], false⟩ ?_ ?_
            · refine cL rfl (o_move (v := .lst _ _ _) rfl ?_)
              refine cL rfl (o_move (v := .int _ _) rfl ?_)
              obtain ⟨s177, sd⟩ := sd
              refine cL rfl (o_iaL tt35 tt3 rfl rfl (encInt.wd true) rfl s177 ?_)
              intro rest177
              refine cL rfl (o_ldS (v := .int _ _) tt3 rfl rfl ⟨_, rfl⟩ ?_)
              refine cL rfl (o_lss rfl rfl ?_)
              refine cL rfl (o_move (v := .bool _) rfl ?_)
              by_cases c1 : (lat ((closeM ((1 : Int) + (pickM n (6 : Int))) (madeM ((1 : Int) + (pickM n (6 : Int))) x)).2.1) v18) < (0 : Int)
              · refine cLs rfl rfl rfl (decide_eq_true c1) ?_
                refine cLs rfl rfl rfl (decide_eq_true c1) ?_
                refine cLs rfl rfl rfl (decide_eq_true c1) ?_
                refine cLs rfl rfl rfl (decide_eq_true c1) ?_
                refine cLs rfl rfl rfl (decide_eq_true c1) ?_
                refine cLs rfl rfl rfl (decide_eq_true c1) ?_
                refine cLs rfl rfl rfl (decide_eq_true c1) ?_
                refine cL rfl (o_pickT (v := .bool _) rfl (decide_eq_true c1) rfl ?_)
                refine eL ?_
                exact le_mk ⟨rfl, rfl, rfl, rfl, rfl, rfl, rfl, rfl, rfl, (congrArg AV.bool (dOrT c1)).symm, trivial⟩ rfl
              · have sd := sd.2 c1
                refine cLg rfl rfl (decide_eq_false c1) ?_
                refine cL rfl (o_move (v := .lst _ _ _) rfl ?_)
                refine cLg rfl rfl (decide_eq_false c1) ?_
                refine cL rfl (o_move (v := .int _ _) rfl ?_)
                refine cLg rfl rfl (decide_eq_false c1) ?_
                obtain ⟨s178, sd⟩ := sd
                refine cL rfl (o_iaL tt35 tt3 rfl rfl (encInt.wd true) rfl s178 ?_)
                intro rest178
                refine cLg rfl rfl (decide_eq_false c1) ?_
                refine cL rfl (o_ldS (v := .int _ _) tt3 rfl rfl ⟨_, rfl⟩ ?_)
                refine cLg rfl rfl (decide_eq_false c1) ?_
                refine cL rfl (o_move (v := .lst _ _ _) rfl ?_)
                refine cLg rfl rfl (decide_eq_false c1) ?_
                refine cL rfl (o_len (v := .lst _ _ _) tt22 rfl rfl ?_)
                refine cLg rfl rfl (decide_eq_false c1) ?_
                refine cL rfl (o_geq rfl rfl ?_)
                refine cL rfl (o_pickF (v := .bool _) rfl (decide_eq_false c1) rfl ?_)
                refine eL ?_
                exact le_mk ⟨rfl, rfl, rfl, rfl, rfl, rfl, rfl, rfl, rfl, (congrArg AV.bool (dOrF c1 (rfl))).symm, trivial⟩ rfl
            · refine W.cn rfl (fun hc => ?_) (fun hc => ?_)
              · have hv := hv.1 hc
                refine W.rL ?_
                refine cL rfl (o_assign (v := .bool _) rfl ?_)
                refine eL ?_
                refine W.tr [(10, .bool _)] [.dead, .row _ _ _] ⟨rfl, trivial⟩ rfl ?_
                refine W.ret ?_
                refine th_ret (bl_ret (th_ret (th_ret (bl_ret (th_ret (rt ?_))))))
                refine rt_t (v := .bool _) rfl ?_
                refine rt_n ?_
                exact ⟨_, rs_bool _ _ _, false, rfl, hv⟩
              · have hv := hv.2 hc
                refine W.skip ?_
                refine th_nrm ?_
                refine W.tr [(2, .lst _ _ _), (3, .int _ _), (4, .lst _ _ _), (11, .int _ _), (12, .lst _ _ _), (14, .lst _ _ _), (16, .ref _ _ _), (17, .int _ _), (18, .int _ _)] [.dead, .row _ _ _] ⟨rfl, rfl, rfl, rfl, rfl, rfl, rfl, rfl, rfl, trivial⟩ rfl ?_
                refine W.rL ?_
                refine cL rfl (o_move (v := .ref _ _ _) rfl ?_)
                refine cL rfl (o_move (v := .lst _ _ _) rfl ?_)
                refine cL rfl (o_move (v := .lst _ _ _) rfl ?_)
                refine cL rfl (o_move (v := .int _ _) rfl ?_)
                obtain ⟨s179, hv⟩ := hv
                refine cL rfl (o_iaL tt35 tt3 rfl rfl (encInt.wd true) rfl s179 ?_)
                intro rest179
                refine cL rfl (o_ldS (v := .int _ _) tt3 rfl rfl ⟨_, rfl⟩ ?_)
                obtain ⟨s180, hv⟩ := hv
                refine cL rfl (o_iaL tt22 tt25 rfl rfl (enc25.wd true) rfl s180 ?_)
                intro rest180
                refine cL rfl (o_ldA (cs := [.int _ _, .int _ _, .int _ _, .int _ _]) tt25 rfl rfl ⟨_, rfl⟩ rfl ?_)
                refine cL rfl (o_bs1 (v := .agg _) (q := 2) tt22 tt25 rfl rfl rfl rfl rfl rfl rfl rfl ?_)
                obtain ⟨s181, hv⟩ := hv
                refine cL rfl (o_apR (p := 3) (q := (r1 ++ [(lat (madeM ((1 : Int) + (pickM n (6 : Int))) x) (lat ((closeM ((1 : Int) + (pickM n (6 : Int))) (madeM ((1 : Int) + (pickM n (6 : Int))) x)).2.1) v18))]).length) tt22 tt25 rfl rfl (src_ref rfl rfl) rfl rfl (encL_length (enc25.wd false) _) (Nat.le_trans (Nat.le_of_eq (@List.length_append _ (r1) ([(lat (madeM ((1 : Int) + (pickM n (6 : Int))) x) (lat ((closeM ((1 : Int) + (pickM n (6 : Int))) (madeM ((1 : Int) + (pickM n (6 : Int))) x)).2.1) v18))])).symm) s181) rfl (@List.length_append _ (r1) ([(lat (madeM ((1 : Int) + (pickM n (6 : Int))) x) (lat ((closeM ((1 : Int) + (pickM n (6 : Int))) (madeM ((1 : Int) + (pickM n (6 : Int))) x)).2.1) v18))])).symm (encL_app e25 r1 [(lat (madeM ((1 : Int) + (pickM n (6 : Int))) x) (lat ((closeM ((1 : Int) + (pickM n (6 : Int))) (madeM ((1 : Int) + (pickM n (6 : Int))) x)).2.1) v18))]) ?_)
                refine cL rfl (o_assign (v := .ref _ _ _) rfl ?_)
                refine eL ?_
                refine W.tr [(2, .lst _ _ _), (3, .int _ _), (4, .lst _ _ _), (11, .int _ _), (12, .lst _ _ _), (14, .lst _ _ _), (16, .ref _ _ _), (17, .int _ _), (18, .int _ _)] [.dead, .dead, .row _ _ _, .row _ _ _] ⟨rfl, rfl, rfl, rfl, rfl, rfl, rfl, rfl, rfl, trivial⟩ rfl ?_
                refine W.rL1 ?_
                refine cL rfl (o_move (v := .int _ _) rfl ?_)
                refine cL rfl (o_move (v := .lst _ _ _) rfl ?_)
                refine cL rfl (o_move (v := .lst _ _ _) rfl ?_)
                refine cL rfl (o_move (v := .int _ _) rfl ?_)
                obtain ⟨s182, hv⟩ := hv
                refine cL rfl (o_iaL tt35 tt3 rfl rfl (encInt.wd true) rfl s182 ?_)
                intro rest182
                refine cL rfl (o_ldS (v := .int _ _) tt3 rfl rfl ⟨_, rfl⟩ ?_)
                obtain ⟨s183, hv⟩ := hv
                refine cL rfl (o_iaL tt22 tt25 rfl rfl (enc25.wd true) rfl s183 ?_)
                intro rest183
                refine cL rfl (o_faP tt25 rfl tt3 rfl ?_)
                refine cL rfl (o_ldS (v := .int _ _) tt3 rfl rfl ⟨_, rfl⟩ ?_)
                obtain ⟨s184, hv⟩ := hv
                refine cL rfl (o_add rfl rfl s184 ?_)
                refine cL rfl (o_assign (v := .int _ _) rfl ?_)
                refine eL ?_
                refine bl_nrm (th_nrm ?_)
                refine W.tr [(2, .lst _ _ _), (3, .int _ _), (4, .lst _ _ _), (11, .int _ _), (12, .lst _ _ _), (14, .lst _ _ _), (16, .ref _ _ _), (17, .int _ _), (18, .int _ _)] [.dead, .dead, .row _ _ _, .row _ _ _] ⟨rfl, rfl, rfl, rfl, rfl, rfl, rfl, rfl, rfl, trivial⟩ rfl ?_
                refine W.rL1 ?_
                refine cL rfl (o_move (v := .int _ _) rfl ?_)
                obtain ⟨s185, hv⟩ := hv
                refine cL rfl (o_add rfl rfl s185 ?_)
                refine cL rfl (o_assign (v := .int _ _) rfl ?_)
                refine eL ?_
                exact th_nrm (⟨(), (v17 + ((lat (madeM ((1 : Int) + (pickM n (6 : Int))) x) (lat ((closeM ((1 : Int) + (pickM n (6 : Int))) (madeM ((1 : Int) + (pickM n (6 : Int))) x)).2.1) v18)).m)), (v18 + (1 : Int)), (r1 ++ [(lat (madeM ((1 : Int) + (pickM n (6 : Int))) x) (lat ((closeM ((1 : Int) + (pickM n (6 : Int))) (madeM ((1 : Int) + (pickM n (6 : Int))) x)).2.1) v18))]), hv, St.to_mk (φ := [none, some 3]) rfl (.inl rfl) ⟨Ren.lst _ _ _, Ren.int _ _, Ren.lst _ _ _, Ren.int _ _, Ren.lst _ _ _, Ren.lst _ _ _, Ren.ref rfl (fun h => rfl), Ren.int _ _, Ren.int _ _, trivial⟩ ⟨rfl, .inr ⟨_, rfl, rfl, rfl, rfl, Rens.enc enc25 false (r1 ++ [(lat (madeM ((1 : Int) + (pickM n (6 : Int))) x) (lat ((closeM ((1 : Int) + (pickM n (6 : Int))) (madeM ((1 : Int) + (pickM n (6 : Int))) x)).2.1) v18))])⟩, trivial⟩⟩)
          · have hv := hv.2 hc
            refine W.exit ?_
            refine th_exit (th_exit (bl_hit (th_nrm ?_)))
            refine W.tr [(2, .lst _ _ _), (3, .int _ _), (4, .lst _ _ _), (11, .int _ _), (12, .lst _ _ _), (14, .lst _ _ _), (16, .ref _ _ _), (17, .int _ _)] [.dead, .row _ _ _] ⟨rfl, rfl, rfl, rfl, rfl, rfl, rfl, rfl, trivial⟩ rfl ?_
            refine W.rL ?_
            refine cL rfl (o_assign (v := .nilS) rfl ?_)
            refine eL ?_
            refine W.tr [(2, .lst _ _ _), (3, .int _ _), (4, .lst _ _ _), (11, .int _ _), (12, .lst _ _ _), (14, .lst _ _ _), (16, .ref _ _ _), (17, .int _ _), (19, .nilS)] [.dead, .row _ _ _] ⟨rfl, rfl, rfl, rfl, rfl, rfl, rfl, rfl, rfl, trivial⟩ rfl ?_
            refine W.seq' ?_
            refine W.rL ?_
            refine cL rfl (o_assign (v := .int _ _) rfl ?_)
            refine eL ?_
            refine W.tr [(2, .lst _ _ _), (3, .int _ _), (4, .lst _ _ _), (11, .int _ _), (12, .lst _ _ _), (14, .lst _ _ _), (16, .ref _ _ _), (17, .int _ _), (19, .nilS), (20, .int _ _)] [.dead, .row _ _ _] ⟨rfl, rfl, rfl, rfl, rfl, rfl, rfl, rfl, rfl, rfl, trivial⟩ rfl ?_
            refine W.block ?_
            obtain ⟨I2, μ2, hp, hv⟩ := hv
            refine W.loop2 (fun v20 r2 => ⟨206, look [(2, .lst true values.length (encL eInt values)), (3, .int .i64 at_), (4, .lst true some_.length (encL eInt some_)), (11, .int .i64 ((1 : Int) + (pickM n (6 : Int)))), (12, .lst false (madeM ((1 : Int) + (pickM n (6 : Int))) x).length (encL e25 (madeM ((1 : Int) + (pickM n (6 : Int))) x))), (14, .lst false ((closeM ((1 : Int) + (pickM n (6 : Int))) (madeM ((1 : Int) + (pickM n (6 : Int))) x)).2.1).length (encL eInt ((closeM ((1 : Int) + (pickM n (6 : Int))) (madeM ((1 : Int) + (pickM n (6 : Int))) x)).2.1))), (16, .ref true 1 r1.length), (17, .int .i64 v17), (19, .ref true 2 r2.length), (20, .int .i64 v20)], [.dead, .row 25 4 (encL e25 r1), .row 3 1 (encL eInt r2)], false⟩) I2 μ2 (0 : Int) [] (St.to_mk (φ := [none, some 1, none]) rfl (.inl rfl) ⟨Ren.lst _ _ _, Ren.int _ _, Ren.lst _ _ _, Ren.int _ _, Ren.lst _ _ _, Ren.lst _ _ _, Ren.ref rfl (fun h => rfl), Ren.int _ _, Ren.nilR rfl rfl, Ren.int _ _, trivial⟩ ⟨rfl, .inr ⟨_, rfl, rfl, rfl, rfl, Rens.enc enc25 false r1⟩, rfl, trivial⟩) hp ?_
            clear hp
            intro v20 r2 hI
            replace hv := hv v20 r2 hI
            clear hI
            refine W.seq' ?_
            refine W.rL ?_
            refine cL rfl (o_move (v := .int _ _) rfl ?_)
            refine cL rfl (o_move (v := .int _ _) rfl ?_)
            refine cL rfl (o_lss rfl rfl ?_)
            refine eL ?_
            refine W.tr [(2, .lst _ _ _), (3, .int _ _), (4, .lst _ _ _), (11, .int _ _), (12, .lst _ _ _), (14, .lst _ _ _), (16, .ref _ _ _), (17, .int _ _), (19, .ref _ _ _), (20, .int _ _), (109, .bool _)] [.dead, .row _ _ _, .row _ _ _] ⟨rfl, rfl, rfl, rfl, rfl, rfl, rfl, rfl, rfl, rfl, rfl, trivial⟩ rfl ?_
            refine W.cn rfl (fun hc => ?_) (fun hc => ?_)
            · have hv := hv.1 hc
              refine W.skip ?_
              refine th_nrm ?_
              refine W.tr [(2, .lst _ _ _), (3, .int _ _), (4, .lst _ _ _), (11, .int _ _), (12, .lst _ _ _), (14, .lst _ _ _), (16, .ref _ _ _), (17, .int _ _), (19, .ref _ _ _), (20, .int _ _)] [.dead, .row _ _ _, .row _ _ _] ⟨rfl, rfl, rfl, rfl, rfl, rfl, rfl, rfl, rfl, rfl, trivial⟩ rfl ?_
              refine W.seq' ?_
              refine W.block ?_
              refine W.rL ?_
              refine cL rfl (o_assign (v := .int _ _) rfl ?_)
              refine eL ?_
              refine W.tr [(2, .lst _ _ _), (3, .int _ _), (4, .lst _ _ _), (11, .int _ _), (12, .lst _ _ _), (14, .lst _ _ _), (16, .ref _ _ _), (17, .int _ _), (19, .ref _ _ _), (20, .int _ _), (21, .int _ _)] [.dead, .row _ _ _, .row _ _ _] ⟨rfl, rfl, rfl, rfl, rfl, rfl, rfl, rfl, rfl, rfl, rfl, trivial⟩ rfl ?_
              obtain ⟨J3, hj, hv⟩ := hv
              refine W.mid1 (fun v21 => ⟨206, look [(2, .lst true values.length (encL eInt values)), (3, .int .i64 at_), (4, .lst true some_.length (encL eInt some_)), (11, .int .i64 ((1 : Int) + (pickM n (6 : Int)))), (12, .lst false (madeM ((1 : Int) + (pickM n (6 : Int))) x).length (encL e25 (madeM ((1 : Int) + (pickM n (6 : Int))) x))), (14, .lst false ((closeM ((1 : Int) + (pickM n (6 : Int))) (madeM ((1 : Int) + (pickM n (6 : Int))) x)).2.1).length (encL eInt ((closeM ((1 : Int) + (pickM n (6 : Int))) (madeM ((1 : Int) + (pickM n (6 : Int))) x)).2.1))), (16, .ref true 1 r1.length), (17, .int .i64 v17), (19, .ref true 2 r2.length), (20, .int .i64 v20), (21, .int .i64 v21)], [.dead, .row 25 4 (encL e25 r1), .row 3 1 (encL eInt r2)], false⟩) J3 ?_ ?_
              · intro v21
                intro hv
                replace hv := hj v21 hv
                refine W.rL1 ?_
                refine cL rfl (o_move (v := .ref _ _ _) rfl ?_)
                refine cL rfl (o_move (v := .int _ _) rfl ?_)
                refine cL rfl (o_bs1 (v := .int _ _) (q := 3) tt35 tt3 rfl rfl rfl rfl rfl rfl rfl rfl ?_)
                obtain ⟨s267, hv⟩ := hv
                refine cL rfl (o_apR (p := 4) (q := (r2 ++ [v21]).length) tt35 tt3 rfl rfl (src_ref rfl rfl) rfl rfl (encL_length (encInt.wd false) _) (Nat.le_trans (Nat.le_of_eq (@List.length_append _ (r2) ([v21])).symm) s267) rfl (@List.length_append _ (r2) ([v21])).symm (encL_app eInt r2 [v21]) ?_)
                refine cL rfl (o_assign (v := .ref _ _ _) rfl ?_)
                refine eL ?_
                refine bl_nrm (th_nrm ?_)
                refine W.tr [(2, .lst _ _ _), (3, .int _ _), (4, .lst _ _ _), (11, .int _ _), (12, .lst _ _ _), (14, .lst _ _ _), (16, .ref _ _ _), (17, .int _ _), (19, .ref _ _ _), (20, .int _ _)] [.dead, .row _ _ _, .dead, .row _ _ _, .row _ _ _] ⟨rfl, rfl, rfl, rfl, rfl, rfl, rfl, rfl, rfl, rfl, trivial⟩ rfl ?_
                refine W.rL1 ?_
                refine cL rfl (o_move (v := .int _ _) rfl ?_)
                obtain ⟨s268, hv⟩ := hv
                refine cL rfl (o_add rfl rfl s268 ?_)
                refine cL rfl (o_assign (v := .int _ _) rfl ?_)
                refine eL ?_
                exact th_nrm (⟨(), (v20 + (1 : Int)), (r2 ++ [v21]), hv, St.to_mk (φ := [none, some 1, some 4]) rfl (.inl rfl) ⟨Ren.lst _ _ _, Ren.int _ _, Ren.lst _ _ _, Ren.int _ _, Ren.lst _ _ _, Ren.lst _ _ _, Ren.ref rfl (fun h => rfl), Ren.int _ _, Ren.ref rfl (fun h => rfl), Ren.int _ _, trivial⟩ ⟨rfl, .inr ⟨_, rfl, rfl, rfl, rfl, Rens.enc enc25 false r1⟩, .inr ⟨_, rfl, rfl, rfl, rfl, Rens.enc encInt false (r2 ++ [v21])⟩, trivial⟩⟩)
              · clear hj
                refine W.rL ?_
                refine cL rfl (o_move (v := .int _ _) rfl ?_)
                refine cL rfl (o_move (v := .lst _ _ _) rfl ?_)
                refine cL rfl (o_len (v := .lst _ _ _) tt35 rfl rfl ?_)
                refine cL rfl (o_lss rfl rfl ?_)
                refine eL ?_
                refine W.tr [(2, .lst _ _ _), (3, .int _ _), (4, .lst _ _ _), (11, .int _ _), (12, .lst _ _ _), (14, .lst _ _ _), (16, .ref _ _ _), (17, .int _ _), (19, .ref _ _ _), (20, .int _ _), (21, .int _ _), (115, .bool _)] [.dead, .row _ _ _, .row _ _ _] ⟨rfl, rfl, rfl, rfl, rfl, rfl, rfl, rfl, rfl, rfl, rfl, rfl, trivial⟩ rfl ?_
                refine W.cn rfl (fun hc => ?_) (fun hc => ?_)
                · have hv := hv.1 hc
                  refine W.rL1 ?_
                  refine cL rfl (o_move (v := .lst _ _ _) rfl ?_)
                  refine cL rfl (o_move (v := .int _ _) rfl ?_)
                  obtain ⟨s269, hv⟩ := hv
                  refine cL rfl (o_iaL tt35 tt3 rfl rfl (encInt.wd true) rfl s269 ?_)
                  intro rest269
                  refine cL rfl (o_ldS (v := .int _ _) tt3 rfl rfl ⟨_, rfl⟩ ?_)
                  obtain ⟨s270, hv⟩ := hv
                  obtain ⟨s271, hv⟩ := hv
                  refine cL rfl (o_callP1 (k := 12) (fst := []) (caps := []) (ys := [.int _ _, .int _ _]) rfl rfl (spec_pick (lat values v20) (1000 : Int) s270 s271) (Wks.cons (ag_int _ _ _ _) (Wks.cons (ag_int _ _ _ _) (Wks.refl _))) ?_)
                  refine cL rfl (o_assign (v := .int _ _) rfl ?_)
                  refine eL ?_
                  exact th_nrm (⟨(), (pickM (lat values v20) (1000 : Int)), hv, St.to_mk (φ := [none, some 1, some 2]) rfl (.inl rfl) ⟨Ren.lst _ _ _, Ren.int _ _, Ren.lst _ _ _, Ren.int _ _, Ren.lst _ _ _, Ren.lst _ _ _, Ren.ref rfl (fun h => rfl), Ren.int _ _, Ren.ref rfl (fun h => rfl), Ren.int _ _, Ren.int _ _, trivial⟩ ⟨rfl, .inr ⟨_, rfl, rfl, rfl, rfl, Rens.enc enc25 false r1⟩, .inr ⟨_, rfl, rfl, rfl, rfl, Rens.enc encInt false r2⟩, trivial⟩⟩)
                · have hv := hv.2 hc
                  refine W.skip ?_
                  exact th_nrm (⟨(), (0 : Int), hv, St.to_mk (φ := [none, some 1, some 2]) rfl (.inl rfl) ⟨Ren.lst _ _ _, Ren.int _ _, Ren.lst _ _ _, Ren.int _ _, Ren.lst _ _ _, Ren.lst _ _ _, Ren.ref rfl (fun h => rfl), Ren.int _ _, Ren.ref rfl (fun h => rfl), Ren.int _ _, Ren.int _ _, trivial⟩ ⟨rfl, .inr ⟨_, rfl, rfl, rfl, rfl, Rens.enc enc25 false r1⟩, .inr ⟨_, rfl, rfl, rfl, rfl, Rens.enc encInt false r2⟩, trivial⟩⟩)
            · have hv := hv.2 hc
              refine W.exit ?_
              refine th_exit (th_exit (bl_hit (th_nrm ?_)))
              refine W.tr [(3, .int _ _), (4, .lst _ _ _), (11, .int _ _), (12, .lst _ _ _), (14, .lst _ _ _), (16, .ref _ _ _), (17, .int _ _), (19, .ref _ _ _)] [.dead, .row _ _ _, .row _ _ _] ⟨rfl, rfl, rfl, rfl, rfl, rfl, rfl, rfl, trivial⟩ rfl ?_
              refine W.rL ?_
              refine cL rfl (o_move (v := .int _ _) rfl ?_)
              refine cL rfl (o_move (v := .ref _ _ _) rfl ?_)
              refine cL rfl (o_len (v := .ref _ _ _) tt22 rfl rfl ?_)
              obtain ⟨s272, hv⟩ := hv
              obtain ⟨s273, hv⟩ := hv
              refine cL rfl (o_callP1 (k := 12) (fst := []) (caps := []) (ys := [.int _ _, .int _ _]) rfl rfl (spec_pick at_ ((r1.length : Nat) : Int) s272 s273) (Wks.cons (ag_int _ _ _ _) (Wks.cons (ag_int _ _ _ _) (Wks.refl _))) ?_)
              refine cL rfl (o_assign (v := .int _ _) rfl ?_)
              refine eL ?_
              refine W.tr [(4, .lst _ _ _), (11, .int _ _), (12, .lst _ _ _), (14, .lst _ _ _), (16, .ref _ _ _), (17, .int _ _), (19, .ref _ _ _), (22, .int _ _)] [.dead, .row _ _ _, .row _ _ _] ⟨rfl, rfl, rfl, rfl, rfl, rfl, rfl, rfl, trivial⟩ rfl ?_
              refine W.rD [0, 1, 2, 3, 4, 5, 6, 7, 8, 9, 10] (by decide +kernel) rfl ?_
              refine cL rfl (o_buildS (q := 3) (qs := []) (cs := []) tt22 tt25 rfl rfl rfl rfl ?_)
              refine cL rfl (o_move (v := .ref _ _ _) rfl ?_)
              refine cL rfl (o_move (v := .int _ _) rfl ?_)
              obtain ⟨s274, hv⟩ := hv
              refine cL rfl (o_slR tt22 tt25 rfl rfl rfl s274 (off := 0) (c := (pickM at_ ((r1.length : Nat) : Int)).toNat) (by simp) (by simp) ?_)
              obtain ⟨s275, hv⟩ := hv
              obtain ⟨s276, hv⟩ := hv
              refine cL rfl (o_apR (p := 4) (q := (r1.take (pickM at_ ((r1.length : Nat) : Int)).toNat).length) tt22 tt25 rfl rfl (src_subR (k := 0) (xs := r1) (ys := r1.take (pickM at_ ((r1.length : Nat) : Int)).toNat) (enc25.wd false) rfl (by simp) (by simp) s275) (encL_length (enc25.wd false) _) rfl rfl (by simpa using s276) rfl (Nat.zero_add _) (List.nil_append _) ?_)
              refine cL rfl (o_move (v := .ref _ _ _) rfl ?_)
              refine cL rfl (o_move (v := .int _ _) rfl ?_)
              obtain ⟨s277, hv⟩ := hv
              refine cL rfl (o_add rfl rfl s277 ?_)
              obtain ⟨s278, hv⟩ := hv
              refine cL rfl (o_slR tt22 tt25 rfl rfl rfl s278 (off := ((pickM at_ ((r1.length : Nat) : Int)) + (1 : Int)).toNat * 4) (c := r1.length - ((pickM at_ ((r1.length : Nat) : Int)) + (1 : Int)).toNat) (by simp) (by simp) ?_)
              obtain ⟨s279, hv⟩ := hv
              obtain ⟨s280, hv⟩ := hv
              refine cL rfl (o_apR (p := 5) (q := ((r1.take (pickM at_ ((r1.length : Nat) : Int)).toNat) ++ ((r1.drop ((pickM at_ ((r1.length : Nat) : Int)) + (1 : Int)).toNat).take (r1.length - ((pickM at_ ((r1.length : Nat) : Int)) + (1 : Int)).toNat))).length) tt22 tt25 rfl rfl (src_subR (k := ((pickM at_ ((r1.length : Nat) : Int)) + (1 : Int)).toNat) (xs := r1) (ys := (r1.drop ((pickM at_ ((r1.length : Nat) : Int)) + (1 : Int)).toNat).take (r1.length - ((pickM at_ ((r1.length : Nat) : Int)) + (1 : Int)).toNat)) (enc25.wd false) rfl rfl rfl s279) (encL_length (enc25.wd false) _) rfl (encL_length (enc25.wd false) _) (Nat.le_trans (Nat.le_of_eq (@List.length_append _ (r1.take (pickM at_ ((r1.length : Nat) : Int)).toNat) ((r1.drop ((pickM at_ ((r1.length : Nat) : Int)) + (1 : Int)).toNat).take (r1.length - ((pickM at_ ((r1.length : Nat) : Int)) + (1 : Int)).toNat))).symm) s280) rfl (@List.length_append _ (r1.take (pickM at_ ((r1.length : Nat) : Int)).toNat) ((r1.drop ((pickM at_ ((r1.length : Nat) : Int)) + (1 : Int)).toNat).take (r1.length - ((pickM at_ ((r1.length : Nat) : Int)) + (1 : Int)).toNat))).symm (encL_app e25 (r1.take (pickM at_ ((r1.length : Nat) : Int)).toNat) ((r1.drop ((pickM at_ ((r1.length : Nat) : Int)) + (1 : Int)).toNat).take (r1.length - ((pickM at_ ((r1.length : Nat) : Int)) + (1 : Int)).toNat))) ?_)
              refine cL rfl (o_assign (v := .ref _ _ _) rfl ?_)
              refine eL ?_
              refine W.tr [(4, .lst _ _ _), (11, .int _ _), (12, .lst _ _ _), (14, .lst _ _ _), (16, .ref _ _ _), (17, .int _ _), (19, .ref _ _ _), (23, .ref _ _ _)] [.dead, .row _ _ _, .row _ _ _, .dead, .dead, .row _ _ _] ⟨rfl, rfl, rfl, rfl, rfl, rfl, rfl, rfl, trivial⟩ rfl ?_
              refine W.rL ?_
              refine cL rfl (o_move (v := .int _ _) rfl ?_)
              refine cL rfl (o_move (v := .ref _ _ _) rfl ?_)
              obtain ⟨s281, hv⟩ := hv
              refine cL rfl (o_callP1 (k := 15) (fst := []) (caps := []) (ys := [.int _ _, .ref _ _ _]) rfl rfl (spec_close ((1 : Int) + (pickM n (6 : Int))) ((r1.take (pickM at_ ((r1.length : Nat) : Int)).toNat) ++ ((r1.drop ((pickM at_ ((r1.length : Nat) : Int)) + (1 : Int)).toNat).take (r1.length - ((pickM at_ ((r1.length : Nat) : Int)) + (1 : Int)).toNat))) s281) (Wks.cons (ag_int _ _ _ _) (Wks.cons (ag_ref (fl := false) (xs := (r1.take (pickM at_ ((r1.length : Nat) : Int)).toNat) ++ ((r1.drop ((pickM at_ ((r1.length : Nat) : Int)) + (1 : Int)).toNat).take (r1.length - ((pickM at_ ((r1.length : Nat) : Int)) + (1 : Int)).toNat))) enc25 4 _ rfl rfl) (Wks.refl _))) ?_)
              refine cL rfl (o_move (v := .tup _) rfl ?_)
              refine cL rfl (o_ext (v := .agg _) rfl rfl ?_)
              refine cL rfl (o_ext (v := .lst _ _ _) rfl rfl ?_)
              refine cL rfl (o_ext (v := .int _ _) rfl rfl ?_)
              refine cL rfl (o_alloc (p := 6) tt34 rfl rfl ?_)
              refine cLn (o_stB (v := .agg _) (vs := [.int _ _, .lst _ _ _]) (cs2 := [.int _ _, .lst _ _ _]) tt34 rfl rfl rfl rfl rfl (Nat.le_of_ble_eq_true rfl) rfl ?_)
              refine cL rfl (o_assign (v := .lst _ _ _) rfl ?_)
              refine cL rfl (o_assign (v := .int _ _) rfl ?_)
              refine eL ?_
              refine W.tr [(4, .lst _ _ _), (11, .int _ _), (12, .lst _ _ _), (14, .lst _ _ _), (16, .ref _ _ _), (17, .int _ _), (19, .ref _ _ _), (23, .ref _ _ _), (24, .ptr _ _), (26, .int _ _)] [.dead, .row _ _ _, .row _ _ _, .dead, .dead, .row _ _ _, .box _ [.int _ _, .lst _ _ _]] ⟨rfl, rfl, rfl, rfl, rfl, rfl, rfl, rfl, rfl, rfl, trivial⟩ rfl ?_
              refine W.seq' ?_
              obtain ⟨sd, hv⟩ := hv
              refine W.rLm ⟨206, look [(4, .lst true some_.length (encL eInt some_)), (11, .int .i64 ((1 : Int) + (pickM n (6 : Int)))), (12, .lst false (madeM ((1 : Int) + (pickM n (6 : Int))) x).length (encL e25 (madeM ((1 : Int) + (pickM n (6 : Int))) x))), (14, .lst false ((closeM ((1 : Int) + (pickM n (6 : Int))) (madeM ((1 : Int) + (pickM n (6 : Int))) x)).2.1).length (encL eInt ((closeM ((1 : Int) + (pickM n (6 : Int))) (madeM ((1 : Int) + (pickM n (6 : Int))) x)).2.1))), (23, .ref false 5 (((r1.take (pickM at_ ((r1.length : Nat) : Int)).toNat) ++ ((r1.drop ((pickM at_ ((r1.length : Nat) : Int)) + (1 : Int)).toNat).take (r1.length - ((pickM at_ ((r1.length : Nat) : Int)) + (1 : Int)).toNat))).length)), (24, .ptr 6 0), (156, .bool (decide ((¬ (closeM ((1 : Int) + (pickM n (6 : Int))) ((r1.take (pickM at_ ((r1.length : Nat) : Int)).toNat) ++ ((r1.drop ((pickM at_ ((r1.length : Nat) : Int)) + (1 : Int)).toNat).take (r1.length - ((pickM at_ ((r1.length : Nat) : Int)) + (1 : Int)).toNat)))).2.2 = (0 : Int)) ∨ (((0 : Int) ≤ v17) ∨ ((holdsM r1 r2) = true)))))], [.dead, .row 25 4 (encL e25 r1), .row 3 1 (encL eInt r2), .dead, .dead, .row 25 4 (encL e25 ((r1.take (pickM at_ ((r1.length : Nat) : Int)).toNat) ++ ((r1.drop ((pickM at_ ((r1.length : Nat) : Int)) + (1 : Int)).toNat).take (r1.length - ((pickM at_ ((r1.length : Nat) : Int)) + (1 : Int)).toNat)))), .box 34 [.int .i64 (((closeM ((1 : Int) + (pickM n (6 : Int))) ((r1.take (pickM at_ ((r1.length : Nat) : Int)).toNat) ++ ((r1.drop ((pickM at_ ((r1.length : Nat) : Int)) + (1 : Int)).toNat).take (r1.length - ((pickM at_ ((r1.length : Nat) : Int)) + (1 : Int)).toNat)))).1).n), .lst false (((closeM ((1 : Int) + (pickM n (6 : Int))) ((r1.take (pickM at_ ((r1.length : Nat) : Int)).toNat) ++ ((r1.drop ((pickM at_ ((r1.length : Nat) : Int)) + (1 : Int)).toNat).take (r1.length - ((pickM at_ ((r1.length : Nat) : Int)) + (1 : Int)).toNat)))).1).most).length (encL (eSl eInt true) (((closeM ((1 : Int) + (pickM n (6 : Int))) ((r1.take (pickM at_ ((r1.length : Nat) : Int)).toNat) ++ ((r1.drop ((pickM at_ ((r1.length : Nat) : Int)) + (1 : Int)).toNat).take (r1.length - ((pickM at_ ((r1.length : Nat) : Int)) + (1 : Int)).toNat)))).1).most))]], false⟩ ?_ ?_
              · refine cL rfl (o_move (v := .int _ _) rfl ?_)
                refine cL rfl (o_neI rfl rfl rfl ?_)
                refine cL rfl (o_move (v := .bool _) rfl ?_)
                by_cases c1 : ¬ (closeM ((1 : Int) + (pickM n (6 : Int))) ((r1.take (pickM at_ ((r1.length : Nat) : Int)).toNat) ++ ((r1.drop ((pickM at_ ((r1.length : Nat) : Int)) + (1 : Int)).toNat).take (r1.length - ((pickM at_ ((r1.length : Nat) : Int)) + (1 : Int)).toNat)))).2.2 = (0 : Int)
                · refine cLs rfl rfl rfl (decide_eq_true c1) ?_
                  refine cLs rfl rfl rfl (decide_eq_true c1) ?_
                  refine cL rfl (o_pickT (v := .bool _) rfl (decide_eq_true c1) rfl ?_)
                  refine cL rfl (o_move (v := .bool _) rfl ?_)
                  refine cLs rfl rfl rfl (rfl) ?_
                  refine cLs rfl rfl rfl (rfl) ?_
                  refine cLs rfl rfl rfl (rfl) ?_
                  refine cL rfl (o_pickT (v := .bool _) rfl rfl rfl ?_)
                  refine eL ?_
                  exact le_mk ⟨rfl, rfl, rfl, rfl, rfl, rfl, (congrArg AV.bool (dOrT c1)).symm, trivial⟩ rfl
                · have sd := sd.2 c1
                  refine cLg rfl rfl (decide_eq_false c1) ?_
                  refine cL rfl (o_move (v := .int _ _) rfl ?_)
                  refine cLg rfl rfl (decide_eq_false c1) ?_
                  refine cL rfl (o_geq rfl rfl ?_)
                  refine cL rfl (o_pickF (v := .bool _) rfl (decide_eq_false c1) rfl ?_)
                  refine cL rfl (o_move (v := .bool _) rfl ?_)
                  by_cases c2 : (0 : Int) ≤ v17
                  · refine cLs rfl rfl rfl (decide_eq_true c2) ?_
                    refine cLs rfl rfl rfl (decide_eq_true c2) ?_
                    refine cLs rfl rfl rfl (decide_eq_true c2) ?_
                    refine cL rfl (o_pickT (v := .bool _) rfl (decide_eq_true c2) rfl ?_)
                    refine eL ?_
                    exact le_mk ⟨rfl, rfl, rfl, rfl, rfl, rfl, (congrArg AV.bool (dOrF c1 (dOrT c2))).symm, trivial⟩ rfl
                  · have sd := sd.2 c2
                    refine cLg rfl rfl (decide_eq_false c2) ?_
                    refine cL rfl (o_move (v := .ref _ _ _) rfl ?_)
                    refine cLg rfl rfl (decide_eq_false c2) ?_
                    refine cL rfl (o_move (v := .ref _ _ _) rfl ?_)
                    refine cLg rfl rfl (decide_eq_false c2) ?_
                    obtain ⟨s288, sd⟩ := sd
                    obtain ⟨s289, sd⟩ := sd
                    refine cL rfl (o_callP1 (k := 28) (fst := []) (caps := []) (ys := [.ref _ _ _, .ref _ _ _]) rfl rfl (spec_holds r1 r2 s288 s289) (Wks.cons (ag_ref (fl := false) (xs := r1) enc25 4 _ rfl rfl) (Wks.cons (ag_ref (fl := false) (xs := r2) encInt 4 _ rfl rfl) (Wks.refl _))) ?_)
                    refine cL rfl (o_pickF (v := .bool _) rfl (decide_eq_false c2) rfl ?_)
                    refine eL ?_
                    exact le_mk ⟨rfl, rfl, rfl, rfl, rfl, rfl, (congrArg AV.bool (dOrF c1 (dOrF c2 (dVar _)))).symm, trivial⟩ rfl
              · refine W.cn rfl (fun hc => ?_) (fun hc => ?_)
                · have hv := hv.1 hc
                  refine W.rL ?_
                  refine cL rfl (o_assign (v := .bool _) rfl ?_)
                  refine eL ?_
                  refine W.tr [(10, .bool _)] [.dead, .row _ _ _, .row _ _ _, .dead, .dead, .row _ _ _, .box _ [.int _ _, .lst _ _ _]] ⟨rfl, trivial⟩ rfl ?_
                  refine W.ret ?_
                  refine th_ret (rt ?_)
                  refine rt_t (v := .bool _) rfl ?_
                  refine rt_n ?_
                  exact ⟨_, rs_bool _ _ _, false, rfl, hv⟩
                · have hv := hv.2 hc
                  refine W.skip ?_
                  refine th_nrm ?_
                  refine W.tr [(4, .lst _ _ _), (11, .int _ _), (12, .lst _ _ _), (14, .lst _ _ _), (23, .ref _ _ _), (24, .ptr _ _)] [.dead, .row _ _ _, .row _ _ _, .dead, .dead, .row _ _ _, .box _ [.int _ _, .lst _ _ _]] ⟨rfl, rfl, rfl, rfl, rfl, rfl, trivial⟩ rfl ?_
                  refine W.rL ?_
                  refine cL rfl (o_ldA (cs := [.int _ _, .lst _ _ _]) tt34 rfl rfl ⟨_, rfl⟩ rfl ?_)
                  obtain ⟨s290, hv⟩ := hv
                  obtain ⟨s291, hv⟩ := hv
                  refine cL rfl (o_callP1 (k := 23) (fst := []) (caps := []) (ys := [.agg _, .int _ _, .int _ _, .int _ _]) rfl rfl (spec_point ((closeM ((1 : Int) + (pickM n (6 : Int))) ((r1.take (pickM at_ ((r1.length : Nat) : Int)).toNat) ++ ((r1.drop ((pickM at_ ((r1.length : Nat) : Int)) + (1 : Int)).toNat).take (r1.length - ((pickM at_ ((r1.length : Nat) : Int)) + (1 : Int)).toNat)))).1) (0 : Int) (0 : Int) (0 : Int) s290 s291) (Wks.cons (ag_agg 5 _ (Wks.cons (ag_int _ _ _ _) (Wks.cons (ag_lst _ _ _ _ _) (Wks.refl _)))) (Wks.cons (ag_int _ _ _ _) (Wks.cons (ag_int _ _ _ _) (Wks.cons (ag_int _ _ _ _) (Wks.refl _))))) ?_)
                  refine cL rfl (o_move (v := .tup _) rfl ?_)
                  refine cL rfl (o_ext (v := .lst _ _ _) rfl rfl ?_)
                  refine cL rfl (o_ext (v := .int _ _) rfl rfl ?_)
                  refine cL rfl (o_assign (v := .lst _ _ _) rfl ?_)
                  refine cL rfl (o_assign (v := .int _ _) rfl ?_)
                  refine eL ?_
                  refine W.tr [(4, .lst _ _ _), (11, .int _ _), (12, .lst _ _ _), (14, .lst _ _ _), (23, .ref _ _ _), (27, .lst _ _ _), (28, .int _ _)] [.dead, .row _ _ _, .row _ _ _, .dead, .dead, .row _ _ _, .box _ [.int _ _, .lst _ _ _]] ⟨rfl, rfl, rfl, rfl, rfl, rfl, rfl, trivial⟩ rfl ?_
                  refine W.seq' ?_
                  obtain ⟨sd, hv⟩ := hv
                  refine W.rLm ⟨206, look [(4, .lst true some_.length (encL eInt some_)), (11, .int .i64 ((1 : Int) + (pickM n (6 : Int)))), (12, .lst false (madeM ((1 : Int) + (pickM n (6 : Int))) x).length (encL e25 (madeM ((1 : Int) + (pickM n (6 : Int))) x))), (14, .lst false ((closeM ((1 : Int) + (pickM n (6 : Int))) (madeM ((1 : Int) + (pickM n (6 : Int))) x)).2.1).length (encL eInt ((closeM ((1 : Int) + (pickM n (6 : Int))) (madeM ((1 : Int) + (pickM n (6 : Int))) x)).2.1))), (169, .bool (decide ((¬ (pointM ((closeM ((1 : Int) + (pickM n (6 : Int))) ((r1.take (pickM at_ ((r1.length : Nat) : Int)).toNat) ++ ((r1.drop ((pickM at_ ((r1.length : Nat) : Int)) + (1 : Int)).toNat).take (r1.length - ((pickM at_ ((r1.length : Nat) : Int)) + (1 : Int)).toNat)))).1) (0 : Int) (0 : Int) (0 : Int)).2 = (0 : Int)) ∨ (¬ ((holdsM ((r1.take (pickM at_ ((r1.length : Nat) : Int)).toNat) ++ ((r1.drop ((pickM at_ ((r1.length : Nat) : Int)) + (1 : Int)).toNat).take (r1.length - ((pickM at_ ((r1.length : Nat) : Int)) + (1 : Int)).toNat))) ((pointM ((closeM ((1 : Int) + (pickM n (6 : Int))) ((r1.take (pickM at_ ((r1.length : Nat) : Int)).toNat) ++ ((r1.drop ((pickM at_ ((r1.length : Nat) : Int)) + (1 : Int)).toNat).take (r1.length - ((pickM at_ ((r1.length : Nat) : Int)) + (1 : Int)).toNat)))).1) (0 : Int) (0 : Int) (0 : Int)).1)) = true)))))], [.dead, .row 25 4 (encL e25 r1), .row 3 1 (encL eInt r2), .dead, .dead, .row 25 4 (encL e25 ((r1.take (pickM at_ ((r1.length : Nat) : Int)).toNat) ++ ((r1.drop ((pickM at_ ((r1.length : Nat) : Int)) + (1 : Int)).toNat).take (r1.length - ((pickM at_ ((r1.length : Nat) : Int)) + (1 : Int)).toNat)))), .box 34 [.int .i64 (((closeM ((1 : Int) + (pickM n (6 : Int))) ((r1.take (pickM at_ ((r1.length : Nat) : Int)).toNat) ++ ((r1.drop ((pickM at_ ((r1.length : Nat) : Int)) + (1 : Int)).toNat).take (r1.length - ((pickM at_ ((r1.length : Nat) : Int)) + (1 : Int)).toNat)))).1).n), .lst false (((closeM ((1 : Int) + (pickM n (6 : Int))) ((r1.take (pickM at_ ((r1.length : Nat) : Int)).toNat) ++ ((r1.drop ((pickM at_ ((r1.length : Nat) : Int)) + (1 : Int)).toNat).take (r1.length - ((pickM at_ ((r1.length : Nat) : Int)) + (1 : Int)).toNat)))).1).most).length (encL (eSl eInt true) (((closeM ((1 : Int) + (pickM n (6 : Int))) ((r1.take (pickM at_ ((r1.length : Nat) : Int)).toNat) ++ ((r1.drop ((pickM at_ ((r1.length : Nat) : Int)) + (1 : Int)).toNat).take (r1.length - ((pickM at_ ((r1.length : Nat) : Int)) + (1 : Int)).toNat)))).1).most))]], false⟩ ?_ ?_
                  · refine cL rfl (o_move (v := .int _ _) rfl ?_)
                    refine cL rfl (o_neI rfl rfl rfl ?_)
                    refine cL rfl (o_move (v := .bool _) rfl ?_)
                    by_cases c1 : ¬ (pointM ((closeM ((1 : Int) + (pickM n (6 : Int))) ((r1.take (pickM at_ ((r1.length : Nat) : Int)).toNat) ++ ((r1.drop ((pickM at_ ((r1.length : Nat) : Int)) + (1 : Int)).toNat).take (r1.length - ((pickM at_ ((r1.length : Nat) : Int)) + (1 : Int)).toNat)))).1) (0 : Int) (0 : Int) (0 : Int)).2 = (0 : Int)
                    · refine cLs rfl rfl rfl (decide_eq_true c1) ?_
                      refine cLs rfl rfl rfl (decide_eq_true c1) ?_
                      refine cLs rfl rfl rfl (decide_eq_true c1) ?_
                      refine cLs rfl rfl rfl (decide_eq_true c1) ?_
                      refine cL rfl (o_pickT (v := .bool _) rfl (decide_eq_true c1) rfl ?_)
                      refine eL ?_
                      exact le_mk ⟨rfl, rfl, rfl, rfl, (congrArg AV.bool (dOrT c1)).symm, trivial⟩ rfl
                    · have sd := sd.2 c1
                      refine cLg rfl rfl (decide_eq_false c1) ?_
                      refine cL rfl (o_move (v := .ref _ _ _) rfl ?_)
                      refine cLg rfl rfl (decide_eq_false c1) ?_
                      refine cL rfl (o_move (v := .lst _ _ _) rfl ?_)
                      refine cLg rfl rfl (decide_eq_false c1) ?_
                      obtain ⟨s298, sd⟩ := sd
                      obtain ⟨s299, sd⟩ := sd
                      refine cL rfl (o_callP1 (k := 28) (fst := []) (caps := []) (ys := [.ref _ _ _, .lst _ _ _]) rfl rfl (spec_holds ((r1.take (pickM at_ ((r1.length : Nat) : Int)).toNat) ++ ((r1.drop ((pickM at_ ((r1.length : Nat) : Int)) + (1 : Int)).toNat).take (r1.length - ((pickM at_ ((r1.length : Nat) : Int)) + (1 : Int)).toNat))) ((pointM ((closeM ((1 : Int) + (pickM n (6 : Int))) ((r1.take (pickM at_ ((r1.length : Nat) : Int)).toNat) ++ ((r1.drop ((pickM at_ ((r1.length : Nat) : Int)) + (1 : Int)).toNat).take (r1.length - ((pickM at_ ((r1.length : Nat) : Int)) + (1 : Int)).toNat)))).1) (0 : Int) (0 : Int) (0 : Int)).1) s298 s299) (Wks.cons (ag_ref (fl := false) (xs := (r1.take (pickM at_ ((r1.length : Nat) : Int)).toNat) ++ ((r1.drop ((pickM at_ ((r1.length : Nat) : Int)) + (1 : Int)).toNat).take (r1.length - ((pickM at_ ((r1.length : Nat) : Int)) + (1 : Int)).toNat))) enc25 4 _ rfl rfl) (Wks.cons (ag_lst _ _ _ _ _) (Wks.refl _))) ?_)
                      refine cLg rfl rfl (decide_eq_false c1) ?_
                      refine cL rfl (o_notB rfl ?_)
                      refine cL rfl (o_pickF (v := .bool _) rfl (decide_eq_false c1) rfl ?_)
                      refine eL ?_
                      exact le_mk ⟨rfl, rfl, rfl, rfl, (congrArg AV.bool (dOrF c1 (rfl))).symm, trivial⟩ rfl
                  · refine W.cn rfl (fun hc => ?_) (fun hc => ?_)
                    · have hv := hv.1 hc
                      refine W.rL ?_
                      refine cL rfl (o_assign (v := .bool _) rfl ?_)
                      refine eL ?_
                      refine W.tr [(10, .bool _)] [.dead, .row _ _ _, .row _ _ _, .dead, .dead, .row _ _ _, .box _ [.int _ _, .lst _ _ _]] ⟨rfl, trivial⟩ rfl ?_
                      refine W.ret ?_
                      refine th_ret (rt ?_)
                      refine rt_t (v := .bool _) rfl ?_
                      refine rt_n ?_
                      exact ⟨_, rs_bool _ _ _, false, rfl, hv⟩
                    · have hv := hv.2 hc
                      refine W.skip ?_
                      refine th_nrm ?_
                      refine W.tr [(4, .lst _ _ _), (11, .int _ _), (12, .lst _ _ _), (14, .lst _ _ _)] [.dead, .row _ _ _, .row _ _ _, .dead, .dead, .row _ _ _, .box _ [.int _ _, .lst _ _ _]] ⟨rfl, rfl, rfl, rfl, trivial⟩ rfl ?_
                      refine W.rL ?_
                      refine cL rfl (o_assign (v := .nilS) rfl ?_)
                      refine eL ?_
                      refine W.tr [(4, .lst _ _ _), (11, .int _ _), (12, .lst _ _ _), (14, .lst _ _ _), (29, .nilS)] [.dead, .row _ _ _, .row _ _ _, .dead, .dead, .row _ _ _, .box _ [.int _ _, .lst _ _ _]] ⟨rfl, rfl, rfl, rfl, rfl, trivial⟩ rfl ?_
                      refine W.seq' ?_
                      refine W.rL ?_
                      refine cL rfl (o_assign (v := .int _ _) rfl ?_)
                      refine eL ?_
                      refine W.tr [(4, .lst _ _ _), (11, .int _ _), (12, .lst _ _ _), (14, .lst _ _ _), (29, .nilS), (30, .int _ _)] [.dead, .row _ _ _, .row _ _ _, .dead, .dead, .row _ _ _, .box _ [.int _ _, .lst _ _ _]] ⟨rfl, rfl, rfl, rfl, rfl, rfl, trivial⟩ rfl ?_
                      refine W.block ?_
                      obtain ⟨I4, μ4, hp, hv⟩ := hv
                      refine W.loop2 (fun v30 r1_1 => ⟨206, look [(4, .lst true some_.length (encL eInt some_)), (11, .int .i64 ((1 : Int) + (pickM n (6 : Int)))), (12, .lst false (madeM ((1 : Int) + (pickM n (6 : Int))) x).length (encL e25 (madeM ((1 : Int) + (pickM n (6 : Int))) x))), (14, .lst false ((closeM ((1 : Int) + (pickM n (6 : Int))) (madeM ((1 : Int) + (pickM n (6 : Int))) x)).2.1).length (encL eInt ((closeM ((1 : Int) + (pickM n (6 : Int))) (madeM ((1 : Int) + (pickM n (6 : Int))) x)).2.1))), (29, .ref true 1 r1_1.length), (30, .int .i64 v30)], [.dead, .row 25 4 (encL e25 r1_1)], false⟩) I4 μ4 (0 : Int) [] (St.to_mk (φ := [none, none]) rfl (.inl rfl) ⟨Ren.lst _ _ _, Ren.int _ _, Ren.lst _ _ _, Ren.lst _ _ _, Ren.nilR rfl rfl, Ren.int _ _, trivial⟩ ⟨rfl, rfl, trivial⟩) hp ?_
                      clear hp
                      intro v30 r1_1 hI
                      replace hv := hv v30 r1_1 hI
                      clear hI
                      refine W.seq' ?_
                      obtain ⟨sd, hv⟩ := hv
                      refine W.rLm ⟨206, look [(4, .lst true some_.length (encL eInt some_)), (11, .int .i64 ((1 : Int) + (pickM n (6 : Int)))), (12, .lst false (madeM ((1 : Int) + (pickM n (6 : Int))) x).length (encL e25 (madeM ((1 : Int) + (pickM n (6 : Int))) x))), (14, .lst false ((closeM ((1 : Int) + (pickM n (6 : Int))) (madeM ((1 : Int) + (pickM n (6 : Int))) x)).2.1).length (encL eInt ((closeM ((1 : Int) + (pickM n (6 : Int))) (madeM ((1 : Int) + (pickM n (6 : Int))) x)).2.1))), (29, .ref true 1 r1_1.length), (30, .int .i64 v30), (181, .bool (decide ((v30 < ((some_.length : Nat) : Int)) ∧ (((r1_1.length : Nat) : Int) < (((((closeM ((1 : Int) + (pickM n (6 : Int))) (madeM ((1 : Int) + (pickM n (6 : Int))) x)).2.1).length : Nat) : Int) - (1 : Int))))))], [.dead, .row 25 4 (encL e25 r1_1)], false⟩ ?_ ?_
                      · refine cL rfl (o_move (v := .int _ _) rfl ?_)
                        refine cL rfl (o_move (v := .lst _ _ _) rfl ?_)
                        refine cL rfl (o_len (v := .lst _ _ _) tt35 rfl rfl ?_)
                        refine cL rfl (o_lss rfl rfl ?_)
                        refine cL rfl (o_move (v := .bool _) rfl ?_)
                        by_cases c1 : v30 < ((some_.length : Nat) : Int)
                        · have sd := sd.1 c1
                          refine cLg rfl rfl (decide_eq_true c1) ?_
                          refine cL rfl (o_move (v := .ref _ _ _) rfl ?_)
                          refine cLg rfl rfl (decide_eq_true c1) ?_
                          refine cL rfl (o_len (v := .ref _ _ _) tt22 rfl rfl ?_)
                          refine cLg rfl rfl (decide_eq_true c1) ?_
                          refine cL rfl (o_move (v := .lst _ _ _) rfl ?_)
                          refine cLg rfl rfl (decide_eq_true c1) ?_
                          refine cL rfl (o_len (v := .lst _ _ _) tt35 rfl rfl ?_)
                          refine cLg rfl rfl (decide_eq_true c1) ?_
                          obtain ⟨s374, sd⟩ := sd
                          refine cL rfl (o_sub rfl rfl s374 ?_)
                          refine cLg rfl rfl (decide_eq_true c1) ?_
                          refine cL rfl (o_lss rfl rfl ?_)
                          refine cL rfl (o_pickT (v := .bool _) rfl (decide_eq_true c1) rfl ?_)
                          refine eL ?_
                          exact le_mk ⟨rfl, rfl, rfl, rfl, rfl, rfl, (congrArg AV.bool (dAndT c1 (rfl))).symm, trivial⟩ rfl
                        · refine cLs rfl rfl rfl (decide_eq_false c1) ?_
                          refine cLs rfl rfl rfl (decide_eq_false c1) ?_
                          refine cLs rfl rfl rfl (decide_eq_false c1) ?_
                          refine cLs rfl rfl rfl (decide_eq_false c1) ?_
                          refine cLs rfl rfl rfl (decide_eq_false c1) ?_
                          refine cLs rfl rfl rfl (decide_eq_false c1) ?_
                          refine cL rfl (o_pickF (v := .bool _) rfl (decide_eq_false c1) rfl ?_)
                          refine eL ?_
                          exact le_mk ⟨rfl, rfl, rfl, rfl, rfl, rfl, (congrArg AV.bool (dAndF c1)).symm, trivial⟩ rfl
                      · refine W.cn rfl (fun hc => ?_) (fun hc => ?_)
                        · have hv := hv.1 hc
                          refine W.skip ?_
                          refine th_nrm ?_
                          refine W.tr [(4, .lst _ _ _), (11, .int _ _), (12, .lst _ _ _), (14, .lst _ _ _), (29, .ref _ _ _), (30, .int _ _)] [.dead, .row _ _ _] ⟨rfl, rfl, rfl, rfl, rfl, rfl, trivial⟩ rfl ?_
                          refine W.seq' ?_
                          refine W.block ?_
                          refine W.rL1 ?_
                          refine cL rfl (o_move (v := .ref _ _ _) rfl ?_)
                          refine cL rfl (o_move (v := .lst _ _ _) rfl ?_)
                          refine cL rfl (o_move (v := .lst _ _ _) rfl ?_)
                          refine cL rfl (o_move (v := .int _ _) rfl ?_)
                          obtain ⟨s380, hv⟩ := hv
                          refine cL rfl (o_iaL tt35 tt3 rfl rfl (encInt.wd true) rfl s380 ?_)
                          intro rest380
                          refine cL rfl (o_ldS (v := .int _ _) tt3 rfl rfl ⟨_, rfl⟩ ?_)
                          refine cL rfl (o_move (v := .lst _ _ _) rfl ?_)
                          refine cL rfl (o_len (v := .lst _ _ _) tt22 rfl rfl ?_)
                          obtain ⟨s381, hv⟩ := hv
                          obtain ⟨s382, hv⟩ := hv
                          refine cL rfl (o_callP1 (k := 12) (fst := []) (caps := []) (ys := [.int _ _, .int _ _]) rfl rfl (spec_pick (lat some_ v30) (((madeM ((1 : Int) + (pickM n (6 : Int))) x).length : Nat) : Int) s381 s382) (Wks.cons (ag_int _ _ _ _) (Wks.cons (ag_int _ _ _ _) (Wks.refl _))) ?_)
                          obtain ⟨s383, hv⟩ := hv
                          refine cL rfl (o_iaL tt22 tt25 rfl rfl (enc25.wd true) rfl s383 ?_)
                          intro rest383
                          refine cL rfl (o_ldA (cs := [.int _ _, .int _ _, .int _ _, .int _ _]) tt25 rfl rfl ⟨_, rfl⟩ rfl ?_)
                          refine cL rfl (o_bs1 (v := .agg _) (q := 2) tt22 tt25 rfl rfl rfl rfl rfl rfl rfl rfl ?_)
                          obtain ⟨s384, hv⟩ := hv
                          refine cL rfl (o_apR (p := 3) (q := (r1_1 ++ [(lat (madeM ((1 : Int) + (pickM n (6 : Int))) x) (pickM (lat some_ v30) (((madeM ((1 : Int) + (pickM n (6 : Int))) x).length : Nat) : Int)))]).length) tt22 tt25 rfl rfl (src_ref rfl rfl) rfl rfl (encL_length (enc25.wd false) _) (Nat.le_trans (Nat.le_of_eq (@List.length_append _ (r1_1) ([(lat (madeM ((1 : Int) + (pickM n (6 : Int))) x) (pickM (lat some_ v30) (((madeM ((1 : Int) + (pickM n (6 : Int))) x).length : Nat) : Int)))])).symm) s384) rfl (@List.length_append _ (r1_1) ([(lat (madeM ((1 : Int) + (pickM n (6 : Int))) x) (pickM (lat some_ v30) (((madeM ((1 : Int) + (pickM n (6 : Int))) x).length : Nat) : Int)))])).symm (encL_app e25 r1_1 [(lat (madeM ((1 : Int) + (pickM n (6 : Int))) x) (pickM (lat some_ v30) (((madeM ((1 : Int) + (pickM n (6 : Int))) x).length : Nat) : Int)))]) ?_)
                          refine cL rfl (o_assign (v := .ref _ _ _) rfl ?_)
                          refine eL ?_
                          refine bl_nrm (th_nrm ?_)
                          refine W.tr [(4, .lst _ _ _), (11, .int _ _), (12, .lst _ _ _), (14, .lst _ _ _), (29, .ref _ _ _), (30, .int _ _)] [.dead, .dead, .row _ _ _, .row _ _ _] ⟨rfl, rfl, rfl, rfl, rfl, rfl, trivial⟩ rfl ?_
                          refine W.rL1 ?_
                          refine cL rfl (o_move (v := .int _ _) rfl ?_)
                          obtain ⟨s385, hv⟩ := hv
                          refine cL rfl (o_add rfl rfl s385 ?_)
                          refine cL rfl (o_assign (v := .int _ _) rfl ?_)
                          refine eL ?_
                          exact th_nrm (⟨(), (v30 + (1 : Int)), (r1_1 ++ [(lat (madeM ((1 : Int) + (pickM n (6 : Int))) x) (pickM (lat some_ v30) (((madeM ((1 : Int) + (pickM n (6 : Int))) x).length : Nat) : Int)))]), hv, St.to_mk (φ := [none, some 3]) rfl (.inl rfl) ⟨Ren.lst _ _ _, Ren.int _ _, Ren.lst _ _ _, Ren.lst _ _ _, Ren.ref rfl (fun h => rfl), Ren.int _ _, trivial⟩ ⟨rfl, .inr ⟨_, rfl, rfl, rfl, rfl, Rens.enc enc25 false (r1_1 ++ [(lat (madeM ((1 : Int) + (pickM n (6 : Int))) x) (pickM (lat some_ v30) (((madeM ((1 : Int) + (pickM n (6 : Int))) x).length : Nat) : Int)))])⟩, trivial⟩⟩)
                        · have hv := hv.2 hc
                          refine W.exit ?_
                          refine th_exit (th_exit (bl_hit (th_nrm ?_)))
                          refine W.tr [(11, .int _ _), (29, .ref _ _ _)] [.dead, .row _ _ _] ⟨rfl, rfl, trivial⟩ rfl ?_
                          refine W.rL ?_
                          refine cL rfl (o_move (v := .int _ _) rfl ?_)
                          refine cL rfl (o_move (v := .ref _ _ _) rfl ?_)
                          obtain ⟨s386, hv⟩ := hv
                          refine cL rfl (o_callP1 (k := 15) (fst := []) (caps := []) (ys := [.int _ _, .ref _ _ _]) rfl rfl (spec_close ((1 : Int) + (pickM n (6 : Int))) r1_1 s386) (Wks.cons (ag_int _ _ _ _) (Wks.cons (ag_ref (fl := false) (xs := r1_1) enc25 4 _ rfl rfl) (Wks.refl _))) ?_)
                          refine cL rfl (o_move (v := .tup _) rfl ?_)
                          refine cL rfl (o_ext (v := .agg _) rfl rfl ?_)
                          refine cL rfl (o_ext (v := .lst _ _ _) rfl rfl ?_)
                          refine cL rfl (o_ext (v := .int _ _) rfl rfl ?_)
                          refine cL rfl (o_alloc (p := 2) tt34 rfl rfl ?_)
                          refine cLn (o_stB (v := .agg _) (vs := [.int _ _, .lst _ _ _]) (cs2 := [.int _ _, .lst _ _ _]) tt34 rfl rfl rfl rfl rfl (Nat.le_of_ble_eq_true rfl) rfl ?_)
                          refine cL rfl (o_assign (v := .lst _ _ _) rfl ?_)
                          refine cL rfl (o_assign (v := .int _ _) rfl ?_)
                          refine eL ?_
                          refine W.tr [(33, .int _ _)] [.dead, .row _ _ _, .box _ [.int _ _, .lst _ _ _]] ⟨rfl, trivial⟩ rfl ?_
                          refine W.rL ?_
                          refine cL rfl (o_move (v := .int _ _) rfl ?_)
                          refine cL rfl (o_eqI rfl rfl rfl ?_)
                          refine cL rfl (o_assign (v := .bool _) rfl ?_)
                          refine eL ?_
                          refine W.tr [(10, .bool _)] [.dead, .row _ _ _, .box _ [.int _ _, .lst _ _ _]] ⟨rfl, trivial⟩ rfl ?_
                          refine W.ret ?_
                          refine rt ?_
                          refine rt_t (v := .bool _) rfl ?_
                          refine rt_n ?_
                          exact ⟨_, rs_bool _ _ _, (decide ((closeM ((1 : Int) + (pickM n (6 : Int))) r1_1).2.2 = (0 : Int))), rfl, hv⟩
theorem vcp_Contradiction (n : Int) (x : (List A3)) (values : (List Int)) (at_ : Int) (some_ : (List Int)) (h0 : inI n) (h1 : ∀ y ∈ x, inI y.x0 ∧ inI y.x1 ∧ inI y.x2) (h2 : ∀ v ∈ values, inI v) (h3 : inI at_) (h4 : ∀ v ∈ some_, inI v) : vc_Contradiction n x values at_ some_ (fun q0 => q0 = (true)) := by
  unfold vc_Contradiction
  have hm := pickM_nonneg (c := n) (n := 6) (by omega)
  generalize hM : (1 : Int) + pickM n 6 = m
  have hm1 : 1 ≤ m ∧ m ≤ 24 := by omega
  have hv := made_valid (n := m) (x := x) hm1
  have hll := made_len (n := m) (x := x)
  generalize madeM m x = l at hv hll
  obtain ⟨m, rfl⟩ : ∃ k : Nat, m = k := ⟨m.toNat, by omega⟩
  have hm2 : 1 ≤ m ∧ m ≤ 24 := by omega
  have hg : Good m l := by simpa using validM_goodn hv
  have hvp := (validM_iff.mp hv).2
  refine ⟨fun h => (h rfl).elim, fun _ => ⟨h0, by omega, by unfold inI; omega, by omega, by omega, h1, by omega, fun k1 => ?_, fun k1 => ?_⟩⟩
  · rcases close_cases hv with ⟨mt, hc, e⟩ | ⟨-, e⟩
    · rw [e]; simp
    · exact (k1 (by rw [e])).elim
  rcases close_cases hv with ⟨mt, hc, e⟩ | ⟨hno, e⟩
  · exact (k1 (by rw [e]; simp)).elim
  rw [e]
  dsimp only
  have hF := first_cycle hm2 hg hno
  generalize firstM (m : Int) l = c at hF
  have hcy := hF.cycle hm2 hv
  have hlen := hF.len
  have hsz := hF.sz
  obtain ⟨u0, hN⟩ := hF.neg
  have hcm : ∀ d ∈ c.map (lat l), d ∈ l := fun d hd => by
    rw [List.mem_map] at hd
    obtain ⟨i, hi, rfl⟩ := hd
    exact lat_mem (hF.idx i hi)
  have hsubv : ∀ q : List Con, (∀ d ∈ q, d ∈ l) → q.length ≤ 2000 → validM (m : Int) q = true := fun q hq hl => validM_iff.mpr ⟨⟨by omega, by omega, hl⟩, fun d hd => hvp d (hq d hd)⟩
  refine ⟨⟨fun _ => trivial, fun _ => ⟨by omega, by omega, trivial⟩⟩, fun h => ?_, fun _ => ⟨fun v i r => ∃ k : Nat, i = k ∧ k ≤ c.length ∧ r = (c.take k).map (lat l) ∧ v = wt r, fun _ i _ => c.length - i.toNat, ⟨0, rfl, by omega, by simp, rfl⟩, ?_⟩⟩
  · rcases h with h | h
    · omega
    · exact (h hcy).elim
  rintro v17 _ r1 ⟨k, rfl, hk, rfl, rfl⟩
  refine ⟨fun k2 => ?_, fun k2 => ?_⟩
  · have hi := hF.idx (lat c k) (lat_mem ⟨by omega, by omega⟩)
    have e1 : (c.take k).map (lat l) ++ [lat l (lat c k)] = (c.take (k + 1)).map (lat l) := by rw [take_succ_lat (by omega)]; simp
    have e2 : wt ((c.take k).map (lat l)) + (lat l (lat c k)).m = wt ((c.take (k + 1)).map (lat l)) := by rw [← e1, wt_append, wt_cons, wt_nil]; omega
    rw [e1, e2]
    have hsub : ∀ d ∈ (c.take (k + 1)).map (lat l), d ∈ l := fun d hd => hcm d (by
      rw [List.mem_map] at hd ⊢
      obtain ⟨i, hi, rfl⟩ := hd
      exact ⟨i, List.mem_of_mem_take hi, rfl⟩)
    have hb := wt_bd hg hsub
    have hl : ((c.take (k + 1)).map (lat l)).length = k + 1 := by simp; omega
    refine ⟨⟨by omega, fun _ => trivial, fun _ => ⟨by omega, trivial⟩⟩, fun h => by omega, fun _ => ⟨by omega, hi, by omega, by omega, hi, by unfold inI; omega, by unfold inI; omega, ⟨k + 1, by omega, by omega, rfl, rfl⟩, by dsimp only; omega⟩⟩
  have hk' : k = c.length := by omega
  subst hk'
  rw [List.take_length]
  generalize hown : c.map (lat l) = own at *
  have hol : own.length = c.length := by rw [← hown]; simp
  refine ⟨fun i r => ∃ k : Nat, i = k ∧ k ≤ m ∧ r.length = k, fun i _ => m - i.toNat, ⟨0, rfl, by omega, rfl⟩, ?_⟩
  rintro _ r2 ⟨k, rfl, hk, hr2⟩
  refine ⟨fun k3 => ⟨fun _ => True, fun v _ => ⟨by simp; omega, by unfold inI; omega, ⟨k + 1, by omega, by omega, by simp; omega⟩, by dsimp only; omega⟩, fun k4 => ⟨by omega, h2 _ (lat_mem ⟨by omega, by omega⟩), by omega, trivial⟩, fun _ => trivial⟩, fun k3 => ?_⟩
  have hp := pickM_nonneg (c := at_) (n := ((own.length : Nat) : Int)) (by omega)
  generalize pickM at_ ((own.length : Nat) : Int) = p at hp
  obtain ⟨p, rfl⟩ : ∃ k : Nat, p = k := ⟨p.toNat, by omega⟩
  have hp1 : ((p : Int) + 1).toNat = p + 1 := by omega
  rw [hp1]
  simp only [Int.toNat_natCast]
  have l1 : (own.take p).length = p := by rw [List.length_take]; omega
  have l2 : ((own.drop (p + 1)).take (own.length - (p + 1))).length = own.length - (p + 1) := by rw [List.length_take, List.length_drop]; omega
  have l3 : (own.take p ++ (own.drop (p + 1)).take (own.length - (p + 1))).length = own.length - 1 := by rw [List.length_append, l1, l2]; omega
  have hrs : ∀ d ∈ own.take p ++ (own.drop (p + 1)).take (own.length - (p + 1)), d ∈ l := fun d hd => by
    rcases List.mem_append.mp hd with h | h
    · exact hcm d (List.mem_of_mem_take h)
    · exact hcm d (List.mem_of_mem_drop (List.mem_of_mem_take h))
  generalize own.take p ++ (own.drop (p + 1)).take (own.length - (p + 1)) = rest at l3 hrs
  have hclo : ∀ q : List Con, (∀ d ∈ q, d ∈ l) → (q.length : Int) < sizeM m l → ∃ mt, CM mt q ∧ closeM (m : Int) q = (boundsM mt m, [], 0) := fun q hq hl => by
    obtain ⟨x, hx⟩ := fewer_ok hm2 hg hq hl
    rcases close_cases (hsubv q hq (by omega)) with h | ⟨h, -⟩
    · exact h
    · exact (h x hx).elim
  obtain ⟨mt, hc, e2⟩ := hclo rest hrs (by omega)
  have hgr : Good ((m : Int)).toNat rest := by rw [Int.toNat_natCast]; exact fun d hd => hg d (hrs d hd)
  obtain ⟨a, ha, ps⟩ := hc.point hm1 hgr (f := 0) (t := 0) (w := 0) (by omega) (by omega) (by rw [hc.cl.diag 0 (by omega)]; omega)
  have hh := ps.holds (hsubv rest hrs (by omega)) hm1.1
  have hal := ps.len
  have hbl := bounds_most_len (m := mt) hm1.2
  have hno2 : ¬ holdsM own r2 = true := fun h => by
    obtain ⟨-, h⟩ := holdsM_iff.mp h
    refine hN.none (fun i => lat r2 i) fun d hd => ?_
    have := h d hd
    obtain ⟨a1, a2, -⟩ := hg d (hcm d hd)
    show lat r2 ((d.t.toNat : Nat) : Int) - lat r2 ((d.f.toNat : Nat) : Int) ≤ d.m
    rw [show ((d.t.toNat : Nat) : Int) = d.t by omega, show ((d.f.toNat : Nat) : Int) = d.f by omega]
    exact this
  have hwn := hN.2.2
  rw [e2]
  dsimp only
  simp only [Int.natCast_zero] at ha
  rw [ha]
  dsimp only
  refine ⟨h3, by omega, by omega, l1.symm, by omega, by unfold inI; omega, by omega, l2.symm, by omega, by omega, ⟨fun _ => trivial, fun _ => ⟨fun _ => trivial, fun _ => ⟨by omega, by omega, trivial⟩⟩⟩, fun h => ?_, fun _ => ⟨hbl.1, hbl.2, ⟨fun _ => trivial, fun _ => ⟨by omega, by omega, trivial⟩⟩, fun h => ?_, fun _ => ⟨fun i r => ∃ k : Nat, i = k ∧ k ≤ some_.length ∧ (∀ d ∈ r, d ∈ l) ∧ r.length = k ∧ k < c.length, fun i _ => some_.length - i.toNat, ⟨0, rfl, by omega, by simp, rfl, by omega⟩, ?_⟩⟩⟩
  · rcases h with h | h | h
    · exact (h rfl).elim
    · omega
    · exact (hno2 h).elim
  · rcases h with h | h
    · exact (h rfl).elim
    · exact (h hh).elim
  rintro _ fw ⟨k, rfl, hk, hfm, hfl, hfk⟩
  refine ⟨⟨fun _ => ⟨by unfold inI; omega, trivial⟩, fun _ => trivial⟩, fun k5 => ?_, fun k5 => ⟨by omega, ?_⟩⟩
  · have hlp : 0 < l.length := by
      have := hF.idx (lat c (0 : Nat)) (lat_mem ⟨by omega, by omega⟩)
      omega
    have hpk := pickM_nonneg (c := lat some_ k) (n := ((l.length : Nat) : Int)) (by omega)
    refine ⟨by omega, h4 _ (lat_mem ⟨by omega, by omega⟩), by omega, hpk, by simp; omega, by unfold inI; omega, ⟨k + 1, by omega, by omega, fun d hd => ?_, by simp; omega, by omega⟩, by dsimp only; omega⟩
    rcases List.mem_append.mp hd with h | h
    · exact hfm d h
    · rw [List.mem_singleton] at h
      rw [h]; exact lat_mem hpk
  · obtain ⟨mt2, -, e3⟩ := hclo fw hfm (by omega)
    rw [e3]; rfl
theorem spec_Contradiction (n : Int) (x : (List A3)) (values : (List Int)) (at_ : Int) (some_ : (List Int)) (h0 : inI n) (h1 : ∀ y ∈ x, inI y.x0 ∧ inI y.x1 ∧ inI y.x2) (h2 : ∀ v ∈ values, inI v) (h3 : inI at_) (h4 : ∀ v ∈ some_, inI v) : FnP Try.prog 7 [.int .i64 n, .lst true x.length (encL e26 x), .lst true values.length (encL eInt values), .int .i64 at_, .lst true some_.length (encL eInt some_)] (fun xR => xR = .bool (true)) :=
  (walk_Contradiction (vcp_Contradiction n x values at_ some_ h0 h1 h2 h3 h4)).mono (by rintro _ ⟨_, rfl, rfl⟩; rfl)
end Go.Lat
