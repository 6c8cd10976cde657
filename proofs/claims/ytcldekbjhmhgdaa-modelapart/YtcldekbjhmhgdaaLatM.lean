/- The law latecomerlaw23.ModelApart returns true for every input, and each argument reads afterwards as it read before. Part 13 of 14. No condition. -/
import Derived.Test.YtcldekbjhmhgdaaLatF
import Derived.Test.YtcldekbjhmhgdaaLatD
import Derived.Test.YtcldekbjhmhgdaaLatK
import Derived.Test.YtcldekbjhmhgdaaLatL
import Derived.Test.YtcldekbjhmhgdaaLatG
import Derived.Test.YtcldekbjhmhgdaaLatJ
set_option linter.unusedVariables false
set_option linter.unusedSimpArgs false
set_option linter.unnecessarySimpa false
set_option maxRecDepth 100000
set_option maxHeartbeats 4000000
namespace Go.Lat
open Go.RowKit Go.Proofs
attribute [local irreducible] seqL opC
def vc_lawapart (n : Int) (x : (List (Vector Int 4))) (y : (List (Vector Int 4))) (by_ : Int) (Post : Bool -> Prop) : Prop :=
  (inI n) /\ (1 <= ((serversM n).length : Int) /\ ((serversM n).length : Int) <= 1000000) /\ (x.length <= 9223372036854775807) /\ (∀ y ∈ x, ∀ k, inI (vat y k)) /\ (y.length <= 9223372036854775807) /\ (∀ z ∈ y, ∀ k, inI (vat z k)) /\ ((serversM n).length <= 12) /\ ∀ (js : List Job), GoodO ((serversM n).length : Int) (jobsM23 1 y).length js -> (1 <= (1000 : Int)) /\ (inI by_) /\ ((serversM n).length <= 9223372036854775807) /\ (∀ j ∈ (jobsM23 ((serversM n).length : Int) x), j.wk.length <= 9223372036854775807) /\ ((jobsM23 ((serversM n).length : Int) x).length <= 9223372036854775807) /\ ((serversM n).length <= 1073741824) /\ (((serversM n) ++ [(2 : Int)]).length <= 1073741824) /\ ((jobsM23 ((serversM n).length : Int) x).length <= 1073741824) /\ (((jobsM23 ((serversM n).length : Int) x) ++ js).length <= 1073741824) /\ (((serversM n) ++ [(2 : Int)]).length <= 9223372036854775807) /\ (∀ j ∈ ((jobsM23 ((serversM n).length : Int) x) ++ js), j.wk.length <= 9223372036854775807) /\ (((jobsM23 ((serversM n).length : Int) x) ++ js).length <= 9223372036854775807) /\ ∃ (I2 : Int -> List Job -> Prop) (μ2 : Int -> List Job -> Nat), I2 (0 : Int) [] /\ ∀ (v21 : Int) (r1 : List Job), I2 v21 r1 -> ((v21 < (((jobsM23 ((serversM n).length : Int) x).length : Nat) : Int)) -> (0 <= v21 /\ v21 < ((jobsM23 ((serversM n).length : Int) x).length : Int)) /\ (inI (((lat (jobsM23 ((serversM n).length : Int) x) v21).ar) + (pickM by_ (1000 : Int)))) /\ (0 <= v21 /\ v21 < ((jobsM23 ((serversM n).length : Int) x).length : Int)) /\ ((r1 ++ [(Job.mk (((lat (jobsM23 ((serversM n).length : Int) x) v21).ar) + (pickM by_ (1000 : Int))) ((lat (jobsM23 ((serversM n).length : Int) x) v21).wk))]).length <= 1073741824) /\ (inI (v21 + (1 : Int))) /\ (I2 (v21 + (1 : Int)) (r1 ++ [(Job.mk (((lat (jobsM23 ((serversM n).length : Int) x) v21).ar) + (pickM by_ (1000 : Int))) ((lat (jobsM23 ((serversM n).length : Int) x) v21).wk))]) /\ μ2 (v21 + (1 : Int)) (r1 ++ [(Job.mk (((lat (jobsM23 ((serversM n).length : Int) x) v21).ar) + (pickM by_ (1000 : Int))) ((lat (jobsM23 ((serversM n).length : Int) x) v21).wk))]) < μ2 v21 r1)) /\ (¬ (v21 < (((jobsM23 ((serversM n).length : Int) x).length : Nat) : Int)) -> ((serversM n).length <= 9223372036854775807) /\ (∀ j ∈ r1, j.wk.length <= 9223372036854775807) /\ (r1.length <= 9223372036854775807) /\ (((¬ (runR (serversM n) (jobsM23 ((serversM n).length : Int) x)).2 = (0 : Int)) -> True) /\ (¬ (¬ (runR (serversM n) (jobsM23 ((serversM n).length : Int) x)).2 = (0 : Int)) -> ((¬ (runR ((serversM n) ++ [(2 : Int)]) ((jobsM23 ((serversM n).length : Int) x) ++ js)).2 = (0 : Int)) -> True) /\ (¬ (¬ (runR ((serversM n) ++ [(2 : Int)]) ((jobsM23 ((serversM n).length : Int) x) ++ js)).2 = (0 : Int)) -> ((¬ (runR (serversM n) r1).2 = (0 : Int)) -> True) /\ (¬ (¬ (runR (serversM n) r1).2 = (0 : Int)) -> ((¬ ((((runR (serversM n) (jobsM23 ((serversM n).length : Int) x)).1).length : Nat) : Int) = (((jobsM23 ((serversM n).length : Int) x).length : Nat) : Int)) -> True) /\ (¬ (¬ ((((runR (serversM n) (jobsM23 ((serversM n).length : Int) x)).1).length : Nat) : Int) = (((jobsM23 ((serversM n).length : Int) x).length : Nat) : Int)) -> (inI ((((jobsM23 ((serversM n).length : Int) x).length : Nat) : Int) + (js.length : Int))) /\ ((¬ ((((runR ((serversM n) ++ [(2 : Int)]) ((jobsM23 ((serversM n).length : Int) x) ++ js)).1).length : Nat) : Int) = ((((jobsM23 ((serversM n).length : Int) x).length : Nat) : Int) + (js.length : Int))) -> True) /\ (¬ (¬ ((((runR ((serversM n) ++ [(2 : Int)]) ((jobsM23 ((serversM n).length : Int) x) ++ js)).1).length : Nat) : Int) = ((((jobsM23 ((serversM n).length : Int) x).length : Nat) : Int) + (js.length : Int))) -> ((¬ (((runR (serversM n) r1).1).length : Int) = ((((runR (serversM n) (jobsM23 ((serversM n).length : Int) x)).1).length : Nat) : Int)) -> True) /\ (¬ (¬ (((runR (serversM n) r1).1).length : Int) = ((((runR (serversM n) (jobsM23 ((serversM n).length : Int) x)).1).length : Nat) : Int)) -> (0 <= ((0 : Nat) : Int) /\ ((0 : Nat) : Int) <= ((((runR (serversM n) (jobsM23 ((serversM n).length : Int) x)).1).length : Nat) : Int) /\ ((((runR (serversM n) (jobsM23 ((serversM n).length : Int) x)).1).length : Nat) : Int) <= (((runR ((serversM n) ++ [(2 : Int)]) ((jobsM23 ((serversM n).length : Int) x) ++ js)).1).length : Int)) /\ (((runR (serversM n) (jobsM23 ((serversM n).length : Int) x)).1).length <= 9223372036854775807) /\ ((((runR ((serversM n) ++ [(2 : Int)]) ((jobsM23 ((serversM n).length : Int) x) ++ js)).1).take ((((runR (serversM n) (jobsM23 ((serversM n).length : Int) x)).1).length : Nat) : Int).toNat).length <= 9223372036854775807) /\ (∀ j ∈ ((runR (serversM n) (jobsM23 ((serversM n).length : Int) x)).1), j.length <= 9223372036854775807) /\ (∀ j ∈ (((runR ((serversM n) ++ [(2 : Int)]) ((jobsM23 ((serversM n).length : Int) x) ++ js)).1).take ((((runR (serversM n) (jobsM23 ((serversM n).length : Int) x)).1).length : Nat) : Int).toNat), j.length <= 9223372036854775807) /\ True))))))) /\ ((((¬ (runR (serversM n) (jobsM23 ((serversM n).length : Int) x)).2 = (0 : Int)) \/ ((¬ (runR ((serversM n) ++ [(2 : Int)]) ((jobsM23 ((serversM n).length : Int) x) ++ js)).2 = (0 : Int)) \/ ((¬ (runR (serversM n) r1).2 = (0 : Int)) \/ ((¬ ((((runR (serversM n) (jobsM23 ((serversM n).length : Int) x)).1).length : Nat) : Int) = (((jobsM23 ((serversM n).length : Int) x).length : Nat) : Int)) \/ ((¬ ((((runR ((serversM n) ++ [(2 : Int)]) ((jobsM23 ((serversM n).length : Int) x) ++ js)).1).length : Nat) : Int) = ((((jobsM23 ((serversM n).length : Int) x).length : Nat) : Int) + (js.length : Int))) \/ ((¬ (((runR (serversM n) r1).1).length : Int) = ((((runR (serversM n) (jobsM23 ((serversM n).length : Int) x)).1).length : Nat) : Int)) \/ (¬ (((runR (serversM n) (jobsM23 ((serversM n).length : Int) x)).1) = (((runR ((serversM n) ++ [(2 : Int)]) ((jobsM23 ((serversM n).length : Int) x) ++ js)).1).take ((((runR (serversM n) (jobsM23 ((serversM n).length : Int) x)).1).length : Nat) : Int).toNat))))))))) -> Post false) /\ (¬ ((¬ (runR (serversM n) (jobsM23 ((serversM n).length : Int) x)).2 = (0 : Int)) \/ ((¬ (runR ((serversM n) ++ [(2 : Int)]) ((jobsM23 ((serversM n).length : Int) x) ++ js)).2 = (0 : Int)) \/ ((¬ (runR (serversM n) r1).2 = (0 : Int)) \/ ((¬ ((((runR (serversM n) (jobsM23 ((serversM n).length : Int) x)).1).length : Nat) : Int) = (((jobsM23 ((serversM n).length : Int) x).length : Nat) : Int)) \/ ((¬ ((((runR ((serversM n) ++ [(2 : Int)]) ((jobsM23 ((serversM n).length : Int) x) ++ js)).1).length : Nat) : Int) = ((((jobsM23 ((serversM n).length : Int) x).length : Nat) : Int) + (js.length : Int))) \/ ((¬ (((runR (serversM n) r1).1).length : Int) = ((((runR (serversM n) (jobsM23 ((serversM n).length : Int) x)).1).length : Nat) : Int)) \/ (¬ (((runR (serversM n) (jobsM23 ((serversM n).length : Int) x)).1) = (((runR ((serversM n) ++ [(2 : Int)]) ((jobsM23 ((serversM n).length : Int) x) ++ js)).1).take ((((runR (serversM n) (jobsM23 ((serversM n).length : Int) x)).1).length : Nat) : Int).toNat))))))))) -> ∃ (I3 : Int -> Prop) (μ3 : Int -> Nat), I3 (0 : Int) /\ ∀ (v24 : Int), I3 v24 -> ((v24 < ((((runR (serversM n) (jobsM23 ((serversM n).length : Int) x)).1).length : Nat) : Int)) -> (0 <= v24 /\ v24 < (((runR (serversM n) r1).1).length : Int)) /\ (0 <= v24 /\ v24 < (((runR (serversM n) (jobsM23 ((serversM n).length : Int) x)).1).length : Int)) /\ ((¬ (((lat ((runR (serversM n) r1).1) v24).length : Nat) : Int) = (((lat ((runR (serversM n) (jobsM23 ((serversM n).length : Int) x)).1) v24).length : Nat) : Int)) -> Post false) /\ (¬ (¬ (((lat ((runR (serversM n) r1).1) v24).length : Nat) : Int) = (((lat ((runR (serversM n) (jobsM23 ((serversM n).length : Int) x)).1) v24).length : Nat) : Int)) -> ∃ (I4 : Int -> Prop) (μ4 : Int -> Nat), I4 (0 : Int) /\ ∀ (v25 : Int), I4 v25 -> (0 <= v24 /\ v24 < (((runR (serversM n) (jobsM23 ((serversM n).length : Int) x)).1).length : Int)) /\ ((v25 < (((lat ((runR (serversM n) (jobsM23 ((serversM n).length : Int) x)).1) v24).length : Nat) : Int)) -> (0 <= v24 /\ v24 < (((runR (serversM n) (jobsM23 ((serversM n).length : Int) x)).1).length : Int)) /\ (0 <= v25 /\ v25 < ((lat ((runR (serversM n) (jobsM23 ((serversM n).length : Int) x)).1) v24).length : Int)) /\ (0 <= v24 /\ v24 < (((runR (serversM n) r1).1).length : Int)) /\ (0 <= v25 /\ v25 < ((lat ((runR (serversM n) r1).1) v24).length : Int)) /\ (inI (((lat (lat ((runR (serversM n) (jobsM23 ((serversM n).length : Int) x)).1) v24) v25).rd) + (pickM by_ (1000 : Int)))) /\ (inI (((lat (lat ((runR (serversM n) (jobsM23 ((serversM n).length : Int) x)).1) v24) v25).st) + (pickM by_ (1000 : Int)))) /\ (inI (((lat (lat ((runR (serversM n) (jobsM23 ((serversM n).length : Int) x)).1) v24) v25).en) + (pickM by_ (1000 : Int)))) /\ ((¬ (lat (lat ((runR (serversM n) r1).1) v24) v25) = (Vis.mk (((lat (lat ((runR (serversM n) (jobsM23 ((serversM n).length : Int) x)).1) v24) v25).rd) + (pickM by_ (1000 : Int))) (((lat (lat ((runR (serversM n) (jobsM23 ((serversM n).length : Int) x)).1) v24) v25).st) + (pickM by_ (1000 : Int))) (((lat (lat ((runR (serversM n) (jobsM23 ((serversM n).length : Int) x)).1) v24) v25).en) + (pickM by_ (1000 : Int))))) -> Post false) /\ (¬ (¬ (lat (lat ((runR (serversM n) r1).1) v24) v25) = (Vis.mk (((lat (lat ((runR (serversM n) (jobsM23 ((serversM n).length : Int) x)).1) v24) v25).rd) + (pickM by_ (1000 : Int))) (((lat (lat ((runR (serversM n) (jobsM23 ((serversM n).length : Int) x)).1) v24) v25).st) + (pickM by_ (1000 : Int))) (((lat (lat ((runR (serversM n) (jobsM23 ((serversM n).length : Int) x)).1) v24) v25).en) + (pickM by_ (1000 : Int))))) -> (inI (v25 + (1 : Int))) /\ (I4 (v25 + (1 : Int)) /\ μ4 (v25 + (1 : Int)) < μ4 v25))) /\ (¬ (v25 < (((lat ((runR (serversM n) (jobsM23 ((serversM n).length : Int) x)).1) v24).length : Nat) : Int)) -> (inI (v24 + (1 : Int))) /\ (I3 (v24 + (1 : Int)) /\ μ3 (v24 + (1 : Int)) < μ3 v24)))) /\ (¬ (v24 < ((((runR (serversM n) (jobsM23 ((serversM n).length : Int) x)).1).length : Nat) : Int)) -> (0 <= ((0 : Nat) : Int) /\ ((0 : Nat) : Int) <= (min (((jobsM23 ((serversM n).length : Int) x).length : Nat) : Int) (4 : Int)) /\ (min (((jobsM23 ((serversM n).length : Int) x).length : Nat) : Int) (4 : Int)) <= ((jobsM23 ((serversM n).length : Int) x).length : Int)) /\ (0 <= ((serversM n).length : Int) /\ ((serversM n).length : Int) <= 1073741824) /\ ∃ (I5 : Int -> List Int -> Prop) (μ5 : Int -> List Int -> Nat), I5 (0 : Int) (List.replicate ((serversM n).length : Int).toNat ((0 : Int) : Int)) /\ ∀ (v29 : Int) (r1_1 : List Int), I5 v29 r1_1 -> ((v29 < (r1_1.length : Int)) -> (0 <= v29 /\ v29 < (r1_1.length : Int)) /\ (inI (v29 + (1 : Int))) /\ (I5 (v29 + (1 : Int)) (r1_1.set v29.toNat (4 : Int)) /\ μ5 (v29 + (1 : Int)) (r1_1.set v29.toNat (4 : Int)) < μ5 v29 r1_1)) /\ (¬ (v29 < (r1_1.length : Int)) -> ∃ (I6 : Int -> Prop) (μ6 : Int -> Nat), I6 (0 : Int) /\ ∀ (v30 : Int), I6 v30 -> ((v30 < (((jobsM23 ((serversM n).length : Int) x).length : Nat) : Int)) -> ∃ J7 : Prop, (J7 -> (inI (v30 + (1 : Int))) /\ (I6 (v30 + (1 : Int)) /\ μ6 (v30 + (1 : Int)) < μ6 v30)) /\ ((inI (v30 + (1 : Int))) /\ (0 <= v30 /\ v30 <= (v30 + (1 : Int)) /\ (v30 + (1 : Int)) <= ((jobsM23 ((serversM n).length : Int) x).length : Int)) /\ ((serversM n).length <= 9223372036854775807) /\ (∀ q ∈ (((jobsM23 ((serversM n).length : Int) x).drop v30.toNat).take ((v30 + (1 : Int)).toNat - v30.toNat)), q.wk.length <= 9223372036854775807) /\ ((((jobsM23 ((serversM n).length : Int) x).drop v30.toNat).take ((v30 + (1 : Int)).toNat - v30.toNat)).length <= 9223372036854775807) /\ ((serversM n).length <= 9223372036854775807) /\ (∀ q ∈ (jobsM23 ((serversM n).length : Int) x), q.wk.length <= 9223372036854775807) /\ ((jobsM23 ((serversM n).length : Int) x).length <= 9223372036854775807) /\ (0 <= v30 /\ v30 < ((jobsM23 ((serversM n).length : Int) x).length : Int)) /\ ∃ (I8 : Int -> Int -> Prop) (μ8 : Int -> Int -> Nat), I8 ((lat (jobsM23 ((serversM n).length : Int) x) v30).ar) (0 : Int) /\ ∀ (v35 : Int) (v36 : Int), I8 v35 v36 -> (0 <= v30 /\ v30 < ((jobsM23 ((serversM n).length : Int) x).length : Int)) /\ ((v36 < ((((lat (jobsM23 ((serversM n).length : Int) x) v30).wk).length : Nat) : Int)) -> (0 <= v30 /\ v30 < ((jobsM23 ((serversM n).length : Int) x).length : Int)) /\ (0 <= v36 /\ v36 < (((lat (jobsM23 ((serversM n).length : Int) x) v30).wk).length : Int)) /\ (inI (v35 + ((lat ((lat (jobsM23 ((serversM n).length : Int) x) v30).wk) v36).tm))) /\ (inI (v36 + (1 : Int))) /\ (I8 (v35 + ((lat ((lat (jobsM23 ((serversM n).length : Int) x) v30).wk) v36).tm)) (v36 + (1 : Int)) /\ μ8 (v35 + ((lat ((lat (jobsM23 ((serversM n).length : Int) x) v30).wk) v36).tm)) (v36 + (1 : Int)) < μ8 v35 v36)) /\ (¬ (v36 < ((((lat (jobsM23 ((serversM n).length : Int) x) v30).wk).length : Nat) : Int)) -> (((¬ (finishM (serversM n) (((jobsM23 ((serversM n).length : Int) x).drop v30.toNat).take ((v30 + (1 : Int)).toNat - v30.toNat)) (0 : Int)).2 = (0 : Int)) \/ ((¬ (finishM (serversM n) (jobsM23 ((serversM n).length : Int) x) v30).2 = (0 : Int)) \/ ((¬ (finishM (serversM n) (((jobsM23 ((serversM n).length : Int) x).drop v30.toNat).take ((v30 + (1 : Int)).toNat - v30.toNat)) (0 : Int)).1 = v35) \/ (((finishM (serversM n) (jobsM23 ((serversM n).length : Int) x) v30).1) < ((finishM (serversM n) (((jobsM23 ((serversM n).length : Int) x).drop v30.toNat).take ((v30 + (1 : Int)).toNat - v30.toNat)) (0 : Int)).1))))) -> Post false) /\ (¬ ((¬ (finishM (serversM n) (((jobsM23 ((serversM n).length : Int) x).drop v30.toNat).take ((v30 + (1 : Int)).toNat - v30.toNat)) (0 : Int)).2 = (0 : Int)) \/ ((¬ (finishM (serversM n) (jobsM23 ((serversM n).length : Int) x) v30).2 = (0 : Int)) \/ ((¬ (finishM (serversM n) (((jobsM23 ((serversM n).length : Int) x).drop v30.toNat).take ((v30 + (1 : Int)).toNat - v30.toNat)) (0 : Int)).1 = v35) \/ (((finishM (serversM n) (jobsM23 ((serversM n).length : Int) x) v30).1) < ((finishM (serversM n) (((jobsM23 ((serversM n).length : Int) x).drop v30.toNat).take ((v30 + (1 : Int)).toNat - v30.toNat)) (0 : Int)).1))))) -> ((v30 < ((((jobsM23 ((serversM n).length : Int) x).take (min (((jobsM23 ((serversM n).length : Int) x).length : Nat) : Int) (4 : Int)).toNat).length : Nat) : Int)) -> (r1_1.length <= 9223372036854775807) /\ (∀ q ∈ ((jobsM23 ((serversM n).length : Int) x).take (min (((jobsM23 ((serversM n).length : Int) x).length : Nat) : Int) (4 : Int)).toNat), q.wk.length <= 9223372036854775807) /\ (((jobsM23 ((serversM n).length : Int) x).take (min (((jobsM23 ((serversM n).length : Int) x).length : Nat) : Int) (4 : Int)).toNat).length <= 9223372036854775807) /\ (((¬ (finishM r1_1 ((jobsM23 ((serversM n).length : Int) x).take (min (((jobsM23 ((serversM n).length : Int) x).length : Nat) : Int) (4 : Int)).toNat) v30).2 = (0 : Int)) \/ (¬ (finishM r1_1 ((jobsM23 ((serversM n).length : Int) x).take (min (((jobsM23 ((serversM n).length : Int) x).length : Nat) : Int) (4 : Int)).toNat) v30).1 = (finishM (serversM n) (((jobsM23 ((serversM n).length : Int) x).drop v30.toNat).take ((v30 + (1 : Int)).toNat - v30.toNat)) (0 : Int)).1)) -> Post false) /\ (¬ ((¬ (finishM r1_1 ((jobsM23 ((serversM n).length : Int) x).take (min (((jobsM23 ((serversM n).length : Int) x).length : Nat) : Int) (4 : Int)).toNat) v30).2 = (0 : Int)) \/ (¬ (finishM r1_1 ((jobsM23 ((serversM n).length : Int) x).take (min (((jobsM23 ((serversM n).length : Int) x).length : Nat) : Int) (4 : Int)).toNat) v30).1 = (finishM (serversM n) (((jobsM23 ((serversM n).length : Int) x).drop v30.toNat).take ((v30 + (1 : Int)).toNat - v30.toNat)) (0 : Int)).1)) -> J7)) /\ (¬ (v30 < ((((jobsM23 ((serversM n).length : Int) x).take (min (((jobsM23 ((serversM n).length : Int) x).length : Nat) : Int) (4 : Int)).toNat).length : Nat) : Int)) -> J7))))) /\ (¬ (v30 < (((jobsM23 ((serversM n).length : Int) x).length : Nat) : Int)) -> Post true))))))
theorem walk_lawapart {n : Int} {x : (List (Vector Int 4))} {y : (List (Vector Int 4))} {by_ : Int} {Post : Bool -> Prop} (hv : vc_lawapart n x y by_ Post) : FnP Try.prog 6 [.int .i64 n, .lst true x.length (zYy eV4 x), .lst true y.length (zYy eV4 y), .int .i64 by_] (fun x => ∃ q0, x = .bool q0 /\ Post q0) := by
 refine FnP.of_walk (T := tt) (nt := 322) ttOk ttMix ⟨⟨Try.f6, Try.func6, rfl, rfl, rfl, rfl⟩⟩ (by simp) ?_
 unfold vc_lawapart at hv
 change W _ _ _ ⟨322, look [(0, .int .i64 n), (1, .lst true x.length (zYy eV4 x)), (2, .lst true y.length (zYy eV4 y)), (3, .int .i64 by_)], [], 0⟩ _
 refine W.ty [(0, .int _ _), (1, .lst _ _ _), (2, .lst _ _ _), (3, .int _ _)] rfl (W.rL (aB rfl rfl (eL (W.ty [(0, .int _ _), (1, .lst _ _ _), (2, .lst _ _ _), (3, .int _ _)] rfl (W.rL (cL rfl (zZu (k := 9) (fst := []) (caps := []) (ys := []) rfl rfl (spec_sane) zk (aB rfl rfl (eL (W.ty [(0, .int _ _), (1, .lst _ _ _), (2, .lst _ _ _), (3, .int _ _), (9, .bool _)] rfl (W.rL (mI rfl rfl ?_))))))))))))
 obtain ⟨s1, hv⟩ := hv
 refine cL rfl (zZu (k := 10) (fst := []) (caps := []) (ys := [.int _ _]) rfl rfl (spec_servers n s1) zk (aL rfl rfl (eL (W.ty [(1, .lst _ _ _), (2, .lst _ _ _), (3, .int _ _), (9, .bool _), (10, .lst _ _ _)] rfl (W.rL (mL rfl rfl (cL rfl (zXw (v := .lst _ _ _) tt24 rfl rfl (mL rfl rfl ?_)))))))))
 obtain ⟨s2, s3, s4, hv⟩ := hv
 refine cL rfl (zZu (k := 11) (fst := []) (caps := []) (ys := [.int _ _, .lst _ _ _]) rfl rfl (spec_jobs ((serversM n).length : Int) x s2 s3 s4) zk (aL rfl rfl (eL (W.ty [(2, .lst _ _ _), (3, .int _ _), (9, .bool _), (10, .lst _ _ _), (11, .lst _ _ _)] rfl ?_))))
 obtain ⟨sA0, sB0, sC0, hv⟩ := hv
 refine apx (S := serversM n) (y := y) sA0 sB0 sC0 rfl rfl ⟨rfl, rfl, rfl, rfl, rfl, rfl, rfl, rfl, rfl, rfl, rfl, rfl, rfl, rfl, rfl, rfl, rfl, rfl, rfl, rfl, rfl, rfl, rfl, rfl, rfl, rfl, rfl, rfl, rfl, rfl, rfl, trivial⟩ ?_
 intro js hg
 replace hv := hv js hg
 refine W.ty [(3, .int _ _), (9, .bool _), (10, .lst _ _ _), (11, .lst _ _ _), (12, .lst _ _ _)] rfl (W.rL (mI rfl rfl ?_))
 obtain ⟨s5, s6, hv⟩ := hv
 refine cL rfl (zZu (k := 16) (fst := []) (caps := []) (ys := [.int _ _, .int _ _]) rfl rfl (spec_pick16 by_ (1000 : Int) s5 s6) zk (aI rfl rfl (eL (W.ty [(9, .bool _), (10, .lst _ _ _), (11, .lst _ _ _), (12, .lst _ _ _), (15, .int _ _)] rfl (W.rL ?_)))))
 iterate 2 refine mL rfl rfl ?_
 obtain ⟨s7, s8, s9, hv⟩ := hv
 refine cL rfl (zZu (k := 12) (fst := []) (caps := []) (ys := [.lst _ _ _, .lst _ _ _]) rfl rfl (spec_mrun (serversM n) (jobsM23 ((serversM n).length : Int) x) s7 s8 s9) zk (cL rfl (zZp (v := .tup _) rfl (cL rfl (o_ext (v := .lst _ _ _) rfl rfl (cL rfl (o_ext (v := .int _ _) rfl rfl (aL rfl rfl (aI rfl rfl (eL (W.ty [(9, .bool _), (10, .lst _ _ _), (11, .lst _ _ _), (12, .lst _ _ _), (15, .int _ _), (16, .lst _ _ _), (17, .int _ _)] rfl (W.rL (cL rfl (o_buildS (q := 0) (qs := []) (cs := []) tt24 tt3 rfl rfl rfl rfl (mL rfl rfl ?_)))))))))))))))
 obtain ⟨s10, hv⟩ := hv
 refine cL rfl (o_apR (p := 1) (q := (serversM n).length) tt24 tt3 rfl rfl (src_lst (zZw.wd true) _ _ rfl) (zYw (zZw.wd true) _) rfl rfl (by simpa using s10) rfl (Nat.zero_add _) (List.nil_append _) (cL rfl (o_bs1 (v := .int _ _) (q := 2) tt24 tt3 rfl rfl rfl rfl rfl rfl rfl rfl ?_)))
 obtain ⟨s11, hv⟩ := hv
 refine cL rfl (o_apR (p := 3) (q := ((serversM n) ++ [(2 : Int)]).length) tt24 tt3 rfl rfl (src_ref rfl rfl) rfl rfl (zYw (zZw.wd false) _) (Nat.le_trans (Nat.le_of_eq (@List.length_append _ (serversM n) ([(2 : Int)])).symm) s11) rfl (@List.length_append _ (serversM n) ([(2 : Int)])).symm (encL_app zYx (serversM n) [(2 : Int)]) (cL rfl (o_buildS (q := 4) (qs := []) (cs := []) tt26 tt42 rfl rfl rfl rfl (mL rfl rfl ?_))))
 obtain ⟨s12, hv⟩ := hv
 refine cL rfl (o_apR (p := 5) (q := (jobsM23 ((serversM n).length : Int) x).length) tt26 tt42 rfl rfl (src_lst (enc42.wd true) _ _ rfl) (zYw (enc42.wd true) _) rfl rfl (by simpa using s12) rfl (Nat.zero_add _) (List.nil_append _) (mL rfl rfl ?_))
 obtain ⟨s13, hv⟩ := hv
 refine cL rfl (o_apR (p := 6) (q := ((jobsM23 ((serversM n).length : Int) x) ++ js).length) tt26 tt42 rfl rfl (src_lst (enc42.wd true) _ _ rfl) (zYw (enc42.wd true) _) rfl (zYw (enc42.wd true) _) (Nat.le_trans (Nat.le_of_eq (@List.length_append _ (jobsM23 ((serversM n).length : Int) x) (js)).symm) s13) rfl (@List.length_append _ (jobsM23 ((serversM n).length : Int) x) (js)).symm (encL_app (e42 true) (jobsM23 ((serversM n).length : Int) x) js) ?_)
 obtain ⟨s14, s15, s16, hv⟩ := hv
 refine cL rfl (zZu (k := 12) (fst := []) (caps := []) (ys := [.ref _ _ _, .ref _ _ _]) rfl rfl (spec_mrun ((serversM n) ++ [(2 : Int)]) ((jobsM23 ((serversM n).length : Int) x) ++ js) s14 s15 s16) (Wks.cons (ag_ref (fl := false) (xs := (serversM n) ++ [(2 : Int)]) zZw 4 _ rfl rfl) (Wks.cons (ag_ref (fl := true) (xs := (jobsM23 ((serversM n).length : Int) x) ++ js) enc42 4 _ rfl rfl) zk)) (cL rfl (zZp (v := .tup _) rfl (cL rfl (o_ext (v := .lst _ _ _) rfl rfl (cL rfl (o_ext (v := .int _ _) rfl rfl (aL rfl rfl (aI rfl rfl (eL (W.ty [(9, .bool _), (10, .lst _ _ _), (11, .lst _ _ _), (12, .lst _ _ _), (15, .int _ _), (16, .lst _ _ _), (17, .int _ _), (18, .lst _ _ _), (19, .int _ _)] rfl (W.rL (cL rfl (zZq (v := .nilS) rfl (eL (W.ty [(9, .bool _), (10, .lst _ _ _), (11, .lst _ _ _), (12, .lst _ _ _), (15, .int _ _), (16, .lst _ _ _), (17, .int _ _), (18, .lst _ _ _), (19, .int _ _), (20, .nilS)] rfl (W.seq' (W.rL (aI rfl rfl (eL (W.ty [(9, .bool _), (10, .lst _ _ _), (11, .lst _ _ _), (12, .lst _ _ _), (15, .int _ _), (16, .lst _ _ _), (17, .int _ _), (18, .lst _ _ _), (19, .int _ _), (20, .nilS), (21, .int _ _)] rfl (W.block ?_))))))))))))))))))))))
 obtain ⟨I2, μ2, hp, hv⟩ := hv
 refine W.loop2 (fun v21 r1 => ⟨322, look [(9, .bool true), (10, .lst false (serversM n).length (zYy zYx (serversM n))), (11, .lst false (jobsM23 ((serversM n).length : Int) x).length (zYy (e42 true) (jobsM23 ((serversM n).length : Int) x))), (12, .lst true js.length (zYy (e42 true) js)), (15, .int .i64 (pickM by_ (1000 : Int))), (16, .lst false ((runR (serversM n) (jobsM23 ((serversM n).length : Int) x)).1).length (zYy (eSl e36 true) ((runR (serversM n) (jobsM23 ((serversM n).length : Int) x)).1))), (17, .int .i64 ((runR (serversM n) (jobsM23 ((serversM n).length : Int) x)).2)), (18, .lst false ((runR ((serversM n) ++ [(2 : Int)]) ((jobsM23 ((serversM n).length : Int) x) ++ js)).1).length (zYy (eSl e36 true) ((runR ((serversM n) ++ [(2 : Int)]) ((jobsM23 ((serversM n).length : Int) x) ++ js)).1))), (19, .int .i64 ((runR ((serversM n) ++ [(2 : Int)]) ((jobsM23 ((serversM n).length : Int) x) ++ js)).2)), (20, .ref true 1 r1.length), (21, .int .i64 v21)], [.dead, .row 42 2 (zYy (e42 true) r1)], 0⟩) I2 μ2 (0 : Int) [] (St.to_mk (φ := [none, none]) rfl (rfl) ⟨Ren.bool _, Ren.lst _ _ _, Ren.lst _ _ _, Ren.lst _ _ _, Ren.int _ _, Ren.lst _ _ _, Ren.int _ _, Ren.lst _ _ _, Ren.int _ _, Ren.nilR rfl rfl, Ren.int _ _, trivial⟩ ⟨rfl, rfl, trivial⟩) hp ?_
 clear hp
 intro v21 r1 hI
 replace hv := hv v21 r1 hI
 clear hI
 refine W.seq' (W.rL (mI rfl rfl (mL rfl rfl (cL rfl (zXw (v := .lst _ _ _) tt26 rfl rfl (cL rfl (zYq rfl rfl (eL (W.ty [(9, .bool _), (10, .lst _ _ _), (11, .lst _ _ _), (12, .lst _ _ _), (15, .int _ _), (16, .lst _ _ _), (17, .int _ _), (18, .lst _ _ _), (19, .int _ _), (20, .ref _ _ _), (21, .int _ _), (99, .bool _)] rfl (W.cn rfl (fun hc => ?_) (fun hc => ?_)))))))))))
 have hv := hv.1 hc
 refine W.skip (zZ (W.ty [(9, .bool _), (10, .lst _ _ _), (11, .lst _ _ _), (12, .lst _ _ _), (15, .int _ _), (16, .lst _ _ _), (17, .int _ _), (18, .lst _ _ _), (19, .int _ _), (20, .ref _ _ _), (21, .int _ _)] rfl (W.seq' (W.block (W.rP1g [0, 1, 2, 3, 4, 5, 6, 7, 8, 9, 10, 11, 12, 13, 14, 15, 16] (by decide +kernel) rfl (cL rfl (zZp (v := .ref _ _ _) rfl (mL rfl rfl (mI rfl rfl ?_)))))))))
 obtain ⟨s66, hv⟩ := hv
 refine cL rfl (zYu tt26 tt42 rfl rfl (enc42.wd true) rfl s66 ?_)
 intro rest66
 refine cL rfl (o_faP tt42 rfl tt3 rfl (cL rfl (zZx (v := .int _ _) tt3 rfl rfl ⟨_, rfl⟩ (mI rfl rfl ?_))))
 obtain ⟨s67, hv⟩ := hv
 refine cL rfl (o_add rfl rfl s67 (mL rfl rfl (mI rfl rfl ?_)))
 obtain ⟨s68, hv⟩ := hv
 refine cL rfl (zYu tt26 tt42 rfl rfl (enc42.wd true) rfl s68 ?_)
 intro rest68
 refine cL rfl (o_faP tt42 rfl tt40 rfl (cL rfl (zZx (v := .lst _ _ _) tt40 rfl rfl ⟨_, rfl⟩ (cL rfl (o_build (qs := [(0, .int _ _), (1, .lst _ _ _)]) (cs := [.int _ _, .lst _ _ _]) tt42 rfl rfl rfl (cL rfl (o_bs1 (v := .agg _) (q := 2) tt26 tt42 rfl rfl rfl rfl rfl rfl rfl rfl ?_)))))))
 obtain ⟨s69, hv⟩ := hv
 refine cL rfl (o_apR (p := 3) (q := (r1 ++ [(Job.mk (((lat (jobsM23 ((serversM n).length : Int) x) v21).ar) + (pickM by_ (1000 : Int))) ((lat (jobsM23 ((serversM n).length : Int) x) v21).wk))]).length) tt26 tt42 rfl rfl (src_ref rfl rfl) rfl rfl (zYw (enc42.wd true) _) (Nat.le_trans (Nat.le_of_eq (@List.length_append _ (r1) ([(Job.mk (((lat (jobsM23 ((serversM n).length : Int) x) v21).ar) + (pickM by_ (1000 : Int))) ((lat (jobsM23 ((serversM n).length : Int) x) v21).wk))])).symm) s69) rfl (@List.length_append _ (r1) ([(Job.mk (((lat (jobsM23 ((serversM n).length : Int) x) v21).ar) + (pickM by_ (1000 : Int))) ((lat (jobsM23 ((serversM n).length : Int) x) v21).wk))])).symm (encL_app (e42 true) r1 [(Job.mk (((lat (jobsM23 ((serversM n).length : Int) x) v21).ar) + (pickM by_ (1000 : Int))) ((lat (jobsM23 ((serversM n).length : Int) x) v21).wk))]) (cL rfl (zZq (v := .ref _ _ _) rfl (eL (⟨rfl, ?_⟩)))))
 refine go_nil (zYv (zZ (W.ty [(9, .bool _), (10, .lst _ _ _), (11, .lst _ _ _), (12, .lst _ _ _), (15, .int _ _), (16, .lst _ _ _), (17, .int _ _), (18, .lst _ _ _), (19, .int _ _), (20, .ref _ _ _), (21, .int _ _)] rfl (W.rL1 (mI rfl rfl ?_)))))
 obtain ⟨s70, hv⟩ := hv
 refine cL rfl (o_add rfl rfl s70 (aI rfl rfl (eL (zZ (⟨(), (v21 + (1 : Int)), (r1 ++ [(Job.mk (((lat (jobsM23 ((serversM n).length : Int) x) v21).ar) + (pickM by_ (1000 : Int))) ((lat (jobsM23 ((serversM n).length : Int) x) v21).wk))]), hv, St.to_mk (φ := [none, some 3]) rfl (rfl) ⟨Ren.bool _, Ren.lst _ _ _, Ren.lst _ _ _, Ren.lst _ _ _, Ren.int _ _, Ren.lst _ _ _, Ren.int _ _, Ren.lst _ _ _, Ren.int _ _, Ren.ref rfl (fun h => rfl), Ren.int _ _, trivial⟩ ⟨rfl, zE enc42 true (r1 ++ [(Job.mk (((lat (jobsM23 ((serversM n).length : Int) x) v21).ar) + (pickM by_ (1000 : Int))) ((lat (jobsM23 ((serversM n).length : Int) x) v21).wk))]) rfl, trivial⟩⟩)))))
 have hv := hv.2 hc
 refine W.exit (zZt (zZt (zYs (zZ (W.ty [(9, .bool _), (10, .lst _ _ _), (11, .lst _ _ _), (12, .lst _ _ _), (15, .int _ _), (16, .lst _ _ _), (17, .int _ _), (18, .lst _ _ _), (19, .int _ _), (20, .ref _ _ _)] rfl (W.rL (mL rfl rfl (cL rfl (zZp (v := .ref _ _ _) rfl ?_)))))))))
 obtain ⟨s71, s72, s73, hv⟩ := hv
 refine cL rfl (zZu (k := 12) (fst := []) (caps := []) (ys := [.lst _ _ _, .ref _ _ _]) rfl rfl (spec_mrun (serversM n) r1 s71 s72 s73) (Wks.cons (zZs _ _ _ _ _) (Wks.cons (ag_ref (fl := true) (xs := r1) enc42 4 _ rfl rfl) zk)) (cL rfl (zZp (v := .tup _) rfl (cL rfl (o_ext (v := .lst _ _ _) rfl rfl (cL rfl (o_ext (v := .int _ _) rfl rfl (aL rfl rfl (aI rfl rfl (eL (W.ty [(9, .bool _), (10, .lst _ _ _), (11, .lst _ _ _), (12, .lst _ _ _), (15, .int _ _), (16, .lst _ _ _), (17, .int _ _), (18, .lst _ _ _), (19, .int _ _), (22, .lst _ _ _), (23, .int _ _)] rfl (W.seq' ?_))))))))))))
 obtain ⟨sd, hv⟩ := hv
 refine W.rLm ⟨322, look [(9, .bool true), (10, .lst false (serversM n).length (zYy zYx (serversM n))), (11, .lst false (jobsM23 ((serversM n).length : Int) x).length (zYy (e42 true) (jobsM23 ((serversM n).length : Int) x))), (15, .int .i64 (pickM by_ (1000 : Int))), (16, .lst false ((runR (serversM n) (jobsM23 ((serversM n).length : Int) x)).1).length (zYy (eSl e36 true) ((runR (serversM n) (jobsM23 ((serversM n).length : Int) x)).1))), (22, .lst false ((runR (serversM n) r1).1).length (zYy (eSl e36 true) ((runR (serversM n) r1).1))), (166, .bool (decide ((¬ (runR (serversM n) (jobsM23 ((serversM n).length : Int) x)).2 = (0 : Int)) \/ ((¬ (runR ((serversM n) ++ [(2 : Int)]) ((jobsM23 ((serversM n).length : Int) x) ++ js)).2 = (0 : Int)) \/ ((¬ (runR (serversM n) r1).2 = (0 : Int)) \/ ((¬ ((((runR (serversM n) (jobsM23 ((serversM n).length : Int) x)).1).length : Nat) : Int) = (((jobsM23 ((serversM n).length : Int) x).length : Nat) : Int)) \/ ((¬ ((((runR ((serversM n) ++ [(2 : Int)]) ((jobsM23 ((serversM n).length : Int) x) ++ js)).1).length : Nat) : Int) = ((((jobsM23 ((serversM n).length : Int) x).length : Nat) : Int) + (js.length : Int))) \/ ((¬ (((runR (serversM n) r1).1).length : Int) = ((((runR (serversM n) (jobsM23 ((serversM n).length : Int) x)).1).length : Nat) : Int)) \/ (¬ (((runR (serversM n) (jobsM23 ((serversM n).length : Int) x)).1) = (((runR ((serversM n) ++ [(2 : Int)]) ((jobsM23 ((serversM n).length : Int) x) ++ js)).1).take ((((runR (serversM n) (jobsM23 ((serversM n).length : Int) x)).1).length : Nat) : Int).toNat)))))))))))], [.dead, .row 42 2 (zYy (e42 true) r1)], 0⟩ ?_ ?_
 refine mI rfl rfl (cL rfl (o_neI rfl rfl rfl (mB rfl rfl ?_)))
 by_cases c1 : ¬ (runR (serversM n) (jobsM23 ((serversM n).length : Int) x)).2 = (0 : Int)
 iterate 2 refine cLs rfl rfl rfl (dT c1) ?_
 refine cL rfl (zZv (v := .bool _) rfl (dT c1) rfl (mB rfl rfl ?_))
 iterate 2 refine cLs rfl rfl rfl (rfl) ?_
 refine cL rfl (zZv (v := .bool _) rfl rfl rfl (mB rfl rfl ?_))
 iterate 5 refine cLs rfl rfl rfl (rfl) ?_
 refine cL rfl (zZv (v := .bool _) rfl rfl rfl (mB rfl rfl ?_))
 iterate 8 refine cLs rfl rfl rfl (rfl) ?_
 refine cL rfl (zZv (v := .bool _) rfl rfl rfl (mB rfl rfl ?_))
 iterate 5 refine cLs rfl rfl rfl (rfl) ?_
 refine cL rfl (zZv (v := .bool _) rfl rfl rfl (mB rfl rfl ?_))
 iterate 7 refine cLs rfl rfl rfl (rfl) ?_
 refine cL rfl (zZv (v := .bool _) rfl rfl rfl (eL (zYz ⟨rfl, rfl, rfl, rfl, rfl, rfl, (congrArg AV.bool (dOrT c1)).symm, trivial⟩ rfl)))
 have sd := sd.2 c1
 refine cLg rfl rfl (dF c1) (mI rfl rfl (cLg rfl rfl (dF c1) (cL rfl (o_neI rfl rfl rfl (cL rfl (zZy (v := .bool _) rfl (dF c1) rfl (mB rfl rfl ?_)))))))
 by_cases c2 : ¬ (runR ((serversM n) ++ [(2 : Int)]) ((jobsM23 ((serversM n).length : Int) x) ++ js)).2 = (0 : Int)
 iterate 2 refine cLs rfl rfl rfl (dT c2) ?_
 refine cL rfl (zZv (v := .bool _) rfl (dT c2) rfl (mB rfl rfl ?_))
 iterate 5 refine cLs rfl rfl rfl (rfl) ?_
 refine cL rfl (zZv (v := .bool _) rfl rfl rfl (mB rfl rfl ?_))
 iterate 8 refine cLs rfl rfl rfl (rfl) ?_
 refine cL rfl (zZv (v := .bool _) rfl rfl rfl (mB rfl rfl ?_))
 iterate 5 refine cLs rfl rfl rfl (rfl) ?_
 refine cL rfl (zZv (v := .bool _) rfl rfl rfl (mB rfl rfl ?_))
 iterate 7 refine cLs rfl rfl rfl (rfl) ?_
 refine cL rfl (zZv (v := .bool _) rfl rfl rfl (eL (zYz ⟨rfl, rfl, rfl, rfl, rfl, rfl, (congrArg AV.bool (dOrF c1 (dOrT c2))).symm, trivial⟩ rfl)))
 have sd := sd.2 c2
 refine cLg rfl rfl (dF c2) (mI rfl rfl (cLg rfl rfl (dF c2) (cL rfl (o_neI rfl rfl rfl (cL rfl (zZy (v := .bool _) rfl (dF c2) rfl (mB rfl rfl ?_)))))))
 by_cases c3 : ¬ (runR (serversM n) r1).2 = (0 : Int)
 iterate 5 refine cLs rfl rfl rfl (dT c3) ?_
 refine cL rfl (zZv (v := .bool _) rfl (dT c3) rfl (mB rfl rfl ?_))
 iterate 8 refine cLs rfl rfl rfl (rfl) ?_
 refine cL rfl (zZv (v := .bool _) rfl rfl rfl (mB rfl rfl ?_))
 iterate 5 refine cLs rfl rfl rfl (rfl) ?_
 refine cL rfl (zZv (v := .bool _) rfl rfl rfl (mB rfl rfl ?_))
 iterate 7 refine cLs rfl rfl rfl (rfl) ?_
 refine cL rfl (zZv (v := .bool _) rfl rfl rfl (eL (zYz ⟨rfl, rfl, rfl, rfl, rfl, rfl, (congrArg AV.bool (dOrF c1 (dOrF c2 (dOrT c3)))).symm, trivial⟩ rfl)))
 have sd := sd.2 c3
 refine cLg rfl rfl (dF c3) (mL rfl rfl (cLg rfl rfl (dF c3) (cL rfl (zXw (v := .lst _ _ _) tt28 rfl rfl (cLg rfl rfl (dF c3) (mL rfl rfl (cLg rfl rfl (dF c3) (cL rfl (zXw (v := .lst _ _ _) tt26 rfl rfl (cLg rfl rfl (dF c3) (cL rfl (o_neI rfl rfl rfl (cL rfl (zZy (v := .bool _) rfl (dF c3) rfl (mB rfl rfl ?_)))))))))))))))
 by_cases c4 : ¬ ((((runR (serversM n) (jobsM23 ((serversM n).length : Int) x)).1).length : Nat) : Int) = (((jobsM23 ((serversM n).length : Int) x).length : Nat) : Int)
 iterate 8 refine cLs rfl rfl rfl (dT c4) ?_
 refine cL rfl (zZv (v := .bool _) rfl (dT c4) rfl (mB rfl rfl ?_))
 iterate 5 refine cLs rfl rfl rfl (rfl) ?_
 refine cL rfl (zZv (v := .bool _) rfl rfl rfl (mB rfl rfl ?_))
 iterate 7 refine cLs rfl rfl rfl (rfl) ?_
 refine cL rfl (zZv (v := .bool _) rfl rfl rfl (eL (zYz ⟨rfl, rfl, rfl, rfl, rfl, rfl, (congrArg AV.bool (dOrF c1 (dOrF c2 (dOrF c3 (dOrT c4))))).symm, trivial⟩ rfl)))
 have sd := sd.2 c4
 refine cLg rfl rfl (dF c4) (mL rfl rfl (cLg rfl rfl (dF c4) (cL rfl (zXw (v := .lst _ _ _) tt28 rfl rfl (cLg rfl rfl (dF c4) (mL rfl rfl (cLg rfl rfl (dF c4) (cL rfl (zXw (v := .lst _ _ _) tt26 rfl rfl (cLg rfl rfl (dF c4) (mL rfl rfl (cLg rfl rfl (dF c4) (cL rfl (zXw (v := .lst _ _ _) tt26 rfl rfl (cLg rfl rfl (dF c4) ?_)))))))))))))))
 obtain ⟨s92, sd⟩ := sd
 refine cL rfl (o_add rfl rfl s92 (cLg rfl rfl (dF c4) (cL rfl (o_neI rfl rfl rfl (cL rfl (zZy (v := .bool _) rfl (dF c4) rfl (mB rfl rfl ?_)))))))
 by_cases c5 : ¬ ((((runR ((serversM n) ++ [(2 : Int)]) ((jobsM23 ((serversM n).length : Int) x) ++ js)).1).length : Nat) : Int) = ((((jobsM23 ((serversM n).length : Int) x).length : Nat) : Int) + (js.length : Int))
 iterate 5 refine cLs rfl rfl rfl (dT c5) ?_
 refine cL rfl (zZv (v := .bool _) rfl (dT c5) rfl (mB rfl rfl ?_))
 iterate 7 refine cLs rfl rfl rfl (rfl) ?_
 refine cL rfl (zZv (v := .bool _) rfl rfl rfl (eL (zYz ⟨rfl, rfl, rfl, rfl, rfl, rfl, (congrArg AV.bool (dOrF c1 (dOrF c2 (dOrF c3 (dOrF c4 (dOrT c5)))))).symm, trivial⟩ rfl)))
 have sd := sd.2 c5
 refine cLg rfl rfl (dF c5) (mL rfl rfl (cLg rfl rfl (dF c5) (cL rfl (zXw (v := .lst _ _ _) tt28 rfl rfl (cLg rfl rfl (dF c5) (mL rfl rfl (cLg rfl rfl (dF c5) (cL rfl (zXw (v := .lst _ _ _) tt28 rfl rfl (cLg rfl rfl (dF c5) (cL rfl (o_neI rfl rfl rfl (cL rfl (zZy (v := .bool _) rfl (dF c5) rfl (mB rfl rfl ?_)))))))))))))))
 by_cases c6 : ¬ (((runR (serversM n) r1).1).length : Int) = ((((runR (serversM n) (jobsM23 ((serversM n).length : Int) x)).1).length : Nat) : Int)
 iterate 7 refine cLs rfl rfl rfl (dT c6) ?_
 refine cL rfl (zZv (v := .bool _) rfl (dT c6) rfl (eL (zYz ⟨rfl, rfl, rfl, rfl, rfl, rfl, (congrArg AV.bool (dOrF c1 (dOrF c2 (dOrF c3 (dOrF c4 (dOrF c5 (dOrT c6))))))).symm, trivial⟩ rfl)))
 have sd := sd.2 c6
 refine cLg rfl rfl (dF c6) (mL rfl rfl (cLg rfl rfl (dF c6) (mL rfl rfl (cLg rfl rfl (dF c6) (mL rfl rfl (cLg rfl rfl (dF c6) (cL rfl (zXw (v := .lst _ _ _) tt28 rfl rfl (cLg rfl rfl (dF c6) ?_)))))))))
 obtain ⟨s93, sd⟩ := sd
 refine cL rfl (o_slL tt28 tt43 rfl ((encSl e36).wd true) rfl rfl rfl s93 (ys := ((runR ((serversM n) ++ [(2 : Int)]) ((jobsM23 ((serversM n).length : Int) x) ++ js)).1).take ((((runR (serversM n) (jobsM23 ((serversM n).length : Int) x)).1).length : Nat) : Int).toNat) (by simp) (cLg rfl rfl (dF c6) ?_))
 obtain ⟨s94, s95, s96, s97, sd⟩ := sd
 refine cL rfl (zZu (k := 18) (fst := []) (caps := []) (ys := [.lst _ _ _, .lst _ _ _]) rfl rfl (spec_sameV ((runR (serversM n) (jobsM23 ((serversM n).length : Int) x)).1) (((runR ((serversM n) ++ [(2 : Int)]) ((jobsM23 ((serversM n).length : Int) x) ++ js)).1).take ((((runR (serversM n) (jobsM23 ((serversM n).length : Int) x)).1).length : Nat) : Int).toNat) s94 s95 s96 s97) zk (cLg rfl rfl (dF c6) (cL rfl (o_not rfl (cL rfl (zZy (v := .bool _) rfl (dF c6) rfl (eL (zYz ⟨rfl, rfl, rfl, rfl, rfl, rfl, (congrArg AV.bool (dOrF c1 (dOrF c2 (dOrF c3 (dOrF c4 (dOrF c5 (dOrF c6 (rfl)))))))).symm, trivial⟩ rfl))))))))
 refine W.cn rfl (fun hc => ?_) (fun hc => ?_)
 have hv := hv.1 hc
 refine W.rL (aB rfl rfl (eL (W.ty [(8, .bool _)] rfl (W.ret (zZr (rt (rt_t (v := .bool _) rfl (rt_n (⟨_, zYr _ _ _, false, rfl, hv⟩)))))))))
 have hv := hv.2 hc
 refine W.skip (zZ (W.ty [(9, .bool _), (10, .lst _ _ _), (11, .lst _ _ _), (15, .int _ _), (16, .lst _ _ _), (22, .lst _ _ _)] rfl (W.seq' (W.rL (aI rfl rfl (eL (W.ty [(9, .bool _), (10, .lst _ _ _), (11, .lst _ _ _), (15, .int _ _), (16, .lst _ _ _), (22, .lst _ _ _), (24, .int _ _)] rfl (W.block ?_))))))))
 obtain ⟨I3, μ3, hp, hv⟩ := hv
 refine W.loop1 (fun v24 => ⟨322, look [(9, .bool true), (10, .lst false (serversM n).length (zYy zYx (serversM n))), (11, .lst false (jobsM23 ((serversM n).length : Int) x).length (zYy (e42 true) (jobsM23 ((serversM n).length : Int) x))), (15, .int .i64 (pickM by_ (1000 : Int))), (16, .lst false ((runR (serversM n) (jobsM23 ((serversM n).length : Int) x)).1).length (zYy (eSl e36 true) ((runR (serversM n) (jobsM23 ((serversM n).length : Int) x)).1))), (22, .lst false ((runR (serversM n) r1).1).length (zYy (eSl e36 true) ((runR (serversM n) r1).1))), (24, .int .i64 v24)], [.dead], 0⟩) I3 μ3 (0 : Int) (St.to_mk (φ := [none]) rfl (rfl) (zT rfl rfl) ⟨rfl, trivial⟩) hp ?_
 clear hp
 intro v24 hI
 replace hv := hv v24 hI
 clear hI
 refine W.seq' (W.rL (mI rfl rfl (mL rfl rfl (cL rfl (zXw (v := .lst _ _ _) tt28 rfl rfl (cL rfl (zYq rfl rfl (eL (W.ty [(9, .bool _), (10, .lst _ _ _), (11, .lst _ _ _), (15, .int _ _), (16, .lst _ _ _), (22, .lst _ _ _), (24, .int _ _), (170, .bool _)] rfl (W.cn rfl (fun hc => ?_) (fun hc => ?_)))))))))))
 have hv := hv.1 hc
 refine W.skip (zZ (W.ty [(9, .bool _), (10, .lst _ _ _), (11, .lst _ _ _), (15, .int _ _), (16, .lst _ _ _), (22, .lst _ _ _), (24, .int _ _)] rfl (W.seq' (W.block (W.seq' (W.rD [0, 1, 2, 3, 4, 5, 6, 7, 8, 9, 10] (by decide +kernel) rfl (mL rfl rfl (mI rfl rfl ?_))))))))
 obtain ⟨s369, hv⟩ := hv
 refine cL rfl (zYu tt28 tt43 rfl rfl ((encSl e36).wd true) rfl s369 ?_)
 intro rest369
 refine cL rfl (zZx (v := .lst _ _ _) tt43 rfl rfl ⟨_, rfl⟩ (cL rfl (zXw (v := .lst _ _ _) tt43 rfl rfl (mL rfl rfl (mI rfl rfl ?_)))))
 obtain ⟨s370, hv⟩ := hv
 refine cL rfl (zYu tt28 tt43 rfl rfl ((encSl e36).wd true) rfl s370 ?_)
 intro rest370
 refine cL rfl (zZx (v := .lst _ _ _) tt43 rfl rfl ⟨_, rfl⟩ (cL rfl (zXw (v := .lst _ _ _) tt43 rfl rfl (cL rfl (o_neI rfl rfl rfl (eL (W.ty [(9, .bool _), (10, .lst _ _ _), (11, .lst _ _ _), (15, .int _ _), (16, .lst _ _ _), (22, .lst _ _ _), (24, .int _ _), (183, .bool _)] rfl (W.cn rfl (fun hc => ?_) (fun hc => ?_)))))))))
 have hv := hv.1 hc
 refine W.rL (aB rfl rfl (eL (W.ty [(8, .bool _)] rfl (W.ret (zZr (zYt (zZr (zZr (zYt (zZr (rt (rt_t (v := .bool _) rfl (rt_n (⟨_, zYr _ _ _, false, rfl, hv⟩))))))))))))))
 have hv := hv.2 hc
 refine W.skip (zZ (W.ty [(9, .bool _), (10, .lst _ _ _), (11, .lst _ _ _), (15, .int _ _), (16, .lst _ _ _), (22, .lst _ _ _), (24, .int _ _)] rfl (W.rL (aI rfl rfl (eL (W.ty [(9, .bool _), (10, .lst _ _ _), (11, .lst _ _ _), (15, .int _ _), (16, .lst _ _ _), (22, .lst _ _ _), (24, .int _ _), (25, .int _ _)] rfl (W.block ?_)))))))
 obtain ⟨I4, μ4, hp, hv⟩ := hv
 refine W.loop1 (fun v25 => ⟨322, look [(9, .bool true), (10, .lst false (serversM n).length (zYy zYx (serversM n))), (11, .lst false (jobsM23 ((serversM n).length : Int) x).length (zYy (e42 true) (jobsM23 ((serversM n).length : Int) x))), (15, .int .i64 (pickM by_ (1000 : Int))), (16, .lst false ((runR (serversM n) (jobsM23 ((serversM n).length : Int) x)).1).length (zYy (eSl e36 true) ((runR (serversM n) (jobsM23 ((serversM n).length : Int) x)).1))), (22, .lst false ((runR (serversM n) r1).1).length (zYy (eSl e36 true) ((runR (serversM n) r1).1))), (24, .int .i64 v24), (25, .int .i64 v25)], [.dead], 0⟩) I4 μ4 (0 : Int) (St.to_mk (φ := [none]) rfl (rfl) (zT rfl rfl) ⟨rfl, trivial⟩) hp ?_
 clear hp
 intro v25 hI
 replace hv := hv v25 hI
 clear hI
 refine W.seq' (W.rL (mI rfl rfl (mL rfl rfl (mI rfl rfl ?_))))
 obtain ⟨s389, hv⟩ := hv
 refine cL rfl (zYu tt28 tt43 rfl rfl ((encSl e36).wd true) rfl s389 ?_)
 intro rest389
 refine cL rfl (zZx (v := .lst _ _ _) tt43 rfl rfl ⟨_, rfl⟩ (cL rfl (zXw (v := .lst _ _ _) tt43 rfl rfl (cL rfl (zYq rfl rfl (eL (W.ty [(9, .bool _), (10, .lst _ _ _), (11, .lst _ _ _), (15, .int _ _), (16, .lst _ _ _), (22, .lst _ _ _), (24, .int _ _), (25, .int _ _), (190, .bool _)] rfl (W.cn rfl (fun hc => ?_) (fun hc => ?_)))))))))
 have hv := hv.1 hc
 refine W.skip (zZ (W.ty [(9, .bool _), (10, .lst _ _ _), (11, .lst _ _ _), (15, .int _ _), (16, .lst _ _ _), (22, .lst _ _ _), (24, .int _ _), (25, .int _ _)] rfl (W.seq' (W.block (W.rL (mL rfl rfl (mI rfl rfl ?_)))))))
 obtain ⟨s397, hv⟩ := hv
 refine cL rfl (zYu tt28 tt43 rfl rfl ((encSl e36).wd true) rfl s397 ?_)
 intro rest397
 refine cL rfl (zZx (v := .lst _ _ _) tt43 rfl rfl ⟨_, rfl⟩ (mI rfl rfl ?_))
 obtain ⟨s398, hv⟩ := hv
 refine cL rfl (zYu tt43 tt36 rfl rfl (enc36.wd true) rfl s398 ?_)
 intro rest398
 refine cL rfl (zYp (cs := [.int _ _, .int _ _, .int _ _]) tt36 rfl rfl ⟨_, rfl⟩ rfl (cL rfl (zXy (p := 1) tt36 rfl rfl (cLn (o_stB (v := .agg _) (vs := [.int _ _, .int _ _, .int _ _]) (cs2 := [.int _ _, .int _ _, .int _ _]) tt36 rfl rfl rfl rfl rfl (Nat.le_of_ble_eq_true rfl) rfl (eL (W.ty [(9, .bool _), (10, .lst _ _ _), (11, .lst _ _ _), (15, .int _ _), (16, .lst _ _ _), (22, .lst _ _ _), (24, .int _ _), (25, .int _ _), (26, .ptr _ _)] rfl (W.rD [0, 1, 2, 3, 4, 5, 6, 7, 8, 9, 10, 11, 12, 13, 14, 15, 16, 17, 18, 19, 20] (by decide +kernel) rfl (mL rfl rfl (mI rfl rfl ?_))))))))))
 obtain ⟨s399, hv⟩ := hv
 refine cL rfl (zYu tt28 tt43 rfl rfl ((encSl e36).wd true) rfl s399 ?_)
 intro rest399
 refine cL rfl (zZx (v := .lst _ _ _) tt43 rfl rfl ⟨_, rfl⟩ (mI rfl rfl ?_))
 obtain ⟨s400, hv⟩ := hv
 refine cL rfl (zYu tt43 tt36 rfl rfl (enc36.wd true) rfl s400 ?_)
 intro rest400
 refine cL rfl (zYp (cs := [.int _ _, .int _ _, .int _ _]) tt36 rfl rfl ⟨_, rfl⟩ rfl (cL rfl (o_fa tt36 rfl tt3 rfl (cL rfl (zZx (v := .int _ _) tt3 rfl rfl ⟨_, rfl⟩ (mI rfl rfl ?_))))))
 obtain ⟨s401, hv⟩ := hv
 refine cL rfl (o_add rfl rfl s401 (cL rfl (o_fa tt36 rfl tt3 rfl (cL rfl (zZx (v := .int _ _) tt3 rfl rfl ⟨_, rfl⟩ (mI rfl rfl ?_))))))
 obtain ⟨s402, hv⟩ := hv
 refine cL rfl (o_add rfl rfl s402 (cL rfl (o_fa tt36 rfl tt3 rfl (cL rfl (zZx (v := .int _ _) tt3 rfl rfl ⟨_, rfl⟩ (mI rfl rfl ?_))))))
 obtain ⟨s403, hv⟩ := hv
 refine cL rfl (o_add rfl rfl s403 (cL rfl (o_build (qs := [(0, .int _ _), (1, .int _ _), (2, .int _ _)]) (cs := [.int _ _, .int _ _, .int _ _]) tt36 rfl rfl rfl (cL rfl (o_neS [(lat (lat ((runR (serversM n) r1).1) v24) v25).rd, (lat (lat ((runR (serversM n) r1).1) v24) v25).st, (lat (lat ((runR (serversM n) r1).1) v24) v25).en] [(((lat (lat ((runR (serversM n) (jobsM23 ((serversM n).length : Int) x)).1) v24) v25).rd) + (pickM by_ (1000 : Int))), (((lat (lat ((runR (serversM n) (jobsM23 ((serversM n).length : Int) x)).1) v24) v25).st) + (pickM by_ (1000 : Int))), (((lat (lat ((runR (serversM n) (jobsM23 ((serversM n).length : Int) x)).1) v24) v25).en) + (pickM by_ (1000 : Int)))] tt36 eqf36 rfl rfl rfl rfl rfl rfl (eq36 (lat (lat ((runR (serversM n) r1).1) v24) v25) (Vis.mk (((lat (lat ((runR (serversM n) (jobsM23 ((serversM n).length : Int) x)).1) v24) v25).rd) + (pickM by_ (1000 : Int))) (((lat (lat ((runR (serversM n) (jobsM23 ((serversM n).length : Int) x)).1) v24) v25).st) + (pickM by_ (1000 : Int))) (((lat (lat ((runR (serversM n) (jobsM23 ((serversM n).length : Int) x)).1) v24) v25).en) + (pickM by_ (1000 : Int))))) (eL (W.ty [(9, .bool _), (10, .lst _ _ _), (11, .lst _ _ _), (15, .int _ _), (16, .lst _ _ _), (22, .lst _ _ _), (24, .int _ _), (25, .int _ _), (220, .bool _)] rfl (W.cn rfl (fun hc => ?_) (fun hc => ?_)))))))))
 have hv := hv.1 hc
 refine W.rL (aB rfl rfl (eL (W.ty [(8, .bool _)] rfl (W.ret (zYt (zZr (zZr (zYt (zYt (zZr (zZr (zYt (zZr (rt (rt_t (v := .bool _) rfl (rt_n (⟨_, zYr _ _ _, false, rfl, hv⟩)))))))))))))))))
 have hv := hv.2 hc
 refine W.skip (zYv (zZ (W.ty [(9, .bool _), (10, .lst _ _ _), (11, .lst _ _ _), (15, .int _ _), (16, .lst _ _ _), (22, .lst _ _ _), (24, .int _ _), (25, .int _ _)] rfl (W.rL1 (mI rfl rfl ?_)))))
 obtain ⟨s404, hv⟩ := hv
 refine cL rfl (o_add rfl rfl s404 (aI rfl rfl (eL (zZ (⟨(), (v25 + (1 : Int)), hv, St.to_mk (φ := [none]) rfl (rfl) (zT rfl rfl) ⟨rfl, trivial⟩⟩)))))
 have hv := hv.2 hc
 refine W.exit (zZt (zZt (zYs (zYv (zZ (W.ty [(9, .bool _), (10, .lst _ _ _), (11, .lst _ _ _), (15, .int _ _), (16, .lst _ _ _), (22, .lst _ _ _), (24, .int _ _)] rfl (W.rL1 (mI rfl rfl ?_))))))))
 obtain ⟨s405, hv⟩ := hv
 refine cL rfl (o_add rfl rfl s405 (aI rfl rfl (eL (zZ (⟨(), (v24 + (1 : Int)), hv, St.to_mk (φ := [none]) rfl (rfl) (zT rfl rfl) ⟨rfl, trivial⟩⟩)))))
 have hv := hv.2 hc
 refine W.exit (zZt (zZt (zYs (zZ (W.ty [(9, .bool _), (10, .lst _ _ _), (11, .lst _ _ _)] rfl (W.rL ?_))))))
 iterate 2 refine mL rfl rfl ?_
 refine cL rfl (zXw (v := .lst _ _ _) tt26 rfl rfl (cL rfl (o_min rfl rfl ?_)))
 obtain ⟨s406, hv⟩ := hv
 refine cL rfl (o_slL tt26 tt42 rfl (enc42.wd true) rfl rfl rfl s406 (ys := (jobsM23 ((serversM n).length : Int) x).take (min (((jobsM23 ((serversM n).length : Int) x).length : Nat) : Int) (4 : Int)).toNat) (by simp) (aL rfl rfl (eL (W.ty [(9, .bool _), (10, .lst _ _ _), (11, .lst _ _ _), (27, .lst _ _ _)] rfl (W.rL (mL rfl rfl (cL rfl (zXw (v := .lst _ _ _) tt24 rfl rfl ?_))))))))
 obtain ⟨s407, hv⟩ := hv
 refine cL rfl (o_mkS (p := 1) (x0 := ((0 : Int) : Int)) tt24 tt3 rfl rfl rfl (zZw.wd false) rfl s407 rfl (cL rfl (zZq (v := .ref _ _ _) rfl (eL (W.ty [(9, .bool _), (10, .lst _ _ _), (11, .lst _ _ _), (27, .lst _ _ _), (28, .ref _ _ _)] rfl (W.seq' (W.rL (aI rfl rfl (eL (W.ty [(9, .bool _), (10, .lst _ _ _), (11, .lst _ _ _), (27, .lst _ _ _), (28, .ref _ _ _), (29, .int _ _)] rfl (W.block ?_)))))))))))
 obtain ⟨I5, μ5, hp, hv⟩ := hv
 refine W.loop2 (fun v29 r1_1 => ⟨322, look [(9, .bool true), (10, .lst false (serversM n).length (zYy zYx (serversM n))), (11, .lst false (jobsM23 ((serversM n).length : Int) x).length (zYy (e42 true) (jobsM23 ((serversM n).length : Int) x))), (27, .lst false ((jobsM23 ((serversM n).length : Int) x).take (min (((jobsM23 ((serversM n).length : Int) x).length : Nat) : Int) (4 : Int)).toNat).length (zYy (e42 true) ((jobsM23 ((serversM n).length : Int) x).take (min (((jobsM23 ((serversM n).length : Int) x).length : Nat) : Int) (4 : Int)).toNat))), (28, .ref false 1 r1_1.length), (29, .int .i64 v29)], [.dead, .row 3 1 (zYy zYx r1_1)], 0⟩) I5 μ5 (0 : Int) (List.replicate ((serversM n).length : Int).toNat ((0 : Int) : Int)) (St.to_mk (φ := [none, some 1]) rfl (rfl) ⟨Ren.bool _, Ren.lst _ _ _, Ren.lst _ _ _, Ren.lst _ _ _, Ren.refL rfl id (by simp), Ren.int _ _, trivial⟩ ⟨rfl, zE zZw false (List.replicate ((serversM n).length : Int).toNat ((0 : Int) : Int)) rfl, trivial⟩) hp ?_
 clear hp
 intro v29 r1_1 hI
 replace hv := hv v29 r1_1 hI
 clear hI
 refine W.seq' (W.rL (mI rfl rfl (cL rfl (zZp (v := .ref _ _ _) rfl (cL rfl (zXw (v := .ref _ _ _) tt24 rfl rfl (cL rfl (zYq rfl rfl (eL (W.ty [(9, .bool _), (10, .lst _ _ _), (11, .lst _ _ _), (27, .lst _ _ _), (28, .ref _ _ _), (29, .int _ _), (232, .bool _)] rfl (W.cn rfl (fun hc => ?_) (fun hc => ?_))))))))))))
 have hv := hv.1 hc
 refine W.skip (zZ (W.ty [(9, .bool _), (10, .lst _ _ _), (11, .lst _ _ _), (27, .lst _ _ _), (28, .ref _ _ _), (29, .int _ _)] rfl (W.seq' (W.block (W.rL1 (cL rfl (zZp (v := .ref _ _ _) rfl (mI rfl rfl ?_))))))))
 obtain ⟨s424, hv⟩ := hv
 refine cL rfl (o_iaR tt24 tt3 rfl rfl s424 (cLn (o_stR (v := .int _ _) tt3 rfl rfl rfl rfl rfl (row_in (xs := r1_1) (zZw.wd false) s424 rfl) (row_set (e := zYx) (zZw.wd false) _ _ (4 : Int) rfl s424.1 s424.2) (eL (zYv (zZ (W.ty [(9, .bool _), (10, .lst _ _ _), (11, .lst _ _ _), (27, .lst _ _ _), (28, .ref _ _ _), (29, .int _ _)] rfl (W.rL1 (mI rfl rfl ?_)))))))))
 obtain ⟨s425, hv⟩ := hv
 refine cL rfl (o_add rfl rfl s425 (aI rfl rfl (eL (zZ (⟨(), (v29 + (1 : Int)), (r1_1.set v29.toNat (4 : Int)), hv, St.to_mk (φ := [none, some 1]) rfl (rfl) ⟨Ren.bool _, Ren.lst _ _ _, Ren.lst _ _ _, Ren.lst _ _ _, Ren.refL rfl id (by simp), Ren.int _ _, trivial⟩ ⟨rfl, zE zZw false (r1_1.set v29.toNat (4 : Int)) rfl, trivial⟩⟩)))))
 have hv := hv.2 hc
 refine W.exit (zZt (zZt (zYs (zZ (W.ty [(9, .bool _), (10, .lst _ _ _), (11, .lst _ _ _), (27, .lst _ _ _), (28, .ref _ _ _)] rfl (W.seq' (W.rL (aI rfl rfl (eL (W.ty [(9, .bool _), (10, .lst _ _ _), (11, .lst _ _ _), (27, .lst _ _ _), (28, .ref _ _ _), (30, .int _ _)] rfl (W.block ?_)))))))))))
 obtain ⟨I6, μ6, hp, hv⟩ := hv
 refine W.loop1 (fun v30 => ⟨322, look [(9, .bool true), (10, .lst false (serversM n).length (zYy zYx (serversM n))), (11, .lst false (jobsM23 ((serversM n).length : Int) x).length (zYy (e42 true) (jobsM23 ((serversM n).length : Int) x))), (27, .lst false ((jobsM23 ((serversM n).length : Int) x).take (min (((jobsM23 ((serversM n).length : Int) x).length : Nat) : Int) (4 : Int)).toNat).length (zYy (e42 true) ((jobsM23 ((serversM n).length : Int) x).take (min (((jobsM23 ((serversM n).length : Int) x).length : Nat) : Int) (4 : Int)).toNat))), (28, .ref false 1 r1_1.length), (30, .int .i64 v30)], [.dead, .row 3 1 (zYy zYx r1_1)], 0⟩) I6 μ6 (0 : Int) (St.to_mk (φ := [none, some 1]) rfl (rfl) ⟨Ren.bool _, Ren.lst _ _ _, Ren.lst _ _ _, Ren.lst _ _ _, Ren.ref rfl id, Ren.int _ _, trivial⟩ ⟨rfl, zE zZw false r1_1 rfl, trivial⟩) hp ?_
 clear hp
 intro v30 hI
 replace hv := hv v30 hI
 clear hI
 refine W.seq' (W.rL (mI rfl rfl (mL rfl rfl (cL rfl (zXw (v := .lst _ _ _) tt26 rfl rfl (cL rfl (zYq rfl rfl (eL (W.ty [(9, .bool _), (10, .lst _ _ _), (11, .lst _ _ _), (27, .lst _ _ _), (28, .ref _ _ _), (30, .int _ _), (241, .bool _)] rfl (W.cn rfl (fun hc => ?_) (fun hc => ?_)))))))))))
 have hv := hv.1 hc
 refine W.skip (zZ (W.ty [(9, .bool _), (10, .lst _ _ _), (11, .lst _ _ _), (27, .lst _ _ _), (28, .ref _ _ _), (30, .int _ _)] rfl ?_))
 obtain ⟨J7, hj, hv⟩ := hv
 refine W.mid0 (⟨322, look [(9, .bool true), (10, .lst false (serversM n).length (zYy zYx (serversM n))), (11, .lst false (jobsM23 ((serversM n).length : Int) x).length (zYy (e42 true) (jobsM23 ((serversM n).length : Int) x))), (27, .lst false ((jobsM23 ((serversM n).length : Int) x).take (min (((jobsM23 ((serversM n).length : Int) x).length : Nat) : Int) (4 : Int)).toNat).length (zYy (e42 true) ((jobsM23 ((serversM n).length : Int) x).take (min (((jobsM23 ((serversM n).length : Int) x).length : Nat) : Int) (4 : Int)).toNat))), (28, .ref false 1 r1_1.length), (30, .int .i64 v30)], [.dead, .row 3 1 (zYy zYx r1_1)], 0⟩) J7 ?_ ?_
 intro hv
 replace hv := hj hv
 refine W.rL1 (mI rfl rfl ?_)
 obtain ⟨s765, hv⟩ := hv
 refine cL rfl (o_add rfl rfl s765 (aI rfl rfl (eL (zZ (⟨(), (v30 + (1 : Int)), hv, St.to_mk (φ := [none, some 1]) rfl (rfl) ⟨Ren.bool _, Ren.lst _ _ _, Ren.lst _ _ _, Ren.lst _ _ _, Ren.ref rfl id, Ren.int _ _, trivial⟩ ⟨rfl, zE zZw false r1_1 rfl, trivial⟩⟩)))))
 clear hj
 refine W.block (W.rL ?_)
 iterate 2 refine mL rfl rfl ?_
 iterate 2 refine mI rfl rfl ?_
 obtain ⟨s766, hv⟩ := hv
 refine cL rfl (o_add rfl rfl s766 ?_)
 obtain ⟨s767, hv⟩ := hv
 refine cL rfl (o_slL tt26 tt42 rfl (enc42.wd true) rfl rfl rfl s767 (ys := ((jobsM23 ((serversM n).length : Int) x).drop v30.toNat).take ((v30 + (1 : Int)).toNat - v30.toNat)) rfl ?_)
 obtain ⟨s768, s769, s770, hv⟩ := hv
 refine cL rfl (zZu (k := 14) (fst := []) (caps := []) (ys := [.lst _ _ _, .lst _ _ _, .int _ _]) rfl rfl (spec_finish (serversM n) (((jobsM23 ((serversM n).length : Int) x).drop v30.toNat).take ((v30 + (1 : Int)).toNat - v30.toNat)) (0 : Int) s768 s769 s770) zk (cL rfl (zZp (v := .tup _) rfl ?_)))
 iterate 2 refine cL rfl (o_ext (v := .int _ _) rfl rfl ?_)
 iterate 2 refine aI rfl rfl ?_
 refine eL (W.ty [(9, .bool _), (10, .lst _ _ _), (11, .lst _ _ _), (27, .lst _ _ _), (28, .ref _ _ _), (30, .int _ _), (31, .int _ _), (32, .int _ _)] rfl (W.rL ?_))
 iterate 2 refine mL rfl rfl ?_
 refine mI rfl rfl ?_
 obtain ⟨s771, s772, s773, hv⟩ := hv
 refine cL rfl (zZu (k := 14) (fst := []) (caps := []) (ys := [.lst _ _ _, .lst _ _ _, .int _ _]) rfl rfl (spec_finish (serversM n) (jobsM23 ((serversM n).length : Int) x) v30 s771 s772 s773) zk (cL rfl (zZp (v := .tup _) rfl ?_)))
 iterate 2 refine cL rfl (o_ext (v := .int _ _) rfl rfl ?_)
 iterate 2 refine aI rfl rfl ?_
 refine eL (W.ty [(9, .bool _), (10, .lst _ _ _), (11, .lst _ _ _), (27, .lst _ _ _), (28, .ref _ _ _), (30, .int _ _), (31, .int _ _), (32, .int _ _), (33, .int _ _), (34, .int _ _)] rfl (W.rL (mL rfl rfl (mI rfl rfl ?_))))
 obtain ⟨s774, hv⟩ := hv
 refine cL rfl (zYu tt26 tt42 rfl rfl (enc42.wd true) rfl s774 ?_)
 intro rest774
 refine cL rfl (o_faP tt42 rfl tt3 rfl (cL rfl (zZx (v := .int _ _) tt3 rfl rfl ⟨_, rfl⟩ (aI rfl rfl (eL (W.ty [(9, .bool _), (10, .lst _ _ _), (11, .lst _ _ _), (27, .lst _ _ _), (28, .ref _ _ _), (30, .int _ _), (31, .int _ _), (32, .int _ _), (33, .int _ _), (34, .int _ _), (35, .int _ _)] rfl (W.seq' (W.rL (aI rfl rfl (eL (W.ty [(9, .bool _), (10, .lst _ _ _), (11, .lst _ _ _), (27, .lst _ _ _), (28, .ref _ _ _), (30, .int _ _), (31, .int _ _), (32, .int _ _), (33, .int _ _), (34, .int _ _), (35, .int _ _), (36, .int _ _)] rfl (W.block ?_))))))))))))
 obtain ⟨I8, μ8, hp, hv⟩ := hv
 refine W.loop2 (fun v35 v36 => ⟨322, look [(9, .bool true), (10, .lst false (serversM n).length (zYy zYx (serversM n))), (11, .lst false (jobsM23 ((serversM n).length : Int) x).length (zYy (e42 true) (jobsM23 ((serversM n).length : Int) x))), (27, .lst false ((jobsM23 ((serversM n).length : Int) x).take (min (((jobsM23 ((serversM n).length : Int) x).length : Nat) : Int) (4 : Int)).toNat).length (zYy (e42 true) ((jobsM23 ((serversM n).length : Int) x).take (min (((jobsM23 ((serversM n).length : Int) x).length : Nat) : Int) (4 : Int)).toNat))), (28, .ref false 1 r1_1.length), (30, .int .i64 v30), (31, .int .i64 ((finishM (serversM n) (((jobsM23 ((serversM n).length : Int) x).drop v30.toNat).take ((v30 + (1 : Int)).toNat - v30.toNat)) (0 : Int)).1)), (32, .int .i64 ((finishM (serversM n) (((jobsM23 ((serversM n).length : Int) x).drop v30.toNat).take ((v30 + (1 : Int)).toNat - v30.toNat)) (0 : Int)).2)), (33, .int .i64 ((finishM (serversM n) (jobsM23 ((serversM n).length : Int) x) v30).1)), (34, .int .i64 ((finishM (serversM n) (jobsM23 ((serversM n).length : Int) x) v30).2)), (35, .int .i64 v35), (36, .int .i64 v36)], [.dead, .row 3 1 (zYy zYx r1_1)], 0⟩) I8 μ8 ((lat (jobsM23 ((serversM n).length : Int) x) v30).ar) (0 : Int) (St.to_mk (φ := [none, some 1]) rfl (rfl) ⟨Ren.bool _, Ren.lst _ _ _, Ren.lst _ _ _, Ren.lst _ _ _, Ren.ref rfl id, Ren.int _ _, Ren.int _ _, Ren.int _ _, Ren.int _ _, Ren.int _ _, Ren.int _ _, Ren.int _ _, trivial⟩ ⟨rfl, zE zZw false r1_1 rfl, trivial⟩) hp ?_
 clear hp
 intro v35 v36 hI
 replace hv := hv v35 v36 hI
 clear hI
 refine W.seq' (W.rL (mI rfl rfl (mL rfl rfl (mI rfl rfl ?_))))
 obtain ⟨s803, hv⟩ := hv
 refine cL rfl (zYu tt26 tt42 rfl rfl (enc42.wd true) rfl s803 ?_)
 intro rest803
 refine cL rfl (o_faP tt42 rfl tt40 rfl (cL rfl (zZx (v := .lst _ _ _) tt40 rfl rfl ⟨_, rfl⟩ (cL rfl (zXw (v := .lst _ _ _) tt40 rfl rfl (cL rfl (zYq rfl rfl (eL (W.ty [(9, .bool _), (10, .lst _ _ _), (11, .lst _ _ _), (27, .lst _ _ _), (28, .ref _ _ _), (30, .int _ _), (31, .int _ _), (32, .int _ _), (33, .int _ _), (34, .int _ _), (35, .int _ _), (36, .int _ _), (273, .bool _)] rfl (W.cn rfl (fun hc => ?_) (fun hc => ?_)))))))))))
 have hv := hv.1 hc
 refine W.skip (zZ (W.ty [(9, .bool _), (10, .lst _ _ _), (11, .lst _ _ _), (27, .lst _ _ _), (28, .ref _ _ _), (30, .int _ _), (31, .int _ _), (32, .int _ _), (33, .int _ _), (34, .int _ _), (35, .int _ _), (36, .int _ _)] rfl (W.seq' (W.block (W.rL1 (mI rfl rfl (mL rfl rfl (mI rfl rfl ?_))))))))
 obtain ⟨s807, hv⟩ := hv
 refine cL rfl (zYu tt26 tt42 rfl rfl (enc42.wd true) rfl s807 ?_)
 intro rest807
 refine cL rfl (o_faP tt42 rfl tt40 rfl (cL rfl (zZx (v := .lst _ _ _) tt40 rfl rfl ⟨_, rfl⟩ (mI rfl rfl ?_))))
 obtain ⟨s808, hv⟩ := hv
 refine cL rfl (zYu tt40 tt45 rfl rfl (enc45.wd true) rfl s808 ?_)
 intro rest808
 refine cL rfl (o_faP tt45 rfl tt3 rfl (cL rfl (zZx (v := .int _ _) tt3 rfl rfl ⟨_, rfl⟩ ?_)))
 obtain ⟨s809, hv⟩ := hv
 refine cL rfl (o_add rfl rfl s809 (aI rfl rfl (eL (zYv (zZ (W.ty [(9, .bool _), (10, .lst _ _ _), (11, .lst _ _ _), (27, .lst _ _ _), (28, .ref _ _ _), (30, .int _ _), (31, .int _ _), (32, .int _ _), (33, .int _ _), (34, .int _ _), (35, .int _ _), (36, .int _ _)] rfl (W.rL1 (mI rfl rfl ?_))))))))
 obtain ⟨s810, hv⟩ := hv
 refine cL rfl (o_add rfl rfl s810 (aI rfl rfl (eL (zZ (⟨(), (v35 + ((lat ((lat (jobsM23 ((serversM n).length : Int) x) v30).wk) v36).tm)), (v36 + (1 : Int)), hv, St.to_mk (φ := [none, some 1]) rfl (rfl) ⟨Ren.bool _, Ren.lst _ _ _, Ren.lst _ _ _, Ren.lst _ _ _, Ren.ref rfl id, Ren.int _ _, Ren.int _ _, Ren.int _ _, Ren.int _ _, Ren.int _ _, Ren.int _ _, Ren.int _ _, trivial⟩ ⟨rfl, zE zZw false r1_1 rfl, trivial⟩⟩)))))
 have hv := hv.2 hc
 refine W.exit (zZt (zZt (zYs (zZ (W.ty [(9, .bool _), (10, .lst _ _ _), (11, .lst _ _ _), (27, .lst _ _ _), (28, .ref _ _ _), (30, .int _ _), (31, .int _ _), (32, .int _ _), (33, .int _ _), (34, .int _ _), (35, .int _ _)] rfl (W.seq' (W.rLm ⟨322, look [(9, .bool true), (10, .lst false (serversM n).length (zYy zYx (serversM n))), (11, .lst false (jobsM23 ((serversM n).length : Int) x).length (zYy (e42 true) (jobsM23 ((serversM n).length : Int) x))), (27, .lst false ((jobsM23 ((serversM n).length : Int) x).take (min (((jobsM23 ((serversM n).length : Int) x).length : Nat) : Int) (4 : Int)).toNat).length (zYy (e42 true) ((jobsM23 ((serversM n).length : Int) x).take (min (((jobsM23 ((serversM n).length : Int) x).length : Nat) : Int) (4 : Int)).toNat))), (28, .ref false 1 r1_1.length), (30, .int .i64 v30), (31, .int .i64 ((finishM (serversM n) (((jobsM23 ((serversM n).length : Int) x).drop v30.toNat).take ((v30 + (1 : Int)).toNat - v30.toNat)) (0 : Int)).1)), (302, .bool (decide ((¬ (finishM (serversM n) (((jobsM23 ((serversM n).length : Int) x).drop v30.toNat).take ((v30 + (1 : Int)).toNat - v30.toNat)) (0 : Int)).2 = (0 : Int)) \/ ((¬ (finishM (serversM n) (jobsM23 ((serversM n).length : Int) x) v30).2 = (0 : Int)) \/ ((¬ (finishM (serversM n) (((jobsM23 ((serversM n).length : Int) x).drop v30.toNat).take ((v30 + (1 : Int)).toNat - v30.toNat)) (0 : Int)).1 = v35) \/ (((finishM (serversM n) (jobsM23 ((serversM n).length : Int) x) v30).1) < ((finishM (serversM n) (((jobsM23 ((serversM n).length : Int) x).drop v30.toNat).take ((v30 + (1 : Int)).toNat - v30.toNat)) (0 : Int)).1)))))))], [.dead, .row 3 1 (zYy zYx r1_1)], 0⟩ ?_ ?_)))))))
 refine mI rfl rfl (cL rfl (o_neI rfl rfl rfl (mB rfl rfl ?_)))
 by_cases c1 : ¬ (finishM (serversM n) (((jobsM23 ((serversM n).length : Int) x).drop v30.toNat).take ((v30 + (1 : Int)).toNat - v30.toNat)) (0 : Int)).2 = (0 : Int)
 iterate 2 refine cLs rfl rfl rfl (dT c1) ?_
 refine cL rfl (zZv (v := .bool _) rfl (dT c1) rfl (mB rfl rfl ?_))
 iterate 3 refine cLs rfl rfl rfl (rfl) ?_
 refine cL rfl (zZv (v := .bool _) rfl rfl rfl (mB rfl rfl ?_))
 iterate 3 refine cLs rfl rfl rfl (rfl) ?_
 refine cL rfl (zZv (v := .bool _) rfl rfl rfl (eL (zYz ⟨rfl, rfl, rfl, rfl, rfl, rfl, rfl, (congrArg AV.bool (dOrT c1)).symm, trivial⟩ rfl)))
 refine cLg rfl rfl (dF c1) (mI rfl rfl (cLg rfl rfl (dF c1) (cL rfl (o_neI rfl rfl rfl (cL rfl (zZy (v := .bool _) rfl (dF c1) rfl (mB rfl rfl ?_)))))))
 by_cases c2 : ¬ (finishM (serversM n) (jobsM23 ((serversM n).length : Int) x) v30).2 = (0 : Int)
 iterate 3 refine cLs rfl rfl rfl (dT c2) ?_
 refine cL rfl (zZv (v := .bool _) rfl (dT c2) rfl (mB rfl rfl ?_))
 iterate 3 refine cLs rfl rfl rfl (rfl) ?_
 refine cL rfl (zZv (v := .bool _) rfl rfl rfl (eL (zYz ⟨rfl, rfl, rfl, rfl, rfl, rfl, rfl, (congrArg AV.bool (dOrF c1 (dOrT c2))).symm, trivial⟩ rfl)))
 refine cLg rfl rfl (dF c2) (mI rfl rfl (cLg rfl rfl (dF c2) (mI rfl rfl (cLg rfl rfl (dF c2) (cL rfl (o_neI rfl rfl rfl (cL rfl (zZy (v := .bool _) rfl (dF c2) rfl (mB rfl rfl ?_)))))))))
 by_cases c3 : ¬ (finishM (serversM n) (((jobsM23 ((serversM n).length : Int) x).drop v30.toNat).take ((v30 + (1 : Int)).toNat - v30.toNat)) (0 : Int)).1 = v35
 iterate 3 refine cLs rfl rfl rfl (dT c3) ?_
 refine cL rfl (zZv (v := .bool _) rfl (dT c3) rfl (eL (zYz ⟨rfl, rfl, rfl, rfl, rfl, rfl, rfl, (congrArg AV.bool (dOrF c1 (dOrF c2 (dOrT c3)))).symm, trivial⟩ rfl)))
 refine cLg rfl rfl (dF c3) (mI rfl rfl (cLg rfl rfl (dF c3) (mI rfl rfl (cLg rfl rfl (dF c3) (cL rfl (zYq rfl rfl (cL rfl (zZy (v := .bool _) rfl (dF c3) rfl (eL (zYz ⟨rfl, rfl, rfl, rfl, rfl, rfl, rfl, (congrArg AV.bool (dOrF c1 (dOrF c2 (dOrF c3 (rfl))))).symm, trivial⟩ rfl))))))))))
 refine W.cn rfl (fun hc => ?_) (fun hc => ?_)
 have hv := hv.1 hc
 refine W.rL (aB rfl rfl (eL (W.ty [(8, .bool _)] rfl (W.ret (zZr (zYt (zZr (zZr (zYt (zZr (rt (rt_t (v := .bool _) rfl (rt_n (⟨_, zYr _ _ _, false, rfl, hv⟩))))))))))))))
 have hv := hv.2 hc
 refine W.skip (zZ (W.ty [(9, .bool _), (10, .lst _ _ _), (11, .lst _ _ _), (27, .lst _ _ _), (28, .ref _ _ _), (30, .int _ _), (31, .int _ _)] rfl (W.rL (mI rfl rfl (mL rfl rfl (cL rfl (zXw (v := .lst _ _ _) tt26 rfl rfl (cL rfl (zYq rfl rfl (eL (W.ty [(9, .bool _), (10, .lst _ _ _), (11, .lst _ _ _), (27, .lst _ _ _), (28, .ref _ _ _), (30, .int _ _), (31, .int _ _), (306, .bool _)] rfl (W.cn rfl (fun hc => ?_) (fun hc => ?_)))))))))))))
 have hv := hv.1 hc
 refine W.rL (cL rfl (zZp (v := .ref _ _ _) rfl (mL rfl rfl (mI rfl rfl ?_))))
 obtain ⟨s811, s812, s813, hv⟩ := hv
 refine cL rfl (zZu (k := 14) (fst := []) (caps := []) (ys := [.ref _ _ _, .lst _ _ _, .int _ _]) rfl rfl (spec_finish r1_1 ((jobsM23 ((serversM n).length : Int) x).take (min (((jobsM23 ((serversM n).length : Int) x).length : Nat) : Int) (4 : Int)).toNat) v30 s811 s812 s813) (Wks.cons (ag_ref (fl := false) (xs := r1_1) zZw 4 _ rfl rfl) zk) (cL rfl (zZp (v := .tup _) rfl ?_)))
 iterate 2 refine cL rfl (o_ext (v := .int _ _) rfl rfl ?_)
 iterate 2 refine aI rfl rfl ?_
 refine eL (W.ty [(9, .bool _), (10, .lst _ _ _), (11, .lst _ _ _), (27, .lst _ _ _), (28, .ref _ _ _), (30, .int _ _), (31, .int _ _), (37, .int _ _), (38, .int _ _)] rfl (W.rLm ⟨322, look [(9, .bool true), (10, .lst false (serversM n).length (zYy zYx (serversM n))), (11, .lst false (jobsM23 ((serversM n).length : Int) x).length (zYy (e42 true) (jobsM23 ((serversM n).length : Int) x))), (27, .lst false ((jobsM23 ((serversM n).length : Int) x).take (min (((jobsM23 ((serversM n).length : Int) x).length : Nat) : Int) (4 : Int)).toNat).length (zYy (e42 true) ((jobsM23 ((serversM n).length : Int) x).take (min (((jobsM23 ((serversM n).length : Int) x).length : Nat) : Int) (4 : Int)).toNat))), (28, .ref false 1 r1_1.length), (30, .int .i64 v30), (320, .bool (decide ((¬ (finishM r1_1 ((jobsM23 ((serversM n).length : Int) x).take (min (((jobsM23 ((serversM n).length : Int) x).length : Nat) : Int) (4 : Int)).toNat) v30).2 = (0 : Int)) \/ (¬ (finishM r1_1 ((jobsM23 ((serversM n).length : Int) x).take (min (((jobsM23 ((serversM n).length : Int) x).length : Nat) : Int) (4 : Int)).toNat) v30).1 = (finishM (serversM n) (((jobsM23 ((serversM n).length : Int) x).drop v30.toNat).take ((v30 + (1 : Int)).toNat - v30.toNat)) (0 : Int)).1))))], [.dead, .row 3 1 (zYy zYx r1_1)], 0⟩ ?_ ?_))
 refine mI rfl rfl (cL rfl (o_neI rfl rfl rfl (mB rfl rfl ?_)))
 by_cases c1 : ¬ (finishM r1_1 ((jobsM23 ((serversM n).length : Int) x).take (min (((jobsM23 ((serversM n).length : Int) x).length : Nat) : Int) (4 : Int)).toNat) v30).2 = (0 : Int)
 iterate 3 refine cLs rfl rfl rfl (dT c1) ?_
 refine cL rfl (zZv (v := .bool _) rfl (dT c1) rfl (eL (zYz ⟨rfl, rfl, rfl, rfl, rfl, rfl, (congrArg AV.bool (dOrT c1)).symm, trivial⟩ rfl)))
 refine cLg rfl rfl (dF c1) (mI rfl rfl (cLg rfl rfl (dF c1) (mI rfl rfl (cLg rfl rfl (dF c1) (cL rfl (o_neI rfl rfl rfl (cL rfl (zZy (v := .bool _) rfl (dF c1) rfl (eL (zYz ⟨rfl, rfl, rfl, rfl, rfl, rfl, (congrArg AV.bool (dOrF c1 (rfl))).symm, trivial⟩ rfl))))))))))
 refine W.cn rfl (fun hc => ?_) (fun hc => ?_)
 have hv := hv.1 hc
 refine W.rL (aB rfl rfl (eL (W.ty [(8, .bool _)] rfl (W.ret (zYt (zZr (zZr (zYt (zZr (rt (rt_t (v := .bool _) rfl (rt_n (⟨_, zYr _ _ _, false, rfl, hv⟩)))))))))))))
 have hv := hv.2 hc
 refine W.skip (zYv (zZ (⟨(), hv, St.to_mk (φ := [none, some 1]) rfl (rfl) ⟨Ren.bool _, Ren.lst _ _ _, Ren.lst _ _ _, Ren.lst _ _ _, Ren.ref rfl id, Ren.int _ _, trivial⟩ ⟨rfl, zE zZw false r1_1 rfl, trivial⟩⟩)))
 have hv := hv.2 hc
 refine W.skip (zYv (zZ (⟨(), hv, St.to_mk (φ := [none, some 1]) rfl (rfl) ⟨Ren.bool _, Ren.lst _ _ _, Ren.lst _ _ _, Ren.lst _ _ _, Ren.ref rfl id, Ren.int _ _, trivial⟩ ⟨rfl, zE zZw false r1_1 rfl, trivial⟩⟩)))
 have hv := hv.2 hc
 refine W.exit (zZt (zZt (zYs (zZ (W.ty [(9, .bool _)] rfl (W.rL (mB rfl rfl (aB rfl rfl (eL (W.ty [(8, .bool _)] rfl (W.ret (rt (rt_t (v := .bool _) rfl (rt_n (⟨_, zYr _ _ _, true, rfl, hv⟩)))))))))))))))
set_option maxHeartbeats 4000000 in
theorem vcp_lawapart (n : Int) (x : (List (Vector Int 4))) (y : (List (Vector Int 4))) (by_ : Int) (h0 : inI n) (h1 : x.length <= 9223372036854775807 /\ ∀ z ∈ x, ∀ k, inI (vat z k)) (h2 : y.length <= 9223372036854775807 /\ ∀ z ∈ y, ∀ k, inI (vat z k)) (h3 : inI by_) : vc_lawapart n x y by_ (fun q0 => q0 = (true)) := by
  have hsl := servers_len n
  have hsv := made_servers n
  have hjm := made_jobs (m := ((serversM n).length : Int)) (by omega) x
  have hkm := (made_jobs (m := 1) (by omega) y).1
  have hd := zXz (c := by_) (n := 1000) (by omega)
  have vS := made_valid n x
  unfold vc_lawapart
  generalize jobsM23 1 y = K at *
  generalize jobsM23 ((serversM n).length : Int) x = J at *
  generalize serversM n = S at *
  generalize pickM by_ 1000 = d at *
  have wJ : ∀ j ∈ J, j.wk.length <= 9223372036854775807 := fun j hj => by have := (hjm.2 j hj).1; omega
  have S9 : S.length <= 9223372036854775807 := by omega
  have J9 : J.length <= 9223372036854775807 := by omega
  refine ⟨h0, by omega, h1.1, h1.2, h2.1, h2.2, by omega, fun js hg => ?_⟩
  obtain ⟨hjl, hjs⟩ := hg
  have hS2 : (S ++ [2]).length = S.length + 1 := by simp
  have hJ2 : (J ++ js).length = J.length + js.length := by simp
  have wB : ∀ j ∈ J ++ js, j.wk.length <= 9223372036854775807 := fun j hj => by
    rcases List.mem_append.1 hj with hj | hj
    . exact wJ j hj
    . have := (hjs j hj).2.1; omega
  have vB : validJ (S ++ [2]) (J ++ js) = true := valid_of ⟨by omega, by omega, by omega⟩ (fun k hk => by
    rcases List.mem_append.1 hk with hk | hk
    . have := hsv k hk; omega
    . have : k = 2 := by simpa using hk
      omega) fun j hj => by
    rcases List.mem_append.1 hj with hj | hj
    . have a := (hjm.2 j hj).1
      refine ⟨by omega, fun w hw => ?_⟩
      have := (hjm.2 j hj).2 w hw
      omega
    . obtain ⟨a, b, c⟩ := hjs j hj
      refine ⟨by omega, fun w hw => ?_⟩
      have := c w hw
      omega
  have hmore : More S (S ++ [2]) J (J ++ js) := ⟨by omega, fun q h1 h2 => by
      obtain ⟨k, rfl⟩ : ∃ k : Nat, q = k := ⟨q.toNat, by omega⟩
      exact lat_app_lt (by omega), by omega, fun k hk => lat_app_lt hk, fun k hk hk2 w hw => by
      have e : lat (J ++ js) (k : Int) ∈ js := by
        rw [lat_get hk2, List.getElem_append_right hk]
        exact List.getElem_mem _
      have := (hjs _ e).2.2 w hw
      omega⟩
  have htake := rows_take hmore vS vB
  have e1 : runR S J = (rowsM J.length (runM S J), 0) := by unfold runR; rw [if_pos vS]
  have e2 : runR (S ++ [2]) (J ++ js) = (rowsM (J ++ js).length (runM (S ++ [2]) (J ++ js)), 0) := by unfold runR; rw [if_pos vB]
  have lJ := runR_len S J
  have lB := runR_len (S ++ [2]) (J ++ js)
  rw [e1] at lJ
  rw [e2] at lB
  dsimp only at lJ lB
  have hLl : (J.map fun j : Job => (⟨j.ar + d, j.wk⟩ : Job)).length = J.length := by simp
  have vL : validJ S (J.map fun j : Job => (⟨j.ar + d, j.wk⟩ : Job)) = true := valid_of ⟨by omega, by omega, by omega⟩ (fun k hk => by have := hsv k hk; omega) fun j hj => by
    obtain ⟨j0, hj0, rfl⟩ := List.mem_map.1 hj
    have a := (hjm.2 j0 hj0).1
    refine ⟨⟨by show 0 <= j0.ar + d; omega, by show j0.ar + d <= _; omega, by show j0.wk.length <= 6; omega⟩, fun w hw => ?_⟩
    have := (hjm.2 j0 hj0).2 w hw
    omega
  have e3 : runR S (J.map fun j : Job => (⟨j.ar + d, j.wk⟩ : Job)) = (rowsM (J.map fun j : Job => (⟨j.ar + d, j.wk⟩ : Job)).length (runM S (J.map fun j : Job => (⟨j.ar + d, j.wk⟩ : Job))), 0) := by unfold runR; rw [if_pos vL]
  have hsh : ∀ i : Nat, i < J.length -> _ := fun i hi => rows_shift (d := d) hd.1 vS vL hLl (fun k hk => lat_map hk) hi
  have rJ : (rowsM J.length (runM S J)).length = J.length := rowsM_len _ _
  have rB : (rowsM (J ++ js).length (runM (S ++ [2]) (J ++ js))).length = J.length + js.length := by rw [rowsM_len, hJ2]
  have rL : (rowsM (J.map fun j : Job => (⟨j.ar + d, j.wk⟩ : Job)).length (runM S (J.map fun j : Job => (⟨j.ar + d, j.wk⟩ : Job)))).length = J.length := by rw [rowsM_len, hLl]
  have hvis : ∀ i : Nat, i < J.length -> ∀ k : Nat, k < (lat J (i : Int)).wk.length -> _ := fun i hi k hk => run_vis vS hi hk
  have hrl : ∀ i : Nat, i < J.length -> _ := fun i hi => run_len vS hi
  rw [e1, e2]
  dsimp only
  generalize rowsM J.length (runM S J) = RJ at *
  generalize rowsM (J ++ js).length (runM (S ++ [2]) (J ++ js)) = RB at *
  refine ⟨by omega, h3, S9, wJ, J9, by omega, by omega, by omega, by omega, by omega, wB, by omega, fun v r => ∃ i : Nat, v = i /\ i <= J.length /\ r = (J.take i).map fun j : Job => (⟨j.ar + d, j.wk⟩ : Job), fun v _ => J.length - v.toNat, ⟨0, rfl, by omega, by simp⟩, ?_⟩
  rintro _ _ ⟨i, rfl, hi, rfl⟩
  refine ⟨fun k1 => ?_, fun k1 => ?_⟩
  . have ix : 0 <= (i : Int) /\ (i : Int) < (J.length : Int) := ⟨by omega, k1⟩
    have hm := (hjm.2 _ (lat_mem (xs := J) ix)).1
    refine ⟨ix, by unfold inI; omega, ix, by simp; omega, by unfold inI; omega, ⟨i + 1, by omega, by omega, ?_⟩, dec_lt k1⟩
    rw [take_succ_lat (by omega), List.map_append]; rfl
  rw [List.take_of_length_le (by omega), e3]
  dsimp only
  generalize rowsM (J.map fun j : Job => (⟨j.ar + d, j.wk⟩ : Job)).length (runM S (J.map fun j : Job => (⟨j.ar + d, j.wk⟩ : Job))) = RL at *
  have htk : RJ = RB.take ((RJ.length : Int)).toNat := by rw [Int.toNat_natCast, rJ]; exact htake
  have c1 : (RJ.length : Int) = (J.length : Int) := by omega
  have c2 : (RB.length : Int) = (J.length : Int) + (js.length : Int) := by omega
  have c3 : (RL.length : Int) = (RJ.length : Int) := by omega
  refine ⟨S9, fun j hj => ?_, by omega, ⟨fun _ => trivial, fun _ => ⟨fun _ => trivial, fun _ => ⟨fun _ => trivial, fun _ => ⟨fun _ => trivial, fun _ => ⟨by unfold inI; omega, fun _ => trivial, fun _ => ⟨fun _ => trivial, fun _ => ⟨by omega, by omega, by rw [List.length_take]; omega, lJ.2, fun j hj => lB.2 j (List.mem_of_mem_take hj), trivial⟩⟩⟩⟩⟩⟩⟩, fun k2 => ?_, fun _ => ?_⟩
  . obtain ⟨j0, hj0, rfl⟩ := List.mem_map.1 hj
    exact wJ j0 hj0
  . rcases k2 with k2 | k2 | k2 | k2 | k2 | k2 | k2
    . exact absurd rfl k2
    . exact absurd rfl k2
    . exact absurd rfl k2
    . exact absurd c1 k2
    . exact absurd c2 k2
    . exact absurd c3 k2
    . exact absurd htk k2
  clear htk e1 e2 e3 k1 hi
  clear i
  refine ⟨fun v => ∃ i : Nat, v = i /\ i <= J.length, fun v => J.length - v.toNat, ⟨0, rfl, by omega⟩, ?_⟩
  rintro _ ⟨i, rfl, hi⟩
  refine ⟨fun k1 => ?_, fun _ => ?_⟩
  . have hi' : i < J.length := by omega
    have iL : 0 <= (i : Int) /\ (i : Int) < (RL.length : Int) := ⟨by omega, by omega⟩
    have iJ : 0 <= (i : Int) /\ (i : Int) < (RJ.length : Int) := ⟨by omega, by omega⟩
    have hs := hsh i hi'
    have hl := hrl i hi'
    have hll : ((lat RL (i : Int)).length : Int) = ((lat RJ (i : Int)).length : Int) := by rw [hs, List.length_map]
    have hw3 := (hjm.2 _ (lat_mem (xs := J) (i := (i : Int)) ⟨by omega, by omega⟩)).1.2.2
    refine ⟨iL, iJ, fun k2 => absurd hll k2, fun _ => ⟨fun v => ∃ k : Nat, v = k /\ k <= (lat RJ (i : Int)).length, fun v => (lat RJ (i : Int)).length - v.toNat, ⟨0, rfl, by omega⟩, ?_⟩⟩
    rintro _ ⟨k, rfl, hk⟩
    refine ⟨iJ, fun k2 => ?_, fun _ => ⟨by unfold inI; omega, ⟨i + 1, by omega, by omega⟩, dec_lt (show (i : Int) < (J.length : Int) by omega)⟩⟩
    have hk' : k < (lat RJ (i : Int)).length := by omega
    obtain ⟨v1, v2, v3, v4, v5⟩ := hvis i hi' k (by omega)
    have hv : lat (lat RL (i : Int)) (k : Int) = Vis.mk ((lat (lat RJ (i : Int)) (k : Int)).rd + d) ((lat (lat RJ (i : Int)) (k : Int)).st + d) ((lat (lat RJ (i : Int)) (k : Int)).en + d) := by
      rw [hs, lat_map hk']; rfl
    refine ⟨iJ, ⟨by omega, k2⟩, iL, ⟨by omega, by omega⟩, by unfold inI; omega, by unfold inI; omega, by unfold inI; omega, fun k3 => absurd hv k3, fun _ => ⟨by unfold inI; omega, ⟨k + 1, by omega, by omega⟩, dec_lt k2⟩⟩
  clear hsh hvis hrl htake
  refine ⟨by omega, by omega, fun v r => ∃ i : Nat, v = i /\ i <= S.length /\ r.length = S.length /\ ∀ q : Nat, q < i -> lat r (q : Int) = 4, fun v _ => S.length - v.toNat, ⟨0, rfl, by omega, by simp, fun q hq => by omega⟩, ?_⟩
  rintro _ r ⟨i, rfl, hi, hrl, hr⟩
  refine ⟨fun k1 => ?_, fun k1 => ?_⟩
  . have ix : 0 <= (i : Int) /\ (i : Int) < (r.length : Int) := ⟨by omega, k1⟩
    refine ⟨ix, by unfold inI; omega, ⟨i + 1, by omega, by omega, by rw [List.length_set]; exact hrl, fun q hq => ?_⟩, dec_lt (show (i : Int) < (S.length : Int) by omega)⟩
    rw [lat_set (l := r) (i := (i : Int)) (j := q) ⟨by omega, k1⟩]
    by_cases e : (q : Int) = (i : Int)
    . rw [if_pos e]
    . rw [if_neg e]; exact hr q (by omega)
  have hr4 : ∀ q : Nat, q < r.length -> lat r (q : Int) = 4 := fun q hq => hr q (by omega)
  have hrm : ∀ k ∈ r, 1 <= k /\ k <= 4 := fun k hk => by
    obtain ⟨q, hq, rfl⟩ := List.mem_iff_getElem.1 hk
    have := hr4 q hq
    rw [lat_get hq] at this
    omega
  clear hr k1 hi
  clear i
  have jobsOk : ∀ (sv : List Int), sv.length = S.length -> ∀ j ∈ J, (0 <= j.ar /\ j.ar <= 4398046511104 /\ j.wk.length <= 6) /\ ∀ w ∈ j.wk, 0 <= w.st /\ w.st <= (sv.length : Int) - 1 /\ 0 <= w.tm /\ w.tm <= 1099511627776 := fun sv hsv' j hj => by
    have a := (hjm.2 j hj).1
    refine ⟨by omega, fun w hw => ?_⟩
    have := (hjm.2 j hj).2 w hw
    omega
  have v4 : validJ r (J.take (min (J.length : Int) 4).toNat) = true := valid_of ⟨by omega, by omega, by rw [List.length_take]; omega⟩ hrm fun j hj => jobsOk r hrl j (List.mem_of_mem_take hj)
  have hf4 : (J.take (min (J.length : Int) 4).toNat).length = min J.length 4 := by rw [List.length_take]; omega
  refine ⟨fun v => ∃ i : Nat, v = i /\ i <= J.length, fun v => J.length - v.toNat, ⟨0, rfl, by omega⟩, ?_⟩
  rintro _ ⟨i, rfl, hi⟩
  refine ⟨fun k1 => ?_, fun _ => rfl⟩
  have hi' : i < J.length := by omega
  have ix : 0 <= (i : Int) /\ (i : Int) < (J.length : Int) := ⟨by omega, k1⟩
  have hm := lat_mem (xs := J) ix
  have hjj := hjm.2 _ hm
  have hone : (J.drop ((i : Int)).toNat).take (((i : Int) + 1).toNat - ((i : Int)).toNat) = [lat J (i : Int)] := by
    rw [show ((i : Int) + 1).toNat - ((i : Int)).toNat = 1 by omega, Int.toNat_natCast, List.drop_eq_getElem_cons hi', lat_get hi']
    rfl
  rw [hone]
  have v1 : validJ S [lat J (i : Int)] = true := valid_of ⟨by omega, by omega, by simp⟩ (fun k hk => by have := hsv k hk; omega) fun j hj => by
    have : j = lat J (i : Int) := by simpa using hj
    rw [this]; exact jobsOk S rfl _ hm
  have f1 : finishM S [lat J (i : Int)] 0 = ((lat J (i : Int)).ar + sumT (lat J (i : Int)) (lat J (i : Int)).wk.length, 0) :=
    fin_nowait (i := 0) v1 (fun q h1 h2 => by
      have := hsv _ (lat_mem (xs := S) ⟨h1, h2⟩)
      simp; omega) (by simp)
  have f2 := fin_ge vS hi'
  have f2o := fin_ok vS hi'
  have wT : ∀ k : Nat, k <= (lat J (i : Int)).wk.length -> 0 <= sumT (lat J (i : Int)) k /\ sumT (lat J (i : Int)) k <= 12 * (k : Int) := by
    intro k
    induction k with
    | zero => intro _; rw [sumT_zero]; omega
    | succ k ih =>
      intro hk
      rw [sumT_succ (by omega)]
      have := ih (by omega)
      have := hjj.2 _ (lat_mem (xs := (lat J (i : Int)).wk) (i := (k : Int)) ⟨by omega, by omega⟩)
      omega
  rw [f1]
  dsimp only
  refine ⟨True, fun _ => ⟨by unfold inI; omega, ⟨i + 1, by omega, by omega⟩, dec_lt k1⟩, by unfold inI; omega, by omega, S9, fun q hq => ?_, by simp, S9, wJ, J9, ix, fun a v => ∃ k : Nat, v = k /\ k <= (lat J (i : Int)).wk.length /\ a = (lat J (i : Int)).ar + sumT (lat J (i : Int)) k, fun _ v => (lat J (i : Int)).wk.length - v.toNat, ⟨0, rfl, by omega, by rw [sumT_zero]; omega⟩, ?_⟩
  . have : q = lat J (i : Int) := by simpa using hq
    rw [this]; exact wJ _ hm
  rintro a _ ⟨k, rfl, hk, rfl⟩
  refine ⟨ix, fun k2 => ?_, fun k2 => ?_⟩
  . have hk' : k < (lat J (i : Int)).wk.length := by omega
    have iw : 0 <= (k : Int) /\ (k : Int) < ((lat J (i : Int)).wk.length : Int) := ⟨by omega, k2⟩
    have := wT (k + 1) (by omega)
    rw [sumT_succ hk'] at this
    refine ⟨ix, iw, by unfold inI; omega, by unfold inI; omega, ⟨k + 1, by omega, by omega, ?_⟩, dec_lt k2⟩
    rw [sumT_succ hk']; omega
  . have ek : k = (lat J (i : Int)).wk.length := by omega
    subst ek
    refine ⟨fun k3 => ?_, fun _ => ⟨fun k4 => ?_, fun _ => trivial⟩⟩
    . rcases k3 with k3 | k3 | k3 | k3
      . exact absurd rfl k3
      . exact absurd f2o k3
      . exact absurd rfl k3
      . omega
    . have hi4 : i < (J.take (min (J.length : Int) 4).toNat).length := by omega
      have e4 : lat (J.take (min (J.length : Int) 4).toNat) (i : Int) = lat J (i : Int) := by
        rw [lat_get hi4, lat_get hi', List.getElem_take]
      have f4 := fin_nowait v4 (fun q h1 h2 => by
        obtain ⟨q, rfl⟩ : ∃ k : Nat, q = k := ⟨q.toNat, by omega⟩
        rw [hr4 q (by omega)]; omega) hi4
      rw [e4] at f4
      rw [f4]
      dsimp only
      refine ⟨by omega, fun q hq => wJ q (List.mem_of_mem_take hq), by omega, fun k5 => ?_, fun _ => trivial⟩
      rcases k5 with k5 | k5
      . exact absurd rfl k5
      . exact absurd rfl k5
theorem spec_lawapart (n : Int) (x : (List (Vector Int 4))) (y : (List (Vector Int 4))) (by_ : Int) (h0 : inI n) (h1 : x.length <= 9223372036854775807 /\ ∀ z ∈ x, ∀ k, inI (vat z k)) (h2 : y.length <= 9223372036854775807 /\ ∀ z ∈ y, ∀ k, inI (vat z k)) (h3 : inI by_) : FnP Try.prog 6 [.int .i64 n, .lst true x.length (zYy eV4 x), .lst true y.length (zYy eV4 y), .int .i64 by_] (fun xR => xR = .bool (true)) :=
  (walk_lawapart (vcp_lawapart n x y by_ h0 h1 h2 h3)).mono (by rintro _ ⟨_, rfl, rfl⟩; rfl)
end Go.Lat
