/- The law latecomerlaw23.ModelWorks returns true for every input, and each argument reads afterwards as it read before. Part 13 of 14. No condition. -/
import Derived.Test.YtcldekbjhmhgdaaLatF
import Derived.Test.YtcldekbjhmhgdaaLatD
import Derived.Test.YtcldekbjhmhgdaaLatK
import Derived.Test.YtcldekbjhmhgdaaLatL
import Derived.Test.YtcldekbjhmhgdaaLatG
set_option linter.unusedVariables false
set_option linter.unusedSimpArgs false
set_option linter.unnecessarySimpa false
set_option maxRecDepth 100000
set_option maxHeartbeats 4000000
namespace Go.Lat
open Go.RowKit Go.Proofs
attribute [local irreducible] seqL opC
def vc_lawwork (n : Int) (x : (List (Vector Int 4))) (Post : Bool -> Prop) : Prop :=
  (inI n) /\ (1 <= ((serversM n).length : Int) /\ ((serversM n).length : Int) <= 1000000) /\ (x.length <= 9223372036854775807) /\ (∀ y ∈ x, ∀ k, inI (vat y k)) /\ ((serversM n).length <= 9223372036854775807) /\ (∀ j ∈ (jobsM23 ((serversM n).length : Int) x), j.wk.length <= 9223372036854775807) /\ ((jobsM23 ((serversM n).length : Int) x).length <= 9223372036854775807) /\ ((jobsM23 ((serversM n).length : Int) x).length <= 24) /\ (∀ j ∈ (jobsM23 ((serversM n).length : Int) x), j.wk.length <= 6) /\ (((¬ (runR (serversM n) (jobsM23 ((serversM n).length : Int) x)).2 = (0 : Int)) \/ (¬ (((placesM (jobsM23 ((serversM n).length : Int) x) ((runR (serversM n) (jobsM23 ((serversM n).length : Int) x)).1)).2) = true))) -> Post false) /\ (¬ ((¬ (runR (serversM n) (jobsM23 ((serversM n).length : Int) x)).2 = (0 : Int)) \/ (¬ (((placesM (jobsM23 ((serversM n).length : Int) x) ((runR (serversM n) (jobsM23 ((serversM n).length : Int) x)).1)).2) = true))) -> ∃ (I1 : Int -> Prop) (μ1 : Int -> Nat), I1 (0 : Int) /\ ∀ (v12 : Int), I1 v12 -> ((v12 < (((jobsM23 ((serversM n).length : Int) x).length : Nat) : Int)) -> (0 <= v12 /\ v12 < ((jobsM23 ((serversM n).length : Int) x).length : Int)) /\ ∃ (I2 : Int -> Int -> Prop) (μ2 : Int -> Int -> Nat), I2 ((lat (jobsM23 ((serversM n).length : Int) x) v12).ar) (0 : Int) /\ ∀ (v13 : Int) (v14 : Int), I2 v13 v14 -> (0 <= v12 /\ v12 < (((runR (serversM n) (jobsM23 ((serversM n).length : Int) x)).1).length : Int)) /\ ((v14 < (((lat ((runR (serversM n) (jobsM23 ((serversM n).length : Int) x)).1) v12).length : Nat) : Int)) -> (0 <= v12 /\ v12 < (((runR (serversM n) (jobsM23 ((serversM n).length : Int) x)).1).length : Int)) /\ (0 <= v14 /\ v14 < ((lat ((runR (serversM n) (jobsM23 ((serversM n).length : Int) x)).1) v12).length : Int)) /\ (((¬ (lat (lat ((runR (serversM n) (jobsM23 ((serversM n).length : Int) x)).1) v12) v14).rd = v13) -> True) /\ (¬ (¬ (lat (lat ((runR (serversM n) (jobsM23 ((serversM n).length : Int) x)).1) v12) v14).rd = v13) -> ((((lat (lat ((runR (serversM n) (jobsM23 ((serversM n).length : Int) x)).1) v12) v14).st) < ((lat (lat ((runR (serversM n) (jobsM23 ((serversM n).length : Int) x)).1) v12) v14).rd)) -> True) /\ (¬ (((lat (lat ((runR (serversM n) (jobsM23 ((serversM n).length : Int) x)).1) v12) v14).st) < ((lat (lat ((runR (serversM n) (jobsM23 ((serversM n).length : Int) x)).1) v12) v14).rd)) -> (0 <= v12 /\ v12 < ((jobsM23 ((serversM n).length : Int) x).length : Int)) /\ (0 <= v14 /\ v14 < (((lat (jobsM23 ((serversM n).length : Int) x) v12).wk).length : Int)) /\ (inI (((lat (lat ((runR (serversM n) (jobsM23 ((serversM n).length : Int) x)).1) v12) v14).st) + ((lat ((lat (jobsM23 ((serversM n).length : Int) x) v12).wk) v14).tm))) /\ True))) /\ ((((¬ (lat (lat ((runR (serversM n) (jobsM23 ((serversM n).length : Int) x)).1) v12) v14).rd = v13) \/ ((((lat (lat ((runR (serversM n) (jobsM23 ((serversM n).length : Int) x)).1) v12) v14).st) < ((lat (lat ((runR (serversM n) (jobsM23 ((serversM n).length : Int) x)).1) v12) v14).rd)) \/ (¬ (lat (lat ((runR (serversM n) (jobsM23 ((serversM n).length : Int) x)).1) v12) v14).en = (((lat (lat ((runR (serversM n) (jobsM23 ((serversM n).length : Int) x)).1) v12) v14).st) + ((lat ((lat (jobsM23 ((serversM n).length : Int) x) v12).wk) v14).tm))))) -> Post false) /\ (¬ ((¬ (lat (lat ((runR (serversM n) (jobsM23 ((serversM n).length : Int) x)).1) v12) v14).rd = v13) \/ ((((lat (lat ((runR (serversM n) (jobsM23 ((serversM n).length : Int) x)).1) v12) v14).st) < ((lat (lat ((runR (serversM n) (jobsM23 ((serversM n).length : Int) x)).1) v12) v14).rd)) \/ (¬ (lat (lat ((runR (serversM n) (jobsM23 ((serversM n).length : Int) x)).1) v12) v14).en = (((lat (lat ((runR (serversM n) (jobsM23 ((serversM n).length : Int) x)).1) v12) v14).st) + ((lat ((lat (jobsM23 ((serversM n).length : Int) x) v12).wk) v14).tm))))) -> (inI (v14 + (1 : Int))) /\ (I2 ((lat (lat ((runR (serversM n) (jobsM23 ((serversM n).length : Int) x)).1) v12) v14).en) (v14 + (1 : Int)) /\ μ2 ((lat (lat ((runR (serversM n) (jobsM23 ((serversM n).length : Int) x)).1) v12) v14).en) (v14 + (1 : Int)) < μ2 v13 v14)))) /\ (¬ (v14 < (((lat ((runR (serversM n) (jobsM23 ((serversM n).length : Int) x)).1) v12).length : Nat) : Int)) -> ((serversM n).length <= 9223372036854775807) /\ (∀ q ∈ (jobsM23 ((serversM n).length : Int) x), q.wk.length <= 9223372036854775807) /\ ((jobsM23 ((serversM n).length : Int) x).length <= 9223372036854775807) /\ (((¬ (finishM (serversM n) (jobsM23 ((serversM n).length : Int) x) v12).2 = (0 : Int)) \/ (¬ (finishM (serversM n) (jobsM23 ((serversM n).length : Int) x) v12).1 = v13)) -> Post false) /\ (¬ ((¬ (finishM (serversM n) (jobsM23 ((serversM n).length : Int) x) v12).2 = (0 : Int)) \/ (¬ (finishM (serversM n) (jobsM23 ((serversM n).length : Int) x) v12).1 = v13)) -> (inI (v12 + (1 : Int))) /\ (I1 (v12 + (1 : Int)) /\ μ1 (v12 + (1 : Int)) < μ1 v12)))) /\ (¬ (v12 < (((jobsM23 ((serversM n).length : Int) x).length : Nat) : Int)) -> ∃ (I3 : Int -> Prop) (μ3 : Int -> Nat), I3 (0 : Int) /\ ∀ (v18 : Int), I3 v18 -> ((v18 < ((serversM n).length : Int)) -> ∃ (I4 : Int -> Int -> Prop) (μ4 : Int -> Int -> Nat), I4 (0 : Int) (0 : Int) /\ ∀ (v19 : Int) (v20 : Int), I4 v19 v20 -> ((v20 < ((((placesM (jobsM23 ((serversM n).length : Int) x) ((runR (serversM n) (jobsM23 ((serversM n).length : Int) x)).1)).1).length : Nat) : Int)) -> ∃ J5 : Int -> Prop, (∀ (v19_1 : Int), J5 v19_1 -> (inI (v20 + (1 : Int))) /\ (I4 v19_1 (v20 + (1 : Int)) /\ μ4 v19_1 (v20 + (1 : Int)) < μ4 v19 v20)) /\ ((0 <= v20 /\ v20 < (((placesM (jobsM23 ((serversM n).length : Int) x) ((runR (serversM n) (jobsM23 ((serversM n).length : Int) x)).1)).1).length : Int)) /\ ((¬ (lat ((placesM (jobsM23 ((serversM n).length : Int) x) ((runR (serversM n) (jobsM23 ((serversM n).length : Int) x)).1)).1) v20).s = v18) -> J5 v19) /\ (¬ (¬ (lat ((placesM (jobsM23 ((serversM n).length : Int) x) ((runR (serversM n) (jobsM23 ((serversM n).length : Int) x)).1)).1) v20).s = v18) -> (0 <= v20 /\ v20 < (((placesM (jobsM23 ((serversM n).length : Int) x) ((runR (serversM n) (jobsM23 ((serversM n).length : Int) x)).1)).1).length : Int)) /\ (inI (v19 + ((lat ((placesM (jobsM23 ((serversM n).length : Int) x) ((runR (serversM n) (jobsM23 ((serversM n).length : Int) x)).1)).1) v20).t))) /\ ∃ (I6 : Int -> Int -> Prop) (μ6 : Int -> Int -> Nat), I6 (0 : Int) (0 : Int) /\ ∀ (v21 : Int) (v22 : Int), I6 v21 v22 -> ((v22 < ((((placesM (jobsM23 ((serversM n).length : Int) x) ((runR (serversM n) (jobsM23 ((serversM n).length : Int) x)).1)).1).length : Nat) : Int)) -> ∃ J7 : Int -> Prop, (∀ (v21_1 : Int), J7 v21_1 -> (inI (v22 + (1 : Int))) /\ (I6 v21_1 (v22 + (1 : Int)) /\ μ6 v21_1 (v22 + (1 : Int)) < μ6 v21 v22)) /\ (((0 <= v22 /\ v22 < (((placesM (jobsM23 ((serversM n).length : Int) x) ((runR (serversM n) (jobsM23 ((serversM n).length : Int) x)).1)).1).length : Int)) /\ (((lat ((placesM (jobsM23 ((serversM n).length : Int) x) ((runR (serversM n) (jobsM23 ((serversM n).length : Int) x)).1)).1) v22).s = v18) -> (0 <= v22 /\ v22 < (((placesM (jobsM23 ((serversM n).length : Int) x) ((runR (serversM n) (jobsM23 ((serversM n).length : Int) x)).1)).1).length : Int)) /\ (0 <= v20 /\ v20 < (((placesM (jobsM23 ((serversM n).length : Int) x) ((runR (serversM n) (jobsM23 ((serversM n).length : Int) x)).1)).1).length : Int)) /\ (((((lat ((placesM (jobsM23 ((serversM n).length : Int) x) ((runR (serversM n) (jobsM23 ((serversM n).length : Int) x)).1)).1) v22).v).st) <= (((lat ((placesM (jobsM23 ((serversM n).length : Int) x) ((runR (serversM n) (jobsM23 ((serversM n).length : Int) x)).1)).1) v20).v).st)) -> (0 <= v22 /\ v22 < (((placesM (jobsM23 ((serversM n).length : Int) x) ((runR (serversM n) (jobsM23 ((serversM n).length : Int) x)).1)).1).length : Int)) /\ (0 <= v20 /\ v20 < (((placesM (jobsM23 ((serversM n).length : Int) x) ((runR (serversM n) (jobsM23 ((serversM n).length : Int) x)).1)).1).length : Int)) /\ True) /\ (¬ ((((lat ((placesM (jobsM23 ((serversM n).length : Int) x) ((runR (serversM n) (jobsM23 ((serversM n).length : Int) x)).1)).1) v22).v).st) <= (((lat ((placesM (jobsM23 ((serversM n).length : Int) x) ((runR (serversM n) (jobsM23 ((serversM n).length : Int) x)).1)).1) v20).v).st)) -> True)) /\ (¬ ((lat ((placesM (jobsM23 ((serversM n).length : Int) x) ((runR (serversM n) (jobsM23 ((serversM n).length : Int) x)).1)).1) v22).s = v18) -> True)) /\ (((((lat ((placesM (jobsM23 ((serversM n).length : Int) x) ((runR (serversM n) (jobsM23 ((serversM n).length : Int) x)).1)).1) v22).s = v18) /\ (((((lat ((placesM (jobsM23 ((serversM n).length : Int) x) ((runR (serversM n) (jobsM23 ((serversM n).length : Int) x)).1)).1) v22).v).st) <= (((lat ((placesM (jobsM23 ((serversM n).length : Int) x) ((runR (serversM n) (jobsM23 ((serversM n).length : Int) x)).1)).1) v20).v).st)) /\ ((((lat ((placesM (jobsM23 ((serversM n).length : Int) x) ((runR (serversM n) (jobsM23 ((serversM n).length : Int) x)).1)).1) v20).v).st) < (((lat ((placesM (jobsM23 ((serversM n).length : Int) x) ((runR (serversM n) (jobsM23 ((serversM n).length : Int) x)).1)).1) v22).v).en)))) -> (inI (v21 + (1 : Int))) /\ J7 (v21 + (1 : Int))) /\ (¬ (((lat ((placesM (jobsM23 ((serversM n).length : Int) x) ((runR (serversM n) (jobsM23 ((serversM n).length : Int) x)).1)).1) v22).s = v18) /\ (((((lat ((placesM (jobsM23 ((serversM n).length : Int) x) ((runR (serversM n) (jobsM23 ((serversM n).length : Int) x)).1)).1) v22).v).st) <= (((lat ((placesM (jobsM23 ((serversM n).length : Int) x) ((runR (serversM n) (jobsM23 ((serversM n).length : Int) x)).1)).1) v20).v).st)) /\ ((((lat ((placesM (jobsM23 ((serversM n).length : Int) x) ((runR (serversM n) (jobsM23 ((serversM n).length : Int) x)).1)).1) v20).v).st) < (((lat ((placesM (jobsM23 ((serversM n).length : Int) x) ((runR (serversM n) (jobsM23 ((serversM n).length : Int) x)).1)).1) v22).v).en)))) -> J7 v21)))) /\ (¬ (v22 < ((((placesM (jobsM23 ((serversM n).length : Int) x) ((runR (serversM n) (jobsM23 ((serversM n).length : Int) x)).1)).1).length : Nat) : Int)) -> (0 <= v18 /\ v18 < ((serversM n).length : Int)) /\ (((lat (serversM n) v18) < v21) -> Post false) /\ (¬ ((lat (serversM n) v18) < v21) -> J5 (v19 + ((lat ((placesM (jobsM23 ((serversM n).length : Int) x) ((runR (serversM n) (jobsM23 ((serversM n).length : Int) x)).1)).1) v20).t))))))) /\ (¬ (v20 < ((((placesM (jobsM23 ((serversM n).length : Int) x) ((runR (serversM n) (jobsM23 ((serversM n).length : Int) x)).1)).1).length : Nat) : Int)) -> ((serversM n).length <= 9223372036854775807) /\ (∀ j ∈ (jobsM23 ((serversM n).length : Int) x), j.wk.length <= 9223372036854775807) /\ ((jobsM23 ((serversM n).length : Int) x).length <= 9223372036854775807) /\ ((serversM n).length <= 9223372036854775807) /\ (∀ j ∈ (jobsM23 ((serversM n).length : Int) x), j.wk.length <= 9223372036854775807) /\ ((jobsM23 ((serversM n).length : Int) x).length <= 9223372036854775807) /\ ((serversM n).length <= 9223372036854775807) /\ (∀ j ∈ (jobsM23 ((serversM n).length : Int) x), j.wk.length <= 9223372036854775807) /\ ((jobsM23 ((serversM n).length : Int) x).length <= 9223372036854775807) /\ (((¬ (busyM (serversM n) (jobsM23 ((serversM n).length : Int) x) v18 (0 : Int) (1125899906842624 : Int)).2 = (0 : Int)) -> True) /\ (¬ (¬ (busyM (serversM n) (jobsM23 ((serversM n).length : Int) x) v18 (0 : Int) (1125899906842624 : Int)).2 = (0 : Int)) -> ((¬ (busyM (serversM n) (jobsM23 ((serversM n).length : Int) x) v18 (0 : Int) (20 : Int)).2 = (0 : Int)) -> True) /\ (¬ (¬ (busyM (serversM n) (jobsM23 ((serversM n).length : Int) x) v18 (0 : Int) (20 : Int)).2 = (0 : Int)) -> ((¬ (busyM (serversM n) (jobsM23 ((serversM n).length : Int) x) v18 (20 : Int) (1125899906842624 : Int)).2 = (0 : Int)) -> True) /\ (¬ (¬ (busyM (serversM n) (jobsM23 ((serversM n).length : Int) x) v18 (20 : Int) (1125899906842624 : Int)).2 = (0 : Int)) -> ((¬ (busyM (serversM n) (jobsM23 ((serversM n).length : Int) x) v18 (0 : Int) (1125899906842624 : Int)).1 = v19) -> True) /\ (¬ (¬ (busyM (serversM n) (jobsM23 ((serversM n).length : Int) x) v18 (0 : Int) (1125899906842624 : Int)).1 = v19) -> (inI (((busyM (serversM n) (jobsM23 ((serversM n).length : Int) x) v18 (0 : Int) (20 : Int)).1) + ((busyM (serversM n) (jobsM23 ((serversM n).length : Int) x) v18 (20 : Int) (1125899906842624 : Int)).1))) /\ ((¬ (((busyM (serversM n) (jobsM23 ((serversM n).length : Int) x) v18 (0 : Int) (20 : Int)).1) + ((busyM (serversM n) (jobsM23 ((serversM n).length : Int) x) v18 (20 : Int) (1125899906842624 : Int)).1)) = v19) -> True) /\ (¬ (¬ (((busyM (serversM n) (jobsM23 ((serversM n).length : Int) x) v18 (0 : Int) (20 : Int)).1) + ((busyM (serversM n) (jobsM23 ((serversM n).length : Int) x) v18 (20 : Int) (1125899906842624 : Int)).1)) = v19) -> (0 <= v18 /\ v18 < ((serversM n).length : Int)) /\ (inI ((20 : Int) * (lat (serversM n) v18))) /\ True)))))) /\ ((((¬ (busyM (serversM n) (jobsM23 ((serversM n).length : Int) x) v18 (0 : Int) (1125899906842624 : Int)).2 = (0 : Int)) \/ ((¬ (busyM (serversM n) (jobsM23 ((serversM n).length : Int) x) v18 (0 : Int) (20 : Int)).2 = (0 : Int)) \/ ((¬ (busyM (serversM n) (jobsM23 ((serversM n).length : Int) x) v18 (20 : Int) (1125899906842624 : Int)).2 = (0 : Int)) \/ ((¬ (busyM (serversM n) (jobsM23 ((serversM n).length : Int) x) v18 (0 : Int) (1125899906842624 : Int)).1 = v19) \/ ((¬ (((busyM (serversM n) (jobsM23 ((serversM n).length : Int) x) v18 (0 : Int) (20 : Int)).1) + ((busyM (serversM n) (jobsM23 ((serversM n).length : Int) x) v18 (20 : Int) (1125899906842624 : Int)).1)) = v19) \/ (((20 : Int) * (lat (serversM n) v18)) < ((busyM (serversM n) (jobsM23 ((serversM n).length : Int) x) v18 (0 : Int) (20 : Int)).1))))))) -> Post false) /\ (¬ ((¬ (busyM (serversM n) (jobsM23 ((serversM n).length : Int) x) v18 (0 : Int) (1125899906842624 : Int)).2 = (0 : Int)) \/ ((¬ (busyM (serversM n) (jobsM23 ((serversM n).length : Int) x) v18 (0 : Int) (20 : Int)).2 = (0 : Int)) \/ ((¬ (busyM (serversM n) (jobsM23 ((serversM n).length : Int) x) v18 (20 : Int) (1125899906842624 : Int)).2 = (0 : Int)) \/ ((¬ (busyM (serversM n) (jobsM23 ((serversM n).length : Int) x) v18 (0 : Int) (1125899906842624 : Int)).1 = v19) \/ ((¬ (((busyM (serversM n) (jobsM23 ((serversM n).length : Int) x) v18 (0 : Int) (20 : Int)).1) + ((busyM (serversM n) (jobsM23 ((serversM n).length : Int) x) v18 (20 : Int) (1125899906842624 : Int)).1)) = v19) \/ (((20 : Int) * (lat (serversM n) v18)) < ((busyM (serversM n) (jobsM23 ((serversM n).length : Int) x) v18 (0 : Int) (20 : Int)).1))))))) -> (inI (v18 + (1 : Int))) /\ (I3 (v18 + (1 : Int)) /\ μ3 (v18 + (1 : Int)) < μ3 v18))))) /\ (¬ (v18 < ((serversM n).length : Int)) -> Post true)))
theorem walk_lawwork {n : Int} {x : (List (Vector Int 4))} {Post : Bool -> Prop} (hv : vc_lawwork n x Post) : FnP Try.prog 4 [.int .i64 n, .lst true x.length (zYy eV4 x)] (fun x => ∃ q0, x = .bool q0 /\ Post q0) := by
 refine FnP.of_walk (T := tt) (nt := 255) ttOk ttMix ⟨⟨Try.f4, Try.func4, rfl, rfl, rfl, rfl⟩⟩ (by simp) ?_
 unfold vc_lawwork at hv
 change W _ _ _ ⟨255, look [(0, .int .i64 n), (1, .lst true x.length (zYy eV4 x))], [], 0⟩ _
 refine W.ty [(0, .int _ _), (1, .lst _ _ _)] rfl (W.rL (aB rfl rfl (eL (W.ty [(0, .int _ _), (1, .lst _ _ _)] rfl (W.rL (cL rfl (zZu (k := 9) (fst := []) (caps := []) (ys := []) rfl rfl (spec_sane) zk (aB rfl rfl (eL (W.ty [(0, .int _ _), (1, .lst _ _ _), (5, .bool _)] rfl (W.rL (mI rfl rfl ?_))))))))))))
 obtain ⟨s1, hv⟩ := hv
 refine cL rfl (zZu (k := 10) (fst := []) (caps := []) (ys := [.int _ _]) rfl rfl (spec_servers n s1) zk (aL rfl rfl (eL (W.ty [(1, .lst _ _ _), (5, .bool _), (6, .lst _ _ _)] rfl (W.rL (mL rfl rfl (cL rfl (zXw (v := .lst _ _ _) tt24 rfl rfl (mL rfl rfl ?_)))))))))
 obtain ⟨s2, s3, s4, hv⟩ := hv
 refine cL rfl (zZu (k := 11) (fst := []) (caps := []) (ys := [.int _ _, .lst _ _ _]) rfl rfl (spec_jobs ((serversM n).length : Int) x s2 s3 s4) zk (aL rfl rfl (eL (W.ty [(5, .bool _), (6, .lst _ _ _), (7, .lst _ _ _)] rfl (W.rL ?_)))))
 iterate 2 refine mL rfl rfl ?_
 obtain ⟨s5, s6, s7, hv⟩ := hv
 refine cL rfl (zZu (k := 12) (fst := []) (caps := []) (ys := [.lst _ _ _, .lst _ _ _]) rfl rfl (spec_mrun (serversM n) (jobsM23 ((serversM n).length : Int) x) s5 s6 s7) zk (cL rfl (zZp (v := .tup _) rfl (cL rfl (o_ext (v := .lst _ _ _) rfl rfl (cL rfl (o_ext (v := .int _ _) rfl rfl (aL rfl rfl (aI rfl rfl (eL (W.ty [(5, .bool _), (6, .lst _ _ _), (7, .lst _ _ _), (8, .lst _ _ _), (9, .int _ _)] rfl (W.rL ?_))))))))))))
 iterate 2 refine mL rfl rfl ?_
 obtain ⟨s8, s9, hv⟩ := hv
 refine cL rfl (zZu (k := 13) (fst := []) (caps := []) (ys := [.lst _ _ _, .lst _ _ _]) rfl rfl (spec_places (jobsM23 ((serversM n).length : Int) x) ((runR (serversM n) (jobsM23 ((serversM n).length : Int) x)).1) s8 s9) zk (cL rfl (zZp (v := .tup _) rfl (cL rfl (o_ext (v := .lst _ _ _) rfl rfl (cL rfl (o_ext (v := .bool _) rfl rfl (aL rfl rfl (aB rfl rfl (eL (W.ty [(5, .bool _), (6, .lst _ _ _), (7, .lst _ _ _), (8, .lst _ _ _), (9, .int _ _), (10, .lst _ _ _), (11, .bool _)] rfl (W.seq' (W.rLm ⟨255, look [(5, .bool true), (6, .lst false (serversM n).length (zYy zYx (serversM n))), (7, .lst false (jobsM23 ((serversM n).length : Int) x).length (zYy (e42 true) (jobsM23 ((serversM n).length : Int) x))), (8, .lst false ((runR (serversM n) (jobsM23 ((serversM n).length : Int) x)).1).length (zYy (eSl e36 true) ((runR (serversM n) (jobsM23 ((serversM n).length : Int) x)).1))), (10, .lst false ((placesM (jobsM23 ((serversM n).length : Int) x) ((runR (serversM n) (jobsM23 ((serversM n).length : Int) x)).1)).1).length (zYy e38 ((placesM (jobsM23 ((serversM n).length : Int) x) ((runR (serversM n) (jobsM23 ((serversM n).length : Int) x)).1)).1))), (53, .bool (decide ((¬ (runR (serversM n) (jobsM23 ((serversM n).length : Int) x)).2 = (0 : Int)) \/ (¬ (((placesM (jobsM23 ((serversM n).length : Int) x) ((runR (serversM n) (jobsM23 ((serversM n).length : Int) x)).1)).2) = true)))))], [], 0⟩ ?_ ?_)))))))))))))
 refine mI rfl rfl (cL rfl (o_neI rfl rfl rfl (mB rfl rfl ?_)))
 by_cases c1 : ¬ (runR (serversM n) (jobsM23 ((serversM n).length : Int) x)).2 = (0 : Int)
 iterate 2 refine cLs rfl rfl rfl (dT c1) ?_
 refine cL rfl (zZv (v := .bool _) rfl (dT c1) rfl (eL (zYz ⟨rfl, rfl, rfl, rfl, rfl, (congrArg AV.bool (dOrT c1)).symm, trivial⟩ rfl)))
 refine cLg rfl rfl (dF c1) (mB rfl rfl (cLg rfl rfl (dF c1) (cL rfl (o_notB rfl (cL rfl (zZy (v := .bool _) rfl (dF c1) rfl (eL (zYz ⟨rfl, rfl, rfl, rfl, rfl, (congrArg AV.bool (dOrF c1 (rfl))).symm, trivial⟩ rfl))))))))
 refine W.cn rfl (fun hc => ?_) (fun hc => ?_)
 have hv := hv.1 hc
 refine W.rL (aB rfl rfl (eL (W.ty [(4, .bool _)] rfl (W.ret (zZr (rt (rt_t (v := .bool _) rfl (rt_n (⟨_, zYr _ _ _, false, rfl, hv⟩)))))))))
 have hv := hv.2 hc
 refine W.skip (zZ (W.ty [(5, .bool _), (6, .lst _ _ _), (7, .lst _ _ _), (8, .lst _ _ _), (10, .lst _ _ _)] rfl (W.seq' (W.rL (aI rfl rfl (eL (W.ty [(5, .bool _), (6, .lst _ _ _), (7, .lst _ _ _), (8, .lst _ _ _), (10, .lst _ _ _), (12, .int _ _)] rfl (W.block ?_))))))))
 obtain ⟨I1, μ1, hp, hv⟩ := hv
 refine W.loop1 (fun v12 => ⟨255, look [(5, .bool true), (6, .lst false (serversM n).length (zYy zYx (serversM n))), (7, .lst false (jobsM23 ((serversM n).length : Int) x).length (zYy (e42 true) (jobsM23 ((serversM n).length : Int) x))), (8, .lst false ((runR (serversM n) (jobsM23 ((serversM n).length : Int) x)).1).length (zYy (eSl e36 true) ((runR (serversM n) (jobsM23 ((serversM n).length : Int) x)).1))), (10, .lst false ((placesM (jobsM23 ((serversM n).length : Int) x) ((runR (serversM n) (jobsM23 ((serversM n).length : Int) x)).1)).1).length (zYy e38 ((placesM (jobsM23 ((serversM n).length : Int) x) ((runR (serversM n) (jobsM23 ((serversM n).length : Int) x)).1)).1))), (12, .int .i64 v12)], [], 0⟩) I1 μ1 (0 : Int) (St.to_mk (φ := []) rfl (rfl) (zT rfl rfl) trivial) hp ?_
 clear hp
 intro v12 hI
 replace hv := hv v12 hI
 clear hI
 refine W.seq' (W.rL (mI rfl rfl (mL rfl rfl (cL rfl (zXw (v := .lst _ _ _) tt26 rfl rfl (cL rfl (zYq rfl rfl (eL (W.ty [(5, .bool _), (6, .lst _ _ _), (7, .lst _ _ _), (8, .lst _ _ _), (10, .lst _ _ _), (12, .int _ _), (57, .bool _)] rfl (W.cn rfl (fun hc => ?_) (fun hc => ?_)))))))))))
 have hv := hv.1 hc
 refine W.skip (zZ (W.ty [(5, .bool _), (6, .lst _ _ _), (7, .lst _ _ _), (8, .lst _ _ _), (10, .lst _ _ _), (12, .int _ _)] rfl (W.seq' (W.block (W.rL (mL rfl rfl (mI rfl rfl ?_)))))))
 obtain ⟨s909, hv⟩ := hv
 refine cL rfl (zYu tt26 tt42 rfl rfl (enc42.wd true) rfl s909 ?_)
 intro rest909
 refine cL rfl (o_faP tt42 rfl tt3 rfl (cL rfl (zZx (v := .int _ _) tt3 rfl rfl ⟨_, rfl⟩ (aI rfl rfl (eL (W.ty [(5, .bool _), (6, .lst _ _ _), (7, .lst _ _ _), (8, .lst _ _ _), (10, .lst _ _ _), (12, .int _ _), (13, .int _ _)] rfl (W.seq' (W.rL (aI rfl rfl (eL (W.ty [(5, .bool _), (6, .lst _ _ _), (7, .lst _ _ _), (8, .lst _ _ _), (10, .lst _ _ _), (12, .int _ _), (13, .int _ _), (14, .int _ _)] rfl (W.block ?_))))))))))))
 obtain ⟨I2, μ2, hp, hv⟩ := hv
 refine W.loop2 (fun v13 v14 => ⟨255, look [(5, .bool true), (6, .lst false (serversM n).length (zYy zYx (serversM n))), (7, .lst false (jobsM23 ((serversM n).length : Int) x).length (zYy (e42 true) (jobsM23 ((serversM n).length : Int) x))), (8, .lst false ((runR (serversM n) (jobsM23 ((serversM n).length : Int) x)).1).length (zYy (eSl e36 true) ((runR (serversM n) (jobsM23 ((serversM n).length : Int) x)).1))), (10, .lst false ((placesM (jobsM23 ((serversM n).length : Int) x) ((runR (serversM n) (jobsM23 ((serversM n).length : Int) x)).1)).1).length (zYy e38 ((placesM (jobsM23 ((serversM n).length : Int) x) ((runR (serversM n) (jobsM23 ((serversM n).length : Int) x)).1)).1))), (12, .int .i64 v12), (13, .int .i64 v13), (14, .int .i64 v14)], [], 0⟩) I2 μ2 ((lat (jobsM23 ((serversM n).length : Int) x) v12).ar) (0 : Int) (St.to_mk (φ := []) rfl (rfl) (zT rfl rfl) trivial) hp ?_
 clear hp
 intro v13 v14 hI
 replace hv := hv v13 v14 hI
 clear hI
 refine W.seq' (W.rL (mI rfl rfl (mL rfl rfl (mI rfl rfl ?_))))
 obtain ⟨s1004, hv⟩ := hv
 refine cL rfl (zYu tt28 tt43 rfl rfl ((encSl e36).wd true) rfl s1004 ?_)
 intro rest1004
 refine cL rfl (zZx (v := .lst _ _ _) tt43 rfl rfl ⟨_, rfl⟩ (cL rfl (zXw (v := .lst _ _ _) tt43 rfl rfl (cL rfl (zYq rfl rfl (eL (W.ty [(5, .bool _), (6, .lst _ _ _), (7, .lst _ _ _), (8, .lst _ _ _), (10, .lst _ _ _), (12, .int _ _), (13, .int _ _), (14, .int _ _), (71, .bool _)] rfl (W.cn rfl (fun hc => ?_) (fun hc => ?_)))))))))
 have hv := hv.1 hc
 refine W.skip (zZ (W.ty [(5, .bool _), (6, .lst _ _ _), (7, .lst _ _ _), (8, .lst _ _ _), (10, .lst _ _ _), (12, .int _ _), (13, .int _ _), (14, .int _ _)] rfl (W.seq' (W.block (W.rL (mL rfl rfl (mI rfl rfl ?_)))))))
 obtain ⟨s1019, hv⟩ := hv
 refine cL rfl (zYu tt28 tt43 rfl rfl ((encSl e36).wd true) rfl s1019 ?_)
 intro rest1019
 refine cL rfl (zZx (v := .lst _ _ _) tt43 rfl rfl ⟨_, rfl⟩ (mI rfl rfl ?_))
 obtain ⟨s1020, hv⟩ := hv
 refine cL rfl (zYu tt43 tt36 rfl rfl (enc36.wd true) rfl s1020 ?_)
 intro rest1020
 refine cL rfl (zYp (cs := [.int _ _, .int _ _, .int _ _]) tt36 rfl rfl ⟨_, rfl⟩ rfl (cL rfl (zXy (p := 0) tt36 rfl rfl (cLn (o_stB (v := .agg _) (vs := [.int _ _, .int _ _, .int _ _]) (cs2 := [.int _ _, .int _ _, .int _ _]) tt36 rfl rfl rfl rfl rfl (Nat.le_of_ble_eq_true rfl) rfl (eL (W.ty [(5, .bool _), (6, .lst _ _ _), (7, .lst _ _ _), (8, .lst _ _ _), (10, .lst _ _ _), (12, .int _ _), (13, .int _ _), (14, .int _ _), (15, .ptr _ _)] rfl (W.seq' ?_))))))))
 obtain ⟨sd, hv⟩ := hv
 refine W.rDm ⟨255, look [(5, .bool true), (6, .lst false (serversM n).length (zYy zYx (serversM n))), (7, .lst false (jobsM23 ((serversM n).length : Int) x).length (zYy (e42 true) (jobsM23 ((serversM n).length : Int) x))), (8, .lst false ((runR (serversM n) (jobsM23 ((serversM n).length : Int) x)).1).length (zYy (eSl e36 true) ((runR (serversM n) (jobsM23 ((serversM n).length : Int) x)).1))), (10, .lst false ((placesM (jobsM23 ((serversM n).length : Int) x) ((runR (serversM n) (jobsM23 ((serversM n).length : Int) x)).1)).1).length (zYy e38 ((placesM (jobsM23 ((serversM n).length : Int) x) ((runR (serversM n) (jobsM23 ((serversM n).length : Int) x)).1)).1))), (12, .int .i64 v12), (14, .int .i64 v14), (15, .ptr 0 0), (108, .bool (decide ((¬ (lat (lat ((runR (serversM n) (jobsM23 ((serversM n).length : Int) x)).1) v12) v14).rd = v13) \/ ((((lat (lat ((runR (serversM n) (jobsM23 ((serversM n).length : Int) x)).1) v12) v14).st) < ((lat (lat ((runR (serversM n) (jobsM23 ((serversM n).length : Int) x)).1) v12) v14).rd)) \/ (¬ (lat (lat ((runR (serversM n) (jobsM23 ((serversM n).length : Int) x)).1) v12) v14).en = (((lat (lat ((runR (serversM n) (jobsM23 ((serversM n).length : Int) x)).1) v12) v14).st) + ((lat ((lat (jobsM23 ((serversM n).length : Int) x) v12).wk) v14).tm)))))))], [.box 36 [.int .i64 ((lat (lat ((runR (serversM n) (jobsM23 ((serversM n).length : Int) x)).1) v12) v14).rd), .int .i64 ((lat (lat ((runR (serversM n) (jobsM23 ((serversM n).length : Int) x)).1) v12) v14).st), .int .i64 ((lat (lat ((runR (serversM n) (jobsM23 ((serversM n).length : Int) x)).1) v12) v14).en)]], 0⟩ [0, 1, 2, 3, 4, 5, 6, 7, 8, 9, 10, 11, 12, 13, 14, 15, 16, 17, 18, 19, 20, 21, 22, 23, 24, 25, 26, 27] (by decide +kernel) rfl ?_ ?_
 refine cL rfl (o_fa tt36 rfl tt3 rfl (cL rfl (zZx (v := .int _ _) tt3 rfl rfl ⟨_, rfl⟩ (mI rfl rfl (cL rfl (o_neI rfl rfl rfl (mB rfl rfl ?_)))))))
 by_cases c1 : ¬ (lat (lat ((runR (serversM n) (jobsM23 ((serversM n).length : Int) x)).1) v12) v14).rd = v13
 iterate 5 refine cLs rfl rfl rfl (dT c1) ?_
 refine cL rfl (zZv (v := .bool _) rfl (dT c1) rfl (mB rfl rfl ?_))
 iterate 15 refine cLs rfl rfl rfl (rfl) ?_
 refine cL rfl (zZv (v := .bool _) rfl rfl rfl (eL (zYz ⟨rfl, rfl, rfl, rfl, rfl, rfl, rfl, rfl, (congrArg AV.bool (dOrT c1)).symm, trivial⟩ rfl)))
 have sd := sd.2 c1
 refine cLg rfl rfl (dF c1) (cL rfl (o_fa tt36 rfl tt3 rfl (cLg rfl rfl (dF c1) (cL rfl (zZx (v := .int _ _) tt3 rfl rfl ⟨_, rfl⟩ (cLg rfl rfl (dF c1) (cL rfl (o_fa tt36 rfl tt3 rfl (cLg rfl rfl (dF c1) (cL rfl (zZx (v := .int _ _) tt3 rfl rfl ⟨_, rfl⟩ (cLg rfl rfl (dF c1) (cL rfl (zYq rfl rfl (cL rfl (zZy (v := .bool _) rfl (dF c1) rfl (mB rfl rfl ?_)))))))))))))))))
 by_cases c2 : ((lat (lat ((runR (serversM n) (jobsM23 ((serversM n).length : Int) x)).1) v12) v14).st) < ((lat (lat ((runR (serversM n) (jobsM23 ((serversM n).length : Int) x)).1) v12) v14).rd)
 iterate 15 refine cLs rfl rfl rfl (dT c2) ?_
 refine cL rfl (zZv (v := .bool _) rfl (dT c2) rfl (eL (zYz ⟨rfl, rfl, rfl, rfl, rfl, rfl, rfl, rfl, (congrArg AV.bool (dOrF c1 (dOrT c2))).symm, trivial⟩ rfl)))
 have sd := sd.2 c2
 refine cLg rfl rfl (dF c2) (cL rfl (o_fa tt36 rfl tt3 rfl (cLg rfl rfl (dF c2) (cL rfl (zZx (v := .int _ _) tt3 rfl rfl ⟨_, rfl⟩ (cLg rfl rfl (dF c2) (cL rfl (o_fa tt36 rfl tt3 rfl (cLg rfl rfl (dF c2) (cL rfl (zZx (v := .int _ _) tt3 rfl rfl ⟨_, rfl⟩ (cLg rfl rfl (dF c2) (mL rfl rfl (cLg rfl rfl (dF c2) (mI rfl rfl (cLg rfl rfl (dF c2) ?_))))))))))))))))
 obtain ⟨s1030, sd⟩ := sd
 refine cL rfl (zYu tt26 tt42 rfl rfl (enc42.wd true) rfl s1030 ?_)
 intro rest1030
 refine cLg rfl rfl (dF c2) (cL rfl (o_faP tt42 rfl tt40 rfl (cLg rfl rfl (dF c2) (cL rfl (zZx (v := .lst _ _ _) tt40 rfl rfl ⟨_, rfl⟩ (cLg rfl rfl (dF c2) (mI rfl rfl (cLg rfl rfl (dF c2) ?_))))))))
 obtain ⟨s1031, sd⟩ := sd
 refine cL rfl (zYu tt40 tt45 rfl rfl (enc45.wd true) rfl s1031 ?_)
 intro rest1031
 refine cLg rfl rfl (dF c2) (cL rfl (o_faP tt45 rfl tt3 rfl (cLg rfl rfl (dF c2) (cL rfl (zZx (v := .int _ _) tt3 rfl rfl ⟨_, rfl⟩ (cLg rfl rfl (dF c2) ?_))))))
 obtain ⟨s1032, sd⟩ := sd
 refine cL rfl (o_add rfl rfl s1032 (cLg rfl rfl (dF c2) (cL rfl (o_neI rfl rfl rfl (cL rfl (zZy (v := .bool _) rfl (dF c2) rfl (eL (zYz ⟨rfl, rfl, rfl, rfl, rfl, rfl, rfl, rfl, (congrArg AV.bool (dOrF c1 (dOrF c2 (rfl)))).symm, trivial⟩ rfl))))))))
 refine W.cn rfl (fun hc => ?_) (fun hc => ?_)
 have hv := hv.1 hc
 refine W.rL (aB rfl rfl (eL (W.ty [(4, .bool _)] rfl (W.ret (zZr (zYt (zZr (zZr (zYt (zZr (zYt (zZr (zZr (zYt (zZr (rt (rt_t (v := .bool _) rfl (rt_n (⟨_, zYr _ _ _, false, rfl, hv⟩)))))))))))))))))))
 have hv := hv.2 hc
 refine W.skip (zZ (W.ty [(5, .bool _), (6, .lst _ _ _), (7, .lst _ _ _), (8, .lst _ _ _), (10, .lst _ _ _), (12, .int _ _), (14, .int _ _), (15, .ptr _ _)] rfl (W.rL1 (cL rfl (o_fa tt36 rfl tt3 rfl (cL rfl (zZx (v := .int _ _) tt3 rfl rfl ⟨_, rfl⟩ (aI rfl rfl (eL (zYv (zZ (W.ty [(5, .bool _), (6, .lst _ _ _), (7, .lst _ _ _), (8, .lst _ _ _), (10, .lst _ _ _), (12, .int _ _), (13, .int _ _), (14, .int _ _)] rfl (W.rL1 (mI rfl rfl ?_))))))))))))))
 obtain ⟨s1033, hv⟩ := hv
 refine cL rfl (o_add rfl rfl s1033 (aI rfl rfl (eL (zZ (⟨(), ((lat (lat ((runR (serversM n) (jobsM23 ((serversM n).length : Int) x)).1) v12) v14).en), (v14 + (1 : Int)), hv, St.to_mk (φ := []) rfl (rfl) (zT rfl rfl) trivial⟩)))))
 have hv := hv.2 hc
 refine W.exit (zZt (zZt (zYs (zZ (W.ty [(5, .bool _), (6, .lst _ _ _), (7, .lst _ _ _), (8, .lst _ _ _), (10, .lst _ _ _), (12, .int _ _), (13, .int _ _)] rfl (W.rL ?_))))))
 iterate 2 refine mL rfl rfl ?_
 refine mI rfl rfl ?_
 obtain ⟨s1034, s1035, s1036, hv⟩ := hv
 refine cL rfl (zZu (k := 14) (fst := []) (caps := []) (ys := [.lst _ _ _, .lst _ _ _, .int _ _]) rfl rfl (spec_finish (serversM n) (jobsM23 ((serversM n).length : Int) x) v12 s1034 s1035 s1036) zk (cL rfl (zZp (v := .tup _) rfl ?_)))
 iterate 2 refine cL rfl (o_ext (v := .int _ _) rfl rfl ?_)
 iterate 2 refine aI rfl rfl ?_
 refine eL (W.ty [(5, .bool _), (6, .lst _ _ _), (7, .lst _ _ _), (8, .lst _ _ _), (10, .lst _ _ _), (12, .int _ _), (13, .int _ _), (16, .int _ _), (17, .int _ _)] rfl (W.rLm ⟨255, look [(5, .bool true), (6, .lst false (serversM n).length (zYy zYx (serversM n))), (7, .lst false (jobsM23 ((serversM n).length : Int) x).length (zYy (e42 true) (jobsM23 ((serversM n).length : Int) x))), (8, .lst false ((runR (serversM n) (jobsM23 ((serversM n).length : Int) x)).1).length (zYy (eSl e36 true) ((runR (serversM n) (jobsM23 ((serversM n).length : Int) x)).1))), (10, .lst false ((placesM (jobsM23 ((serversM n).length : Int) x) ((runR (serversM n) (jobsM23 ((serversM n).length : Int) x)).1)).1).length (zYy e38 ((placesM (jobsM23 ((serversM n).length : Int) x) ((runR (serversM n) (jobsM23 ((serversM n).length : Int) x)).1)).1))), (12, .int .i64 v12), (124, .bool (decide ((¬ (finishM (serversM n) (jobsM23 ((serversM n).length : Int) x) v12).2 = (0 : Int)) \/ (¬ (finishM (serversM n) (jobsM23 ((serversM n).length : Int) x) v12).1 = v13))))], [], 0⟩ ?_ ?_))
 refine mI rfl rfl (cL rfl (o_neI rfl rfl rfl (mB rfl rfl ?_)))
 by_cases c1 : ¬ (finishM (serversM n) (jobsM23 ((serversM n).length : Int) x) v12).2 = (0 : Int)
 iterate 3 refine cLs rfl rfl rfl (dT c1) ?_
 refine cL rfl (zZv (v := .bool _) rfl (dT c1) rfl (eL (zYz ⟨rfl, rfl, rfl, rfl, rfl, rfl, (congrArg AV.bool (dOrT c1)).symm, trivial⟩ rfl)))
 refine cLg rfl rfl (dF c1) (mI rfl rfl (cLg rfl rfl (dF c1) (mI rfl rfl (cLg rfl rfl (dF c1) (cL rfl (o_neI rfl rfl rfl (cL rfl (zZy (v := .bool _) rfl (dF c1) rfl (eL (zYz ⟨rfl, rfl, rfl, rfl, rfl, rfl, (congrArg AV.bool (dOrF c1 (rfl))).symm, trivial⟩ rfl))))))))))
 refine W.cn rfl (fun hc => ?_) (fun hc => ?_)
 have hv := hv.1 hc
 refine W.rL (aB rfl rfl (eL (W.ty [(4, .bool _)] rfl (W.ret (zYt (zZr (zZr (zYt (zZr (rt (rt_t (v := .bool _) rfl (rt_n (⟨_, zYr _ _ _, false, rfl, hv⟩)))))))))))))
 have hv := hv.2 hc
 refine W.skip (zYv (zZ (W.ty [(5, .bool _), (6, .lst _ _ _), (7, .lst _ _ _), (8, .lst _ _ _), (10, .lst _ _ _), (12, .int _ _)] rfl (W.rL1 (mI rfl rfl ?_)))))
 obtain ⟨s1037, hv⟩ := hv
 refine cL rfl (o_add rfl rfl s1037 (aI rfl rfl (eL (zZ (⟨(), (v12 + (1 : Int)), hv, St.to_mk (φ := []) rfl (rfl) (zT rfl rfl) trivial⟩)))))
 have hv := hv.2 hc
 refine W.exit (zZt (zZt (zYs (zZ (W.ty [(5, .bool _), (6, .lst _ _ _), (7, .lst _ _ _), (10, .lst _ _ _)] rfl (W.seq' (W.rL (aI rfl rfl (eL (W.ty [(5, .bool _), (6, .lst _ _ _), (7, .lst _ _ _), (10, .lst _ _ _), (18, .int _ _)] rfl (W.block ?_)))))))))))
 obtain ⟨I3, μ3, hp, hv⟩ := hv
 refine W.loop1 (fun v18 => ⟨255, look [(5, .bool true), (6, .lst false (serversM n).length (zYy zYx (serversM n))), (7, .lst false (jobsM23 ((serversM n).length : Int) x).length (zYy (e42 true) (jobsM23 ((serversM n).length : Int) x))), (10, .lst false ((placesM (jobsM23 ((serversM n).length : Int) x) ((runR (serversM n) (jobsM23 ((serversM n).length : Int) x)).1)).1).length (zYy e38 ((placesM (jobsM23 ((serversM n).length : Int) x) ((runR (serversM n) (jobsM23 ((serversM n).length : Int) x)).1)).1))), (18, .int .i64 v18)], [], 0⟩) I3 μ3 (0 : Int) (St.to_mk (φ := []) rfl (rfl) (zT rfl rfl) trivial) hp ?_
 clear hp
 intro v18 hI
 replace hv := hv v18 hI
 clear hI
 refine W.seq' (W.rL (mI rfl rfl (mL rfl rfl (cL rfl (zXw (v := .lst _ _ _) tt24 rfl rfl (cL rfl (zYq rfl rfl (eL (W.ty [(5, .bool _), (6, .lst _ _ _), (7, .lst _ _ _), (10, .lst _ _ _), (18, .int _ _), (128, .bool _)] rfl (W.cn rfl (fun hc => ?_) (fun hc => ?_)))))))))))
 have hv := hv.1 hc
 refine W.skip (zZ (W.ty [(5, .bool _), (6, .lst _ _ _), (7, .lst _ _ _), (10, .lst _ _ _), (18, .int _ _)] rfl (W.seq' (W.block (W.rL (aI rfl rfl (eL (W.ty [(5, .bool _), (6, .lst _ _ _), (7, .lst _ _ _), (10, .lst _ _ _), (18, .int _ _), (19, .int _ _)] rfl (W.seq' (W.rL (aI rfl rfl (eL (W.ty [(5, .bool _), (6, .lst _ _ _), (7, .lst _ _ _), (10, .lst _ _ _), (18, .int _ _), (19, .int _ _), (20, .int _ _)] rfl (W.block ?_))))))))))))))
 obtain ⟨I4, μ4, hp, hv⟩ := hv
 refine W.loop2 (fun v19 v20 => ⟨255, look [(5, .bool true), (6, .lst false (serversM n).length (zYy zYx (serversM n))), (7, .lst false (jobsM23 ((serversM n).length : Int) x).length (zYy (e42 true) (jobsM23 ((serversM n).length : Int) x))), (10, .lst false ((placesM (jobsM23 ((serversM n).length : Int) x) ((runR (serversM n) (jobsM23 ((serversM n).length : Int) x)).1)).1).length (zYy e38 ((placesM (jobsM23 ((serversM n).length : Int) x) ((runR (serversM n) (jobsM23 ((serversM n).length : Int) x)).1)).1))), (18, .int .i64 v18), (19, .int .i64 v19), (20, .int .i64 v20)], [], 0⟩) I4 μ4 (0 : Int) (0 : Int) (St.to_mk (φ := []) rfl (rfl) (zT rfl rfl) trivial) hp ?_
 clear hp
 intro v19 v20 hI
 replace hv := hv v19 v20 hI
 clear hI
 refine W.seq' (W.rL (mI rfl rfl (mL rfl rfl (cL rfl (zXw (v := .lst _ _ _) tt32 rfl rfl (cL rfl (zYq rfl rfl (eL (W.ty [(5, .bool _), (6, .lst _ _ _), (7, .lst _ _ _), (10, .lst _ _ _), (18, .int _ _), (19, .int _ _), (20, .int _ _), (134, .bool _)] rfl (W.cn rfl (fun hc => ?_) (fun hc => ?_)))))))))))
 have hv := hv.1 hc
 refine W.skip (zZ (W.ty [(5, .bool _), (6, .lst _ _ _), (7, .lst _ _ _), (10, .lst _ _ _), (18, .int _ _), (19, .int _ _), (20, .int _ _)] rfl ?_))
 obtain ⟨J5, hj, hv⟩ := hv
 refine W.mid1 (fun v19_1 => ⟨255, look [(5, .bool true), (6, .lst false (serversM n).length (zYy zYx (serversM n))), (7, .lst false (jobsM23 ((serversM n).length : Int) x).length (zYy (e42 true) (jobsM23 ((serversM n).length : Int) x))), (10, .lst false ((placesM (jobsM23 ((serversM n).length : Int) x) ((runR (serversM n) (jobsM23 ((serversM n).length : Int) x)).1)).1).length (zYy e38 ((placesM (jobsM23 ((serversM n).length : Int) x) ((runR (serversM n) (jobsM23 ((serversM n).length : Int) x)).1)).1))), (18, .int .i64 v18), (19, .int .i64 v19_1), (20, .int .i64 v20)], [], 0⟩) J5 ?_ ?_
 intro v19_1
 intro hv
 replace hv := hj v19_1 hv
 refine W.rL1 (mI rfl rfl ?_)
 obtain ⟨s7288, hv⟩ := hv
 refine cL rfl (o_add rfl rfl s7288 (aI rfl rfl (eL (zZ (⟨(), v19_1, (v20 + (1 : Int)), hv, St.to_mk (φ := []) rfl (rfl) (zT rfl rfl) trivial⟩)))))
 clear hj
 refine W.block (W.seq' (W.rL (mL rfl rfl (mI rfl rfl ?_))))
 obtain ⟨s7290, hv⟩ := hv
 refine cL rfl (zYu tt32 tt38 rfl rfl (enc38.wd true) rfl s7290 ?_)
 intro rest7290
 refine cL rfl (o_faP tt38 rfl tt3 rfl (cL rfl (zZx (v := .int _ _) tt3 rfl rfl ⟨_, rfl⟩ (mI rfl rfl (cL rfl (o_neI rfl rfl rfl (eL (W.ty [(5, .bool _), (6, .lst _ _ _), (7, .lst _ _ _), (10, .lst _ _ _), (18, .int _ _), (19, .int _ _), (20, .int _ _), (143, .bool _)] rfl (W.cn rfl (fun hc => ?_) (fun hc => ?_))))))))))
 have hv := hv.1 hc
 refine W.exit (zZt (zYs (zZ (⟨(), v19, hv, St.to_mk (φ := []) rfl (rfl) (zT rfl rfl) trivial⟩))))
 have hv := hv.2 hc
 refine W.skip (zZ (W.ty [(5, .bool _), (6, .lst _ _ _), (7, .lst _ _ _), (10, .lst _ _ _), (18, .int _ _), (19, .int _ _), (20, .int _ _)] rfl (W.rL (mI rfl rfl (mL rfl rfl (mI rfl rfl ?_))))))
 obtain ⟨s7291, hv⟩ := hv
 refine cL rfl (zYu tt32 tt38 rfl rfl (enc38.wd true) rfl s7291 ?_)
 intro rest7291
 refine cL rfl (o_faP tt38 rfl tt3 rfl (cL rfl (zZx (v := .int _ _) tt3 rfl rfl ⟨_, rfl⟩ ?_)))
 obtain ⟨s7292, hv⟩ := hv
 refine cL rfl (o_add rfl rfl s7292 (aI rfl rfl (eL (W.ty [(5, .bool _), (6, .lst _ _ _), (7, .lst _ _ _), (10, .lst _ _ _), (18, .int _ _), (19, .int _ _), (20, .int _ _)] rfl (W.rL (aI rfl rfl (eL (W.ty [(5, .bool _), (6, .lst _ _ _), (7, .lst _ _ _), (10, .lst _ _ _), (18, .int _ _), (19, .int _ _), (20, .int _ _), (21, .int _ _)] rfl (W.seq' (W.rL (aI rfl rfl (eL (W.ty [(5, .bool _), (6, .lst _ _ _), (7, .lst _ _ _), (10, .lst _ _ _), (18, .int _ _), (19, .int _ _), (20, .int _ _), (21, .int _ _), (22, .int _ _)] rfl (W.block ?_))))))))))))))
 obtain ⟨I6, μ6, hp, hv⟩ := hv
 refine W.loop2 (fun v21 v22 => ⟨255, look [(5, .bool true), (6, .lst false (serversM n).length (zYy zYx (serversM n))), (7, .lst false (jobsM23 ((serversM n).length : Int) x).length (zYy (e42 true) (jobsM23 ((serversM n).length : Int) x))), (10, .lst false ((placesM (jobsM23 ((serversM n).length : Int) x) ((runR (serversM n) (jobsM23 ((serversM n).length : Int) x)).1)).1).length (zYy e38 ((placesM (jobsM23 ((serversM n).length : Int) x) ((runR (serversM n) (jobsM23 ((serversM n).length : Int) x)).1)).1))), (18, .int .i64 v18), (19, .int .i64 (v19 + ((lat ((placesM (jobsM23 ((serversM n).length : Int) x) ((runR (serversM n) (jobsM23 ((serversM n).length : Int) x)).1)).1) v20).t))), (20, .int .i64 v20), (21, .int .i64 v21), (22, .int .i64 v22)], [], 0⟩) I6 μ6 (0 : Int) (0 : Int) (St.to_mk (φ := []) rfl (rfl) (zT rfl rfl) trivial) hp ?_
 clear hp
 intro v21 v22 hI
 replace hv := hv v21 v22 hI
 clear hI
 refine W.seq' (W.rL (mI rfl rfl (mL rfl rfl (cL rfl (zXw (v := .lst _ _ _) tt32 rfl rfl (cL rfl (zYq rfl rfl (eL (W.ty [(5, .bool _), (6, .lst _ _ _), (7, .lst _ _ _), (10, .lst _ _ _), (18, .int _ _), (19, .int _ _), (20, .int _ _), (21, .int _ _), (22, .int _ _), (154, .bool _)] rfl (W.cn rfl (fun hc => ?_) (fun hc => ?_)))))))))))
 have hv := hv.1 hc
 refine W.skip (zZ (W.ty [(5, .bool _), (6, .lst _ _ _), (7, .lst _ _ _), (10, .lst _ _ _), (18, .int _ _), (19, .int _ _), (20, .int _ _), (21, .int _ _), (22, .int _ _)] rfl ?_))
 obtain ⟨J7, hj, hv⟩ := hv
 refine W.mid1 (fun v21_1 => ⟨255, look [(5, .bool true), (6, .lst false (serversM n).length (zYy zYx (serversM n))), (7, .lst false (jobsM23 ((serversM n).length : Int) x).length (zYy (e42 true) (jobsM23 ((serversM n).length : Int) x))), (10, .lst false ((placesM (jobsM23 ((serversM n).length : Int) x) ((runR (serversM n) (jobsM23 ((serversM n).length : Int) x)).1)).1).length (zYy e38 ((placesM (jobsM23 ((serversM n).length : Int) x) ((runR (serversM n) (jobsM23 ((serversM n).length : Int) x)).1)).1))), (18, .int .i64 v18), (19, .int .i64 (v19 + ((lat ((placesM (jobsM23 ((serversM n).length : Int) x) ((runR (serversM n) (jobsM23 ((serversM n).length : Int) x)).1)).1) v20).t))), (20, .int .i64 v20), (21, .int .i64 v21_1), (22, .int .i64 v22)], [], 0⟩) J7 ?_ ?_
 intro v21_1
 intro hv
 replace hv := hj v21_1 hv
 refine W.rL1 (mI rfl rfl ?_)
 obtain ⟨s7373, hv⟩ := hv
 refine cL rfl (o_add rfl rfl s7373 (aI rfl rfl (eL (zZ (⟨(), v21_1, (v22 + (1 : Int)), hv, St.to_mk (φ := []) rfl (rfl) (zT rfl rfl) trivial⟩)))))
 clear hj
 refine W.block ?_
 obtain ⟨sd, hv⟩ := hv
 refine W.rDm ⟨255, look [(5, .bool true), (6, .lst false (serversM n).length (zYy zYx (serversM n))), (7, .lst false (jobsM23 ((serversM n).length : Int) x).length (zYy (e42 true) (jobsM23 ((serversM n).length : Int) x))), (10, .lst false ((placesM (jobsM23 ((serversM n).length : Int) x) ((runR (serversM n) (jobsM23 ((serversM n).length : Int) x)).1)).1).length (zYy e38 ((placesM (jobsM23 ((serversM n).length : Int) x) ((runR (serversM n) (jobsM23 ((serversM n).length : Int) x)).1)).1))), (18, .int .i64 v18), (19, .int .i64 (v19 + ((lat ((placesM (jobsM23 ((serversM n).length : Int) x) ((runR (serversM n) (jobsM23 ((serversM n).length : Int) x)).1)).1) v20).t))), (20, .int .i64 v20), (21, .int .i64 v21), (22, .int .i64 v22), (193, .bool (decide (((lat ((placesM (jobsM23 ((serversM n).length : Int) x) ((runR (serversM n) (jobsM23 ((serversM n).length : Int) x)).1)).1) v22).s = v18) /\ (((((lat ((placesM (jobsM23 ((serversM n).length : Int) x) ((runR (serversM n) (jobsM23 ((serversM n).length : Int) x)).1)).1) v22).v).st) <= (((lat ((placesM (jobsM23 ((serversM n).length : Int) x) ((runR (serversM n) (jobsM23 ((serversM n).length : Int) x)).1)).1) v20).v).st)) /\ ((((lat ((placesM (jobsM23 ((serversM n).length : Int) x) ((runR (serversM n) (jobsM23 ((serversM n).length : Int) x)).1)).1) v20).v).st) < (((lat ((placesM (jobsM23 ((serversM n).length : Int) x) ((runR (serversM n) (jobsM23 ((serversM n).length : Int) x)).1)).1) v22).v).en))))))], [], 0⟩ [0, 1, 2, 3, 4, 5, 6, 7, 8, 9, 10, 11, 12, 13, 14, 15, 16, 17, 18, 19, 20, 21, 22, 23, 24, 25, 26, 27, 28, 29, 30, 31, 32, 33, 34, 35, 36] (by decide +kernel) rfl ?_ ?_
 refine mL rfl rfl (mI rfl rfl ?_)
 obtain ⟨s7379, sd⟩ := sd
 refine cL rfl (zYu tt32 tt38 rfl rfl (enc38.wd true) rfl s7379 ?_)
 intro rest7379
 refine cL rfl (o_faP tt38 rfl tt3 rfl (cL rfl (zZx (v := .int _ _) tt3 rfl rfl ⟨_, rfl⟩ (mI rfl rfl (cL rfl (o_eqI rfl rfl rfl (mB rfl rfl ?_)))))))
 by_cases c1 : (lat ((placesM (jobsM23 ((serversM n).length : Int) x) ((runR (serversM n) (jobsM23 ((serversM n).length : Int) x)).1)).1) v22).s = v18
 have sd := sd.1 c1
 refine cLg rfl rfl (dT c1) (mL rfl rfl (cLg rfl rfl (dT c1) (mI rfl rfl (cLg rfl rfl (dT c1) ?_))))
 obtain ⟨s7380, sd⟩ := sd
 refine cL rfl (zYu tt32 tt38 rfl rfl (enc38.wd true) rfl s7380 ?_)
 intro rest7380
 refine cLg rfl rfl (dT c1) (cL rfl (o_faP tt38 rfl tt36 rfl (cLg rfl rfl (dT c1) (cL rfl (o_faP tt36 rfl tt3 rfl (cLg rfl rfl (dT c1) (cL rfl (zZx (v := .int _ _) tt3 rfl rfl ⟨_, rfl⟩ (cLg rfl rfl (dT c1) (mL rfl rfl (cLg rfl rfl (dT c1) (mI rfl rfl (cLg rfl rfl (dT c1) ?_)))))))))))))
 obtain ⟨s7381, sd⟩ := sd
 refine cL rfl (zYu tt32 tt38 rfl rfl (enc38.wd true) rfl s7381 ?_)
 intro rest7381
 refine cLg rfl rfl (dT c1) (cL rfl (o_faP tt38 rfl tt36 rfl (cLg rfl rfl (dT c1) (cL rfl (o_faP tt36 rfl tt3 rfl (cLg rfl rfl (dT c1) (cL rfl (zZx (v := .int _ _) tt3 rfl rfl ⟨_, rfl⟩ (cLg rfl rfl (dT c1) (cL rfl (o_leq rfl rfl (cL rfl (zZv (v := .bool _) rfl (dT c1) rfl (mB rfl rfl ?_))))))))))))))
 by_cases c2 : (((lat ((placesM (jobsM23 ((serversM n).length : Int) x) ((runR (serversM n) (jobsM23 ((serversM n).length : Int) x)).1)).1) v22).v).st) <= (((lat ((placesM (jobsM23 ((serversM n).length : Int) x) ((runR (serversM n) (jobsM23 ((serversM n).length : Int) x)).1)).1) v20).v).st)
 have sd := sd.1 c2
 refine cLg rfl rfl (dT c2) (mL rfl rfl (cLg rfl rfl (dT c2) (mI rfl rfl (cLg rfl rfl (dT c2) ?_))))
 obtain ⟨s7382, sd⟩ := sd
 refine cL rfl (zYu tt32 tt38 rfl rfl (enc38.wd true) rfl s7382 ?_)
 intro rest7382
 refine cLg rfl rfl (dT c2) (cL rfl (o_faP tt38 rfl tt36 rfl (cLg rfl rfl (dT c2) (cL rfl (o_faP tt36 rfl tt3 rfl (cLg rfl rfl (dT c2) (cL rfl (zZx (v := .int _ _) tt3 rfl rfl ⟨_, rfl⟩ (cLg rfl rfl (dT c2) (mL rfl rfl (cLg rfl rfl (dT c2) (mI rfl rfl (cLg rfl rfl (dT c2) ?_)))))))))))))
 obtain ⟨s7383, sd⟩ := sd
 refine cL rfl (zYu tt32 tt38 rfl rfl (enc38.wd true) rfl s7383 ?_)
 intro rest7383
 refine cLg rfl rfl (dT c2) (cL rfl (o_faP tt38 rfl tt36 rfl (cLg rfl rfl (dT c2) (cL rfl (o_faP tt36 rfl tt3 rfl (cLg rfl rfl (dT c2) (cL rfl (zZx (v := .int _ _) tt3 rfl rfl ⟨_, rfl⟩ (cLg rfl rfl (dT c2) (cL rfl (o_gtr rfl rfl (cL rfl (zZv (v := .bool _) rfl (dT c2) rfl (eL (zYz ⟨rfl, rfl, rfl, rfl, rfl, rfl, rfl, rfl, rfl, (congrArg AV.bool (zXv c1 (zXv c2 (rfl)))).symm, trivial⟩ rfl)))))))))))))))
 iterate 13 refine cLs rfl rfl rfl (dF c2) ?_
 refine cL rfl (zZy (v := .bool _) rfl (dF c2) rfl (eL (zYz ⟨rfl, rfl, rfl, rfl, rfl, rfl, rfl, rfl, rfl, (congrArg AV.bool (zXv c1 (dAndF c2))).symm, trivial⟩ rfl)))
 iterate 13 refine cLs rfl rfl rfl (dF c1) ?_
 refine cL rfl (zZy (v := .bool _) rfl (dF c1) rfl (mB rfl rfl ?_))
 iterate 13 refine cLs rfl rfl rfl (rfl) ?_
 refine cL rfl (zZy (v := .bool _) rfl rfl rfl (eL (zYz ⟨rfl, rfl, rfl, rfl, rfl, rfl, rfl, rfl, rfl, (congrArg AV.bool (dAndF c1)).symm, trivial⟩ rfl)))
 refine W.cn rfl (fun hc => ?_) (fun hc => ?_)
 have hv := hv.1 hc
 refine W.rL1 (mI rfl rfl ?_)
 obtain ⟨s7384, hv⟩ := hv
 refine cL rfl (o_add rfl rfl s7384 (aI rfl rfl (eL (zYv (zZ (⟨(), (v21 + (1 : Int)), hv, St.to_mk (φ := []) rfl (rfl) (zT rfl rfl) trivial⟩))))))
 have hv := hv.2 hc
 refine W.skip (zYv (zZ (⟨(), v21, hv, St.to_mk (φ := []) rfl (rfl) (zT rfl rfl) trivial⟩)))
 have hv := hv.2 hc
 refine W.exit (zZt (zZt (zYs (zZ (W.ty [(5, .bool _), (6, .lst _ _ _), (7, .lst _ _ _), (10, .lst _ _ _), (18, .int _ _), (19, .int _ _), (20, .int _ _), (21, .int _ _)] rfl (W.rL (mI rfl rfl (mL rfl rfl (mI rfl rfl ?_)))))))))
 obtain ⟨s7385, hv⟩ := hv
 refine cL rfl (zYu tt24 tt3 rfl rfl (zZw.wd true) rfl s7385 ?_)
 intro rest7385
 refine cL rfl (zZx (v := .int _ _) tt3 rfl rfl ⟨_, rfl⟩ (cL rfl (o_gtr rfl rfl (eL (W.ty [(5, .bool _), (6, .lst _ _ _), (7, .lst _ _ _), (10, .lst _ _ _), (18, .int _ _), (19, .int _ _), (20, .int _ _), (201, .bool _)] rfl (W.cn rfl (fun hc => ?_) (fun hc => ?_)))))))
 have hv := hv.1 hc
 refine W.rL (aB rfl rfl (eL (W.ty [(4, .bool _)] rfl (W.ret (zYt (zZr (zZr (zYt (zZr (zYt (zZr (zZr (zYt (zZr (rt (rt_t (v := .bool _) rfl (rt_n (⟨_, zYr _ _ _, false, rfl, hv⟩))))))))))))))))))
 have hv := hv.2 hc
 refine W.skip (zYv (zZ (⟨(), (v19 + ((lat ((placesM (jobsM23 ((serversM n).length : Int) x) ((runR (serversM n) (jobsM23 ((serversM n).length : Int) x)).1)).1) v20).t)), hv, St.to_mk (φ := []) rfl (rfl) (zT rfl rfl) trivial⟩)))
 have hv := hv.2 hc
 refine W.exit (zZt (zZt (zYs (zZ (W.ty [(5, .bool _), (6, .lst _ _ _), (7, .lst _ _ _), (10, .lst _ _ _), (18, .int _ _), (19, .int _ _)] rfl (W.rL ?_))))))
 iterate 2 refine mL rfl rfl ?_
 refine mI rfl rfl ?_
 obtain ⟨s7386, s7387, s7388, hv⟩ := hv
 refine cL rfl (zZu (k := 15) (fst := []) (caps := []) (ys := [.lst _ _ _, .lst _ _ _, .int _ _, .int _ _, .int _ _]) rfl rfl (spec_busy (serversM n) (jobsM23 ((serversM n).length : Int) x) v18 (0 : Int) (1125899906842624 : Int) s7386 s7387 s7388) zk (cL rfl (zZp (v := .tup _) rfl ?_)))
 iterate 2 refine cL rfl (o_ext (v := .int _ _) rfl rfl ?_)
 iterate 2 refine aI rfl rfl ?_
 refine eL (W.ty [(5, .bool _), (6, .lst _ _ _), (7, .lst _ _ _), (10, .lst _ _ _), (18, .int _ _), (19, .int _ _), (23, .int _ _), (24, .int _ _)] rfl (W.rL ?_))
 iterate 2 refine mL rfl rfl ?_
 refine mI rfl rfl ?_
 obtain ⟨s7389, s7390, s7391, hv⟩ := hv
 refine cL rfl (zZu (k := 15) (fst := []) (caps := []) (ys := [.lst _ _ _, .lst _ _ _, .int _ _, .int _ _, .int _ _]) rfl rfl (spec_busy (serversM n) (jobsM23 ((serversM n).length : Int) x) v18 (0 : Int) (20 : Int) s7389 s7390 s7391) zk (cL rfl (zZp (v := .tup _) rfl ?_)))
 iterate 2 refine cL rfl (o_ext (v := .int _ _) rfl rfl ?_)
 iterate 2 refine aI rfl rfl ?_
 refine eL (W.ty [(5, .bool _), (6, .lst _ _ _), (7, .lst _ _ _), (10, .lst _ _ _), (18, .int _ _), (19, .int _ _), (23, .int _ _), (24, .int _ _), (25, .int _ _), (26, .int _ _)] rfl (W.rL ?_))
 iterate 2 refine mL rfl rfl ?_
 refine mI rfl rfl ?_
 obtain ⟨s7392, s7393, s7394, hv⟩ := hv
 refine cL rfl (zZu (k := 15) (fst := []) (caps := []) (ys := [.lst _ _ _, .lst _ _ _, .int _ _, .int _ _, .int _ _]) rfl rfl (spec_busy (serversM n) (jobsM23 ((serversM n).length : Int) x) v18 (20 : Int) (1125899906842624 : Int) s7392 s7393 s7394) zk (cL rfl (zZp (v := .tup _) rfl ?_)))
 iterate 2 refine cL rfl (o_ext (v := .int _ _) rfl rfl ?_)
 iterate 2 refine aI rfl rfl ?_
 refine eL (W.ty [(5, .bool _), (6, .lst _ _ _), (7, .lst _ _ _), (10, .lst _ _ _), (18, .int _ _), (19, .int _ _), (23, .int _ _), (24, .int _ _), (25, .int _ _), (26, .int _ _), (27, .int _ _), (28, .int _ _)] rfl ?_)
 obtain ⟨sd, hv⟩ := hv
 refine W.rLm ⟨255, look [(5, .bool true), (6, .lst false (serversM n).length (zYy zYx (serversM n))), (7, .lst false (jobsM23 ((serversM n).length : Int) x).length (zYy (e42 true) (jobsM23 ((serversM n).length : Int) x))), (10, .lst false ((placesM (jobsM23 ((serversM n).length : Int) x) ((runR (serversM n) (jobsM23 ((serversM n).length : Int) x)).1)).1).length (zYy e38 ((placesM (jobsM23 ((serversM n).length : Int) x) ((runR (serversM n) (jobsM23 ((serversM n).length : Int) x)).1)).1))), (18, .int .i64 v18), (253, .bool (decide ((¬ (busyM (serversM n) (jobsM23 ((serversM n).length : Int) x) v18 (0 : Int) (1125899906842624 : Int)).2 = (0 : Int)) \/ ((¬ (busyM (serversM n) (jobsM23 ((serversM n).length : Int) x) v18 (0 : Int) (20 : Int)).2 = (0 : Int)) \/ ((¬ (busyM (serversM n) (jobsM23 ((serversM n).length : Int) x) v18 (20 : Int) (1125899906842624 : Int)).2 = (0 : Int)) \/ ((¬ (busyM (serversM n) (jobsM23 ((serversM n).length : Int) x) v18 (0 : Int) (1125899906842624 : Int)).1 = v19) \/ ((¬ (((busyM (serversM n) (jobsM23 ((serversM n).length : Int) x) v18 (0 : Int) (20 : Int)).1) + ((busyM (serversM n) (jobsM23 ((serversM n).length : Int) x) v18 (20 : Int) (1125899906842624 : Int)).1)) = v19) \/ (((20 : Int) * (lat (serversM n) v18)) < ((busyM (serversM n) (jobsM23 ((serversM n).length : Int) x) v18 (0 : Int) (20 : Int)).1)))))))))], [], 0⟩ ?_ ?_
 refine mI rfl rfl (cL rfl (o_neI rfl rfl rfl (mB rfl rfl ?_)))
 by_cases c1 : ¬ (busyM (serversM n) (jobsM23 ((serversM n).length : Int) x) v18 (0 : Int) (1125899906842624 : Int)).2 = (0 : Int)
 iterate 2 refine cLs rfl rfl rfl (dT c1) ?_
 refine cL rfl (zZv (v := .bool _) rfl (dT c1) rfl (mB rfl rfl ?_))
 iterate 2 refine cLs rfl rfl rfl (rfl) ?_
 refine cL rfl (zZv (v := .bool _) rfl rfl rfl (mB rfl rfl ?_))
 iterate 3 refine cLs rfl rfl rfl (rfl) ?_
 refine cL rfl (zZv (v := .bool _) rfl rfl rfl (mB rfl rfl ?_))
 iterate 5 refine cLs rfl rfl rfl (rfl) ?_
 refine cL rfl (zZv (v := .bool _) rfl rfl rfl (mB rfl rfl ?_))
 iterate 7 refine cLs rfl rfl rfl (rfl) ?_
 refine cL rfl (zZv (v := .bool _) rfl rfl rfl (eL (zYz ⟨rfl, rfl, rfl, rfl, rfl, (congrArg AV.bool (dOrT c1)).symm, trivial⟩ rfl)))
 have sd := sd.2 c1
 refine cLg rfl rfl (dF c1) (mI rfl rfl (cLg rfl rfl (dF c1) (cL rfl (o_neI rfl rfl rfl (cL rfl (zZy (v := .bool _) rfl (dF c1) rfl (mB rfl rfl ?_)))))))
 by_cases c2 : ¬ (busyM (serversM n) (jobsM23 ((serversM n).length : Int) x) v18 (0 : Int) (20 : Int)).2 = (0 : Int)
 iterate 2 refine cLs rfl rfl rfl (dT c2) ?_
 refine cL rfl (zZv (v := .bool _) rfl (dT c2) rfl (mB rfl rfl ?_))
 iterate 3 refine cLs rfl rfl rfl (rfl) ?_
 refine cL rfl (zZv (v := .bool _) rfl rfl rfl (mB rfl rfl ?_))
 iterate 5 refine cLs rfl rfl rfl (rfl) ?_
 refine cL rfl (zZv (v := .bool _) rfl rfl rfl (mB rfl rfl ?_))
 iterate 7 refine cLs rfl rfl rfl (rfl) ?_
 refine cL rfl (zZv (v := .bool _) rfl rfl rfl (eL (zYz ⟨rfl, rfl, rfl, rfl, rfl, (congrArg AV.bool (dOrF c1 (dOrT c2))).symm, trivial⟩ rfl)))
 have sd := sd.2 c2
 refine cLg rfl rfl (dF c2) (mI rfl rfl (cLg rfl rfl (dF c2) (cL rfl (o_neI rfl rfl rfl (cL rfl (zZy (v := .bool _) rfl (dF c2) rfl (mB rfl rfl ?_)))))))
 by_cases c3 : ¬ (busyM (serversM n) (jobsM23 ((serversM n).length : Int) x) v18 (20 : Int) (1125899906842624 : Int)).2 = (0 : Int)
 iterate 3 refine cLs rfl rfl rfl (dT c3) ?_
 refine cL rfl (zZv (v := .bool _) rfl (dT c3) rfl (mB rfl rfl ?_))
 iterate 5 refine cLs rfl rfl rfl (rfl) ?_
 refine cL rfl (zZv (v := .bool _) rfl rfl rfl (mB rfl rfl ?_))
 iterate 7 refine cLs rfl rfl rfl (rfl) ?_
 refine cL rfl (zZv (v := .bool _) rfl rfl rfl (eL (zYz ⟨rfl, rfl, rfl, rfl, rfl, (congrArg AV.bool (dOrF c1 (dOrF c2 (dOrT c3)))).symm, trivial⟩ rfl)))
 have sd := sd.2 c3
 refine cLg rfl rfl (dF c3) (mI rfl rfl (cLg rfl rfl (dF c3) (mI rfl rfl (cLg rfl rfl (dF c3) (cL rfl (o_neI rfl rfl rfl (cL rfl (zZy (v := .bool _) rfl (dF c3) rfl (mB rfl rfl ?_)))))))))
 by_cases c4 : ¬ (busyM (serversM n) (jobsM23 ((serversM n).length : Int) x) v18 (0 : Int) (1125899906842624 : Int)).1 = v19
 iterate 5 refine cLs rfl rfl rfl (dT c4) ?_
 refine cL rfl (zZv (v := .bool _) rfl (dT c4) rfl (mB rfl rfl ?_))
 iterate 7 refine cLs rfl rfl rfl (rfl) ?_
 refine cL rfl (zZv (v := .bool _) rfl rfl rfl (eL (zYz ⟨rfl, rfl, rfl, rfl, rfl, (congrArg AV.bool (dOrF c1 (dOrF c2 (dOrF c3 (dOrT c4))))).symm, trivial⟩ rfl)))
 have sd := sd.2 c4
 refine cLg rfl rfl (dF c4) (mI rfl rfl (cLg rfl rfl (dF c4) (mI rfl rfl (cLg rfl rfl (dF c4) ?_))))
 obtain ⟨s7398, sd⟩ := sd
 refine cL rfl (o_add rfl rfl s7398 (cLg rfl rfl (dF c4) (mI rfl rfl (cLg rfl rfl (dF c4) (cL rfl (o_neI rfl rfl rfl (cL rfl (zZy (v := .bool _) rfl (dF c4) rfl (mB rfl rfl ?_)))))))))
 by_cases c5 : ¬ (((busyM (serversM n) (jobsM23 ((serversM n).length : Int) x) v18 (0 : Int) (20 : Int)).1) + ((busyM (serversM n) (jobsM23 ((serversM n).length : Int) x) v18 (20 : Int) (1125899906842624 : Int)).1)) = v19
 iterate 7 refine cLs rfl rfl rfl (dT c5) ?_
 refine cL rfl (zZv (v := .bool _) rfl (dT c5) rfl (eL (zYz ⟨rfl, rfl, rfl, rfl, rfl, (congrArg AV.bool (dOrF c1 (dOrF c2 (dOrF c3 (dOrF c4 (dOrT c5)))))).symm, trivial⟩ rfl)))
 have sd := sd.2 c5
 refine cLg rfl rfl (dF c5) (mI rfl rfl (cLg rfl rfl (dF c5) (mL rfl rfl (cLg rfl rfl (dF c5) (mI rfl rfl (cLg rfl rfl (dF c5) ?_))))))
 obtain ⟨s7399, sd⟩ := sd
 refine cL rfl (zYu tt24 tt3 rfl rfl (zZw.wd true) rfl s7399 ?_)
 intro rest7399
 refine cLg rfl rfl (dF c5) (cL rfl (zZx (v := .int _ _) tt3 rfl rfl ⟨_, rfl⟩ (cLg rfl rfl (dF c5) ?_)))
 obtain ⟨s7400, sd⟩ := sd
 refine cL rfl (o_mul rfl rfl s7400 (cLg rfl rfl (dF c5) (cL rfl (o_gtr rfl rfl (cL rfl (zZy (v := .bool _) rfl (dF c5) rfl (eL (zYz ⟨rfl, rfl, rfl, rfl, rfl, (congrArg AV.bool (dOrF c1 (dOrF c2 (dOrF c3 (dOrF c4 (dOrF c5 (rfl))))))).symm, trivial⟩ rfl))))))))
 refine W.cn rfl (fun hc => ?_) (fun hc => ?_)
 have hv := hv.1 hc
 refine W.rL (aB rfl rfl (eL (W.ty [(4, .bool _)] rfl (W.ret (zYt (zZr (zZr (zYt (zZr (rt (rt_t (v := .bool _) rfl (rt_n (⟨_, zYr _ _ _, false, rfl, hv⟩)))))))))))))
 have hv := hv.2 hc
 refine W.skip (zYv (zZ (W.ty [(5, .bool _), (6, .lst _ _ _), (7, .lst _ _ _), (10, .lst _ _ _), (18, .int _ _)] rfl (W.rL1 (mI rfl rfl ?_)))))
 obtain ⟨s7401, hv⟩ := hv
 refine cL rfl (o_add rfl rfl s7401 (aI rfl rfl (eL (zZ (⟨(), (v18 + (1 : Int)), hv, St.to_mk (φ := []) rfl (rfl) (zT rfl rfl) trivial⟩)))))
 have hv := hv.2 hc
 refine W.exit (zZt (zZt (zYs (zZ (W.ty [(5, .bool _)] rfl (W.rL (mB rfl rfl (aB rfl rfl (eL (W.ty [(4, .bool _)] rfl (W.ret (rt (rt_t (v := .bool _) rfl (rt_n (⟨_, zYr _ _ _, true, rfl, hv⟩)))))))))))))))
set_option maxHeartbeats 4000000 in
theorem vcp_lawwork (n : Int) (x : (List (Vector Int 4))) (h0 : inI n) (h1 : x.length <= 9223372036854775807 /\ ∀ z ∈ x, ∀ k, inI (vat z k)) : vc_lawwork n x (fun q0 => q0 = (true)) := by
  have hv := made_valid n x
  have hsl := servers_len n
  have hjm := made_jobs (m := ((serversM n).length : Int)) (by omega) x
  have hsv := made_servers n
  have hpl := places_run hv
  obtain ⟨t, hI, hen⟩ := run_small hv (fun j hj => (hjm.2 j hj).1.2.1) (fun j hj w hw => ((hjm.2 j hj).2 w hw).2.2)
  have hR : (runR (serversM n) (jobsM23 ((serversM n).length : Int) x)).2 = 0 := by unfold runR; rw [if_pos hv]
  have hR1 : (runR (serversM n) (jobsM23 ((serversM n).length : Int) x)).1 = rowsM (jobsM23 ((serversM n).length : Int) x).length (runM (serversM n) (jobsM23 ((serversM n).length : Int) x)) := by unfold runR; rw [if_pos hv]
  have hll : (jobsM23 ((serversM n).length : Int) x).length <= 9223372036854775807 := by omega
  have hlw : ∀ j ∈ jobsM23 ((serversM n).length : Int) x, j.wk.length <= 9223372036854775807 := fun j hj => by have := (hjm.2 j hj).1; omega
  have hlen : ∀ j ∈ jobsM23 ((serversM n).length : Int) x, j.wk.length <= 6 := fun j hj => by have := (hjm.2 j hj).1; omega
  have hso : ∀ q : Int, 0 <= q /\ q < (serversM n).length -> ((slots (serversM n) (initM (serversM n) (jobsM23 ((serversM n).length : Int) x)) q).length : Int) = lat (serversM n) q := fun q hq => slots_init_len hv hq
  have hpb : (places (jobsM23 ((serversM n).length : Int) x) (runM (serversM n) (jobsM23 ((serversM n).length : Int) x))).length <= 1000 := by
    have h1 := placesA_le (jobs := jobsM23 ((serversM n).length : Int) x) (l := rowsM (jobsM23 ((serversM n).length : Int) x).length (runM (serversM n) (jobsM23 ((serversM n).length : Int) x))) (i := (jobsM23 ((serversM n).length : Int) x).length) fun a ha => by
      rw [run_len hv ha]; exact hlen _ (lat_mem ⟨by omega, by omega⟩)
    show (placesA _ _ _).length <= 1000
    omega
  have hip : ∀ q y : Int, inProg (jobsM23 ((serversM n).length : Int) x) (runM (serversM n) (jobsM23 ((serversM n).length : Int) x)) q y = (places (jobsM23 ((serversM n).length : Int) x) (runM (serversM n) (jobsM23 ((serversM n).length : Int) x))).countP fun p => decide (p.s = q /\ p.v.st <= y /\ y < p.v.en) := fun _ _ => rfl
  have iok := hI.ok
  have ib := hI.busy
  simp only [hip] at ib
  have pv : ∀ p ∈ places (jobsM23 ((serversM n).length : Int) x) (runM (serversM n) (jobsM23 ((serversM n).length : Int) x)), p.v.en = p.v.st + p.t /\ 0 <= p.t := fun p hp => places_vis hv hp
  have hbu : ∀ q fr to : Int, 0 <= q /\ q < (serversM n).length -> (0 <= fr /\ fr <= to) -> to <= 1125899906842624 -> busyM (serversM n) (jobsM23 ((serversM n).length : Int) x) q fr to = (busyP (places (jobsM23 ((serversM n).length : Int) x) (runM (serversM n) (jobsM23 ((serversM n).length : Int) x))) q fr to, 0) := fun q fr to hq hf ht => by
    unfold busyM
    rw [if_pos ⟨hv, ⟨hq.1, by omega⟩, hf, ht⟩, busyL_places, hR1]; rfl
  have hfi : ∀ i : Nat, i < (jobsM23 ((serversM n).length : Int) x).length -> _ := fun i hi => finish_rows hv hi
  have hvis : ∀ i : Nat, i < (jobsM23 ((serversM n).length : Int) x).length -> ∀ k : Nat, k < (lat (jobsM23 ((serversM n).length : Int) x) (i : Int)).wk.length -> _ := fun i hi k hk => run_vis hv hi hk
  have hrl : ∀ i : Nat, i < (jobsM23 ((serversM n).length : Int) x).length -> _ := fun i hi => run_len hv hi
  have hrr : (rowsM (jobsM23 ((serversM n).length : Int) x).length (runM (serversM n) (jobsM23 ((serversM n).length : Int) x))).length = (jobsM23 ((serversM n).length : Int) x).length := rowsM_len _ _
  unfold vc_lawwork
  rw [hpl, hR, hR1]
  clear hpl hR hR1 hI hip
  dsimp only
  generalize hPP : places (jobsM23 ((serversM n).length : Int) x) (runM (serversM n) (jobsM23 ((serversM n).length : Int) x)) = PP at *
  generalize hRR : rowsM (jobsM23 ((serversM n).length : Int) x).length (runM (serversM n) (jobsM23 ((serversM n).length : Int) x)) = R at *
  clear hPP hRR
  generalize jobsM23 ((serversM n).length : Int) x = J at *
  generalize serversM n = S at *
  have hwt : ∀ m : Nat, m <= PP.length -> ∀ q, 0 <= workP (PP.take m) q /\ workP (PP.take m) q <= 1767 * (m : Int) := by
    intro m
    induction m with
    | zero => intro _ q; simp [workP]
    | succ m ih =>
      intro hm q
      rw [take_succ_lat (by omega), workP_snoc]
      have := ih (by omega) q
      have hm2 := lat_mem (xs := PP) (i := (m : Int)) ⟨by omega, by omega⟩
      have a := pv _ hm2
      have b := iok _ hm2
      have c := hen _ hm2
      split <;> omega
  have hwa : ∀ q, workP PP q <= 1767000 /\ 0 <= workP PP q := fun q => by
    have := hwt PP.length (Nat.le_refl _) q
    rw [List.take_length] at this
    omega
  refine ⟨h0, ⟨by omega, by omega⟩, h1.1, h1.2, by omega, hlw, hll, by omega, hlen, fun k => (k.elim (fun a => a rfl) fun a => a rfl).elim, fun _ => ⟨fun v => ∃ i : Nat, v = i /\ i <= J.length, fun v => J.length - v.toNat, ⟨0, rfl, by omega⟩, ?_⟩⟩
  rintro _ ⟨i, rfl, hi⟩
  refine ⟨fun k1 => ?_, fun _ => ?_⟩
  . have hi' : i < J.length := by omega
    have ix : 0 <= (i : Int) /\ (i : Int) < (J.length : Int) := ⟨by omega, k1⟩
    have iR : 0 <= (i : Int) /\ (i : Int) < (R.length : Int) := ⟨by omega, by omega⟩
    have hm := lat_mem (xs := J) ix
    have hw3 := (hjm.2 _ hm).1.2.2
    have hl := hrl i hi'
    have hf := hfi i hi'
    have hvi := hvis i hi'
    refine ⟨ix, fun a v => ∃ k : Nat, v = k /\ k <= (lat J (i : Int)).wk.length /\ a = if k = 0 then (lat J (i : Int)).ar else (lat (lat R (i : Int)) ((k - 1 : Nat) : Int)).en, fun _ v => (lat J (i : Int)).wk.length - v.toNat, ⟨0, rfl, by omega, rfl⟩, ?_⟩
    rintro a _ ⟨k, rfl, hk, rfl⟩
    refine ⟨iR, fun k2 => ?_, fun k2 => ?_⟩
    . have hk' : k < (lat J (i : Int)).wk.length := by omega
      have iV : 0 <= (k : Int) /\ (k : Int) < ((lat R (i : Int)).length : Int) := ⟨by omega, k2⟩
      obtain ⟨v1, v2, v3, v4, v5⟩ := hvi k hk'
      have hb : inI ((lat (lat R (i : Int)) (k : Int)).st + (lat (lat J (i : Int)).wk (k : Int)).tm) := by rw [<- v3]; unfold inI; omega
      refine ⟨iR, iV, ⟨fun _ => trivial, fun _ => ⟨fun _ => trivial, fun _ => ⟨ix, ⟨by omega, by omega⟩, hb, trivial⟩⟩⟩, fun k3 => ?_, fun _ => ⟨by unfold inI; omega, ⟨k + 1, by omega, by omega, ?_⟩, ?_⟩⟩
      . rcases k3 with k3 | k3 | k3
        . exact absurd v1 k3
        . omega
        . exact absurd v3 k3
      . rw [if_neg (by omega), Nat.add_sub_cancel]
      . exact dec_lt (by omega)
    . have ek : k = (lat J (i : Int)).wk.length := by omega
      refine ⟨by omega, hlw, hll, fun k3 => ?_, fun _ => ⟨by unfold inI; omega, ⟨i + 1, by omega, by omega⟩, dec_lt k1⟩⟩
      rw [hf, ek] at k3
      rcases k3 with k3 | k3
      . exact absurd rfl k3
      . exact absurd rfl k3
  . refine ⟨fun v => ∃ q : Nat, v = q /\ q <= S.length, fun v => S.length - v.toNat, ⟨0, rfl, by omega⟩, ?_⟩
    rintro _ ⟨q, rfl, hq⟩
    refine ⟨fun k1 => ?_, fun _ => rfl⟩
    have iq : 0 <= (q : Int) /\ (q : Int) < (S.length : Int) := ⟨by omega, k1⟩
    have hsq := hso q iq
    have hs3 := hsv _ (lat_mem (xs := S) iq)
    refine ⟨fun a v => ∃ i : Nat, v = i /\ i <= PP.length /\ a = workP (PP.take i) q, fun _ v => PP.length - v.toNat, ⟨0, rfl, by omega, rfl⟩, ?_⟩
    rintro a _ ⟨i, rfl, hi, rfl⟩
    refine ⟨fun k2 => ?_, fun k2 => ?_⟩
    . have iy : 0 <= (i : Int) /\ (i : Int) < (PP.length : Int) := ⟨by omega, k2⟩
      have et : PP.take (i + 1) = PP.take i ++ [lat PP (i : Int)] := take_succ_lat (by omega)
      have hnext := hwt (i + 1) (by omega) q
      have hm := lat_mem (xs := PP) iy
      refine ⟨fun a => a = workP (PP.take (i + 1)) q, fun a ha => ⟨by unfold inI; omega, ⟨i + 1, by omega, by omega, ha⟩, dec_lt k2⟩, iy, fun k3 => ?_, fun k3 => ?_⟩
      . rw [et, workP_snoc, if_neg k3]; omega
      . have k3 : (lat PP (i : Int)).s = (q : Int) := Decidable.not_not.1 k3
        have e1 : workP (PP.take (i + 1)) q = workP (PP.take i) q + (lat PP (i : Int)).t := by rw [et, workP_snoc, if_pos k3]
        rw [e1] at hnext
        generalize lat PP (i : Int) = p at *
        refine ⟨iy, by unfold inI; omega, fun c w => ∃ m : Nat, w = m /\ m <= PP.length /\ c = ((PP.take m).countP fun z => decide (z.s = (q : Int) /\ z.v.st <= p.v.st /\ p.v.st < z.v.en) : Nat), fun _ w => PP.length - w.toNat, ⟨0, rfl, by omega, by simp⟩, ?_⟩
        rintro c _ ⟨m, rfl, hm', rfl⟩
        have hcl : (PP.take m).countP (fun z => decide (z.s = (q : Int) /\ z.v.st <= p.v.st /\ p.v.st < z.v.en)) <= 1000 := by
          have h1 := List.countP_le_length (p := fun z : Plc => decide (z.s = (q : Int) /\ z.v.st <= p.v.st /\ p.v.st < z.v.en)) (l := PP.take m)
          rw [List.length_take] at h1; omega
        refine ⟨fun k4 => ?_, fun k4 => ⟨iq, fun k5 => ?_, fun _ => ?_⟩⟩
        . have iz : 0 <= (m : Int) /\ (m : Int) < (PP.length : Int) := ⟨by omega, k4⟩
          have et : PP.take (m + 1) = PP.take m ++ [lat PP (m : Int)] := take_succ_lat (by omega)
          refine ⟨fun c => c = ((PP.take (m + 1)).countP fun z => decide (z.s = (q : Int) /\ z.v.st <= p.v.st /\ p.v.st < z.v.en) : Nat), fun c hc => ⟨by unfold inI; omega, ⟨m + 1, by omega, by omega, hc⟩, dec_lt k4⟩, ⟨iz, fun _ => ⟨iz, iy, fun _ => ⟨iz, iy, trivial⟩, fun _ => trivial⟩, fun _ => trivial⟩, fun k5 => ⟨by unfold inI; omega, ?_⟩, fun k5 => ?_⟩
          . rw [et, List.countP_append, List.countP_singleton, if_pos (decide_eq_true k5)]; omega
          . rw [et, List.countP_append, List.countP_singleton, if_neg (fun h => k5 (of_decide_eq_true h))]; omega
        . rw [List.take_of_length_le (by omega)] at k5
          have h1 := ib q p.v.st iq.1 iq.2
          omega
        . exact e1.symm
    . rw [List.take_of_length_le (by omega)]
      have hall : ∀ p ∈ PP, 0 <= p.v.st /\ p.v.en = p.v.st + p.t /\ 0 <= p.t /\ p.v.en <= 1125899906842624 := fun p hp => by
        have a := pv p hp
        have b := iok p hp
        have c := hen p hp
        omega
      have b1 : busyP PP q 0 1125899906842624 = workP PP q := busyP_all hall
      have b2 := busyP_split (q := q) (b := 1125899906842624) (c := 20) (by omega) (l := PP) fun p hp => by have := hall p hp; omega
      have b3 := busyP_le (q := q) (l := PP) (c := (slots S (initM S J) q).length) (fun p hp => by have := hall p hp; omega) (fun y => ib q y iq.1 iq.2) 20
      have b3 : busyP PP q 0 20 <= 20 * ((slots S (initM S J) q).length : Int) := b3
      rw [hsq] at b3
      have hw := hwa q
      rw [hbu q 0 1125899906842624 iq (by omega) (by omega), hbu q 0 20 iq (by omega) (by omega), hbu q 20 1125899906842624 iq (by omega) (by omega)]
      dsimp only
      refine ⟨by omega, hlw, hll, by omega, hlw, hll, by omega, hlw, hll, ⟨fun _ => trivial, fun _ => ⟨fun _ => trivial, fun _ => ⟨fun _ => trivial, fun _ => ⟨fun _ => trivial, fun _ => ⟨by unfold inI; omega, fun _ => trivial, fun _ => ⟨iq, by unfold inI; omega, trivial⟩⟩⟩⟩⟩⟩, fun k3 => ?_, fun _ => ⟨by unfold inI; omega, ⟨q + 1, by omega, by omega⟩, dec_lt k1⟩⟩
      rcases k3 with k3 | k3 | k3 | k3 | k3 | k3
      . exact absurd rfl k3
      . exact absurd rfl k3
      . exact absurd rfl k3
      . exact absurd b1 k3
      . exact absurd (by omega) k3
      . omega
theorem spec_lawwork (n : Int) (x : (List (Vector Int 4))) (h0 : inI n) (h1 : x.length <= 9223372036854775807 /\ ∀ z ∈ x, ∀ k, inI (vat z k)) : FnP Try.prog 4 [.int .i64 n, .lst true x.length (zYy eV4 x)] (fun xR => xR = .bool (true)) :=
  (walk_lawwork (vcp_lawwork n x h0 h1)).mono (by rintro _ ⟨_, rfl, rfl⟩; rfl)
end Go.Lat
