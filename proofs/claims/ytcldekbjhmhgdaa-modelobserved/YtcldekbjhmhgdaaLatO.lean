/- The law latecomerlaw23.ModelObserved returns true for every input, and each argument reads afterwards as it read before. Part 15 of 16. No condition. -/
import Derived.Test.YtcldekbjhmhgdaaLatE
import Derived.Test.YtcldekbjhmhgdaaLatF
import Derived.Test.YtcldekbjhmhgdaaLatD
import Derived.Test.YtcldekbjhmhgdaaLatK
import Derived.Test.YtcldekbjhmhgdaaLatM
import Derived.Test.YtcldekbjhmhgdaaLatJ
import Derived.Test.YtcldekbjhmhgdaaLatN
set_option linter.unusedVariables false
set_option linter.unusedSimpArgs false
set_option linter.unnecessarySimpa false
set_option maxRecDepth 100000
set_option maxHeartbeats 4000000
namespace Go.Lat
open Go.RowKit Go.Proofs
attribute [local irreducible] seqL opC
def vc_lawobs (xa : (List (Vector Int 4))) (xb : (List (Vector Int 4))) (t : Int) (part : Int) (Post : Bool -> Prop) : Prop :=
  (xa.length <= 9223372036854775807) /\ (∀ y ∈ xa, ∀ k, inI (vat y k)) /\ (xb.length <= 9223372036854775807) /\ (∀ y ∈ xb, ∀ k, inI (vat y k)) /\ ((factsM xa).length <= 1073741823) /\ ((factsM xb).length <= 1073741823) /\ ((factsM xb).length <= 1073741824) /\ (((factsM xb) ++ (factsM xa)).length <= 1073741824) /\ (((factsM xb) ++ (factsM xa)).length <= 1073741823) /\ (((fitM (factsM xa)).1).length + ((fitM (factsM xb)).1).length <= 1073741822) /\ (((fitM (factsM xb)).1).length + ((fitM (factsM xa)).1).length <= 1073741822) /\ (((¬ (fitM (factsM xa)).2 = (0 : Int)) -> True) /\ (¬ (¬ (fitM (factsM xa)).2 = (0 : Int)) -> ((¬ (fitM (factsM xb)).2 = (0 : Int)) -> True) /\ (¬ (¬ (fitM (factsM xb)).2 = (0 : Int)) -> ((¬ (fitM ((factsM xb) ++ (factsM xa))).2 = (0 : Int)) -> True) /\ (¬ (¬ (fitM ((factsM xb) ++ (factsM xa))).2 = (0 : Int)) -> ((¬ (joinE ((fitM (factsM xa)).1) ((fitM (factsM xb)).1)).2 = (0 : Int)) -> True) /\ (¬ (¬ (joinE ((fitM (factsM xa)).1) ((fitM (factsM xb)).1)).2 = (0 : Int)) -> ((¬ (joinE ((fitM (factsM xb)).1) ((fitM (factsM xa)).1)).2 = (0 : Int)) -> True) /\ (¬ (¬ (joinE ((fitM (factsM xb)).1) ((fitM (factsM xa)).1)).2 = (0 : Int)) -> (((joinE ((fitM (factsM xa)).1) ((fitM (factsM xb)).1)).1).length <= 9223372036854775807) /\ (((fitM ((factsM xb) ++ (factsM xa))).1).length <= 9223372036854775807) /\ ((¬ (((joinE ((fitM (factsM xa)).1) ((fitM (factsM xb)).1)).1) = ((fitM ((factsM xb) ++ (factsM xa))).1))) -> True) /\ (¬ (¬ (((joinE ((fitM (factsM xa)).1) ((fitM (factsM xb)).1)).1) = ((fitM ((factsM xb) ++ (factsM xa))).1))) -> (((joinE ((fitM (factsM xa)).1) ((fitM (factsM xb)).1)).1).length <= 9223372036854775807) /\ (((joinE ((fitM (factsM xb)).1) ((fitM (factsM xa)).1)).1).length <= 9223372036854775807) /\ True))))))) /\ ((((¬ (fitM (factsM xa)).2 = (0 : Int)) \/ ((¬ (fitM (factsM xb)).2 = (0 : Int)) \/ ((¬ (fitM ((factsM xb) ++ (factsM xa))).2 = (0 : Int)) \/ ((¬ (joinE ((fitM (factsM xa)).1) ((fitM (factsM xb)).1)).2 = (0 : Int)) \/ ((¬ (joinE ((fitM (factsM xb)).1) ((fitM (factsM xa)).1)).2 = (0 : Int)) \/ ((¬ (((joinE ((fitM (factsM xa)).1) ((fitM (factsM xb)).1)).1) = ((fitM ((factsM xb) ++ (factsM xa))).1))) \/ (¬ (((joinE ((fitM (factsM xa)).1) ((fitM (factsM xb)).1)).1) = ((joinE ((fitM (factsM xb)).1) ((fitM (factsM xa)).1)).1))))))))) -> Post false) /\ (¬ ((¬ (fitM (factsM xa)).2 = (0 : Int)) \/ ((¬ (fitM (factsM xb)).2 = (0 : Int)) \/ ((¬ (fitM ((factsM xb) ++ (factsM xa))).2 = (0 : Int)) \/ ((¬ (joinE ((fitM (factsM xa)).1) ((fitM (factsM xb)).1)).2 = (0 : Int)) \/ ((¬ (joinE ((fitM (factsM xb)).1) ((fitM (factsM xa)).1)).2 = (0 : Int)) \/ ((¬ (((joinE ((fitM (factsM xa)).1) ((fitM (factsM xb)).1)).1) = ((fitM ((factsM xb) ++ (factsM xa))).1))) \/ (¬ (((joinE ((fitM (factsM xa)).1) ((fitM (factsM xb)).1)).1) = ((joinE ((fitM (factsM xb)).1) ((fitM (factsM xa)).1)).1))))))))) -> ∃ (I1 : Int -> Prop) (μ1 : Int -> Nat), I1 (0 : Int) /\ ∀ (v22 : Int), I1 v22 -> ((v22 < ((factsM xa).length : Int)) -> (0 <= v22 /\ v22 < ((factsM xa).length : Int)) /\ (0 <= v22 /\ v22 < ((factsM xa).length : Int)) /\ ∃ (I2 : Int -> Int -> Int -> Int -> Prop) (μ2 : Int -> Int -> Int -> Int -> Nat), I2 (0 : Int) ((lat (factsM xa) v22).lo) ((lat (factsM xa) v22).hi) (0 : Int) /\ ∀ (v23 : Int) (v24 : Int) (v25 : Int) (v26 : Int), I2 v23 v24 v25 v26 -> ((v26 < ((factsM xa).length : Int)) -> ∃ J3 : Int -> Int -> Int -> Prop, (∀ (v23_1 : Int) (v24_1 : Int) (v25_1 : Int), J3 v23_1 v24_1 v25_1 -> (inI (v26 + (1 : Int))) /\ (I2 v23_1 v24_1 v25_1 (v26 + (1 : Int)) /\ μ2 v23_1 v24_1 v25_1 (v26 + (1 : Int)) < μ2 v23 v24 v25 v26)) /\ (((0 <= v26 /\ v26 < ((factsM xa).length : Int)) /\ (0 <= v22 /\ v22 < ((factsM xa).length : Int)) /\ (((lat (factsM xa) v26).op = (lat (factsM xa) v22).op) -> (0 <= v26 /\ v26 < ((factsM xa).length : Int)) /\ (0 <= v22 /\ v22 < ((factsM xa).length : Int)) /\ True) /\ (¬ ((lat (factsM xa) v26).op = (lat (factsM xa) v22).op) -> True)) /\ (((((lat (factsM xa) v26).op = (lat (factsM xa) v22).op) /\ ((lat (factsM xa) v26).ver = (lat (factsM xa) v22).ver)) -> (inI (v23 + (1 : Int))) /\ (0 <= v26 /\ v26 < ((factsM xa).length : Int)) /\ (0 <= v26 /\ v26 < ((factsM xa).length : Int)) /\ J3 (v23 + (1 : Int)) (min v24 ((lat (factsM xa) v26).lo)) (max v25 ((lat (factsM xa) v26).hi))) /\ (¬ (((lat (factsM xa) v26).op = (lat (factsM xa) v22).op) /\ ((lat (factsM xa) v26).ver = (lat (factsM xa) v22).ver)) -> J3 v23 v24 v25)))) /\ (¬ (v26 < ((factsM xa).length : Int)) -> (0 <= v22 /\ v22 < ((factsM xa).length : Int)) /\ (0 <= v22 /\ v22 < ((factsM xa).length : Int)) /\ (0 <= v22 /\ v22 < ((factsM xa).length : Int)) /\ (inI (((lat (factsM xa) v22).hi) - ((lat (factsM xa) v22).lo))) /\ (inI ((((lat (factsM xa) v22).hi) - ((lat (factsM xa) v22).lo)) + (1 : Int))) /\ (1 <= ((((lat (factsM xa) v22).hi) - ((lat (factsM xa) v22).lo)) + (1 : Int))) /\ (inI part) /\ (inI (((lat (factsM xa) v22).lo) + (pickM part ((((lat (factsM xa) v22).hi) - ((lat (factsM xa) v22).lo)) + (1 : Int))))) /\ (0 <= v22 /\ v22 < ((factsM xa).length : Int)) /\ (0 <= v22 /\ v22 < ((factsM xa).length : Int)) /\ (((fitM (factsM xa)).1).length <= 1073741824) /\ ((¬ (allowsM ((fitM (factsM xa)).1) ((lat (factsM xa) v22).op) ((lat (factsM xa) v22).ver) (((lat (factsM xa) v22).lo) + (pickM part ((((lat (factsM xa) v22).hi) - ((lat (factsM xa) v22).lo)) + (1 : Int))))) = (decide ((3 : Int) <= v23))) -> Post false) /\ (¬ (¬ (allowsM ((fitM (factsM xa)).1) ((lat (factsM xa) v22).op) ((lat (factsM xa) v22).ver) (((lat (factsM xa) v22).lo) + (pickM part ((((lat (factsM xa) v22).hi) - ((lat (factsM xa) v22).lo)) + (1 : Int))))) = (decide ((3 : Int) <= v23))) -> (((t < v24) -> (0 <= v22 /\ v22 < ((factsM xa).length : Int)) /\ (0 <= v22 /\ v22 < ((factsM xa).length : Int)) /\ (((fitM (factsM xa)).1).length <= 1073741824) /\ (((allowsM ((fitM (factsM xa)).1) ((lat (factsM xa) v22).op) ((lat (factsM xa) v22).ver) t) = true) -> True) /\ (¬ ((allowsM ((fitM (factsM xa)).1) ((lat (factsM xa) v22).op) ((lat (factsM xa) v22).ver) t) = true) -> (0 <= v22 /\ v22 < ((factsM xa).length : Int)) /\ (0 <= v22 /\ v22 < ((factsM xa).length : Int)) /\ (inI (v24 - (1 : Int))) /\ (((fitM (factsM xa)).1).length <= 1073741824) /\ (((allowsM ((fitM (factsM xa)).1) ((lat (factsM xa) v22).op) ((lat (factsM xa) v22).ver) (v24 - (1 : Int))) = true) -> True) /\ (¬ ((allowsM ((fitM (factsM xa)).1) ((lat (factsM xa) v22).op) ((lat (factsM xa) v22).ver) (v24 - (1 : Int))) = true) -> (0 <= v22 /\ v22 < ((factsM xa).length : Int)) /\ (0 <= v22 /\ v22 < ((factsM xa).length : Int)) /\ (inI (v25 + (1 : Int))) /\ (((fitM (factsM xa)).1).length <= 1073741824) /\ True))) /\ (¬ (t < v24) -> ((v25 < t) -> (0 <= v22 /\ v22 < ((factsM xa).length : Int)) /\ (0 <= v22 /\ v22 < ((factsM xa).length : Int)) /\ (((fitM (factsM xa)).1).length <= 1073741824) /\ (((allowsM ((fitM (factsM xa)).1) ((lat (factsM xa) v22).op) ((lat (factsM xa) v22).ver) t) = true) -> True) /\ (¬ ((allowsM ((fitM (factsM xa)).1) ((lat (factsM xa) v22).op) ((lat (factsM xa) v22).ver) t) = true) -> (0 <= v22 /\ v22 < ((factsM xa).length : Int)) /\ (0 <= v22 /\ v22 < ((factsM xa).length : Int)) /\ (inI (v24 - (1 : Int))) /\ (((fitM (factsM xa)).1).length <= 1073741824) /\ (((allowsM ((fitM (factsM xa)).1) ((lat (factsM xa) v22).op) ((lat (factsM xa) v22).ver) (v24 - (1 : Int))) = true) -> True) /\ (¬ ((allowsM ((fitM (factsM xa)).1) ((lat (factsM xa) v22).op) ((lat (factsM xa) v22).ver) (v24 - (1 : Int))) = true) -> (0 <= v22 /\ v22 < ((factsM xa).length : Int)) /\ (0 <= v22 /\ v22 < ((factsM xa).length : Int)) /\ (inI (v25 + (1 : Int))) /\ (((fitM (factsM xa)).1).length <= 1073741824) /\ True))) /\ (¬ (v25 < t) -> (0 <= v22 /\ v22 < ((factsM xa).length : Int)) /\ (0 <= v22 /\ v22 < ((factsM xa).length : Int)) /\ (inI (v24 - (1 : Int))) /\ (((fitM (factsM xa)).1).length <= 1073741824) /\ (((allowsM ((fitM (factsM xa)).1) ((lat (factsM xa) v22).op) ((lat (factsM xa) v22).ver) (v24 - (1 : Int))) = true) -> True) /\ (¬ ((allowsM ((fitM (factsM xa)).1) ((lat (factsM xa) v22).op) ((lat (factsM xa) v22).ver) (v24 - (1 : Int))) = true) -> (0 <= v22 /\ v22 < ((factsM xa).length : Int)) /\ (0 <= v22 /\ v22 < ((factsM xa).length : Int)) /\ (inI (v25 + (1 : Int))) /\ (((fitM (factsM xa)).1).length <= 1073741824) /\ True)))) /\ ((((t < v24) /\ (((allowsM ((fitM (factsM xa)).1) ((lat (factsM xa) v22).op) ((lat (factsM xa) v22).ver) t) = true) \/ (((allowsM ((fitM (factsM xa)).1) ((lat (factsM xa) v22).op) ((lat (factsM xa) v22).ver) (v24 - (1 : Int))) = true) \/ ((allowsM ((fitM (factsM xa)).1) ((lat (factsM xa) v22).op) ((lat (factsM xa) v22).ver) (v25 + (1 : Int))) = true))) \/ ¬ (t < v24) /\ ((v25 < t) /\ (((allowsM ((fitM (factsM xa)).1) ((lat (factsM xa) v22).op) ((lat (factsM xa) v22).ver) t) = true) \/ (((allowsM ((fitM (factsM xa)).1) ((lat (factsM xa) v22).op) ((lat (factsM xa) v22).ver) (v24 - (1 : Int))) = true) \/ ((allowsM ((fitM (factsM xa)).1) ((lat (factsM xa) v22).op) ((lat (factsM xa) v22).ver) (v25 + (1 : Int))) = true))) \/ ¬ (v25 < t) /\ (((allowsM ((fitM (factsM xa)).1) ((lat (factsM xa) v22).op) ((lat (factsM xa) v22).ver) (v24 - (1 : Int))) = true) \/ ((allowsM ((fitM (factsM xa)).1) ((lat (factsM xa) v22).op) ((lat (factsM xa) v22).ver) (v25 + (1 : Int))) = true)))) -> Post false) /\ (¬ ((t < v24) /\ (((allowsM ((fitM (factsM xa)).1) ((lat (factsM xa) v22).op) ((lat (factsM xa) v22).ver) t) = true) \/ (((allowsM ((fitM (factsM xa)).1) ((lat (factsM xa) v22).op) ((lat (factsM xa) v22).ver) (v24 - (1 : Int))) = true) \/ ((allowsM ((fitM (factsM xa)).1) ((lat (factsM xa) v22).op) ((lat (factsM xa) v22).ver) (v25 + (1 : Int))) = true))) \/ ¬ (t < v24) /\ ((v25 < t) /\ (((allowsM ((fitM (factsM xa)).1) ((lat (factsM xa) v22).op) ((lat (factsM xa) v22).ver) t) = true) \/ (((allowsM ((fitM (factsM xa)).1) ((lat (factsM xa) v22).op) ((lat (factsM xa) v22).ver) (v24 - (1 : Int))) = true) \/ ((allowsM ((fitM (factsM xa)).1) ((lat (factsM xa) v22).op) ((lat (factsM xa) v22).ver) (v25 + (1 : Int))) = true))) \/ ¬ (v25 < t) /\ (((allowsM ((fitM (factsM xa)).1) ((lat (factsM xa) v22).op) ((lat (factsM xa) v22).ver) (v24 - (1 : Int))) = true) \/ ((allowsM ((fitM (factsM xa)).1) ((lat (factsM xa) v22).op) ((lat (factsM xa) v22).ver) (v25 + (1 : Int))) = true)))) -> (inI (v22 + (1 : Int))) /\ (I1 (v22 + (1 : Int)) /\ μ1 (v22 + (1 : Int)) < μ1 v22)))))) /\ (¬ (v22 < ((factsM xa).length : Int)) -> ((((fitM (factsM xa)).1).length <= 1073741824) /\ True) /\ (Post (decide (¬ ((allowsM ((fitM (factsM xa)).1) (11 : Int) (9 : Int) t) = true)))))))
theorem walk_lawobs {xa : (List (Vector Int 4))} {xb : (List (Vector Int 4))} {t : Int} {part : Int} {Post : Bool -> Prop} (hv : vc_lawobs xa xb t part Post) : FnP Try.prog 8 [.lst true xa.length (zYy eV4 xa), .lst true xb.length (zYy eV4 xb), .int .i64 t, .int .i64 part] (fun x => ∃ q0, x = .bool q0 /\ Post q0) := by
 refine FnP.of_walk (T := tt) (nt := 254) ttOk ttMix ⟨⟨Try.f8, Try.func8, rfl, rfl, rfl, rfl⟩⟩ (by simp) ?_
 unfold vc_lawobs at hv
 change W _ _ _ ⟨254, look [(0, .lst true xa.length (zYy eV4 xa)), (1, .lst true xb.length (zYy eV4 xb)), (2, .int .i64 t), (3, .int .i64 part)], [], 0⟩ _
 refine W.ty [(0, .lst _ _ _), (1, .lst _ _ _), (2, .int _ _), (3, .int _ _)] rfl (W.rL (aB rfl rfl (eL (W.ty [(0, .lst _ _ _), (1, .lst _ _ _), (2, .int _ _), (3, .int _ _)] rfl (W.rL (cL rfl (zZu (k := 9) (fst := []) (caps := []) (ys := []) rfl rfl (spec_sane) zk (aB rfl rfl (eL (W.ty [(0, .lst _ _ _), (1, .lst _ _ _), (2, .int _ _), (3, .int _ _), (9, .bool _)] rfl (W.rL (mL rfl rfl ?_))))))))))))
 obtain ⟨s1, s2, hv⟩ := hv
 refine cL rfl (zZu (k := 25) (fst := []) (caps := []) (ys := [.lst _ _ _]) rfl rfl (spec_MadeFacts xa s1 s2) zk (aL rfl rfl (eL (W.ty [(1, .lst _ _ _), (2, .int _ _), (3, .int _ _), (9, .bool _), (10, .lst _ _ _)] rfl (W.rL (mL rfl rfl ?_))))))
 obtain ⟨s3, s4, hv⟩ := hv
 refine cL rfl (zZu (k := 25) (fst := []) (caps := []) (ys := [.lst _ _ _]) rfl rfl (spec_MadeFacts xb s3 s4) zk (aL rfl rfl (eL (W.ty [(2, .int _ _), (3, .int _ _), (9, .bool _), (10, .lst _ _ _), (11, .lst _ _ _)] rfl (W.rL (mL rfl rfl ?_))))))
 obtain ⟨s5, hv⟩ := hv
 refine cL rfl (zZu (k := 26) (fst := []) (caps := []) (ys := [.lst _ _ _]) rfl rfl (spec_fit (factsM xa) s5) zk (cL rfl (zZp (v := .tup _) rfl (cL rfl (o_ext (v := .lst _ _ _) rfl rfl (cL rfl (o_ext (v := .int _ _) rfl rfl (aL rfl rfl (aI rfl rfl (eL (W.ty [(2, .int _ _), (3, .int _ _), (9, .bool _), (10, .lst _ _ _), (11, .lst _ _ _), (12, .lst _ _ _), (13, .int _ _)] rfl (W.rL (mL rfl rfl ?_)))))))))))))
 obtain ⟨s6, hv⟩ := hv
 refine cL rfl (zZu (k := 26) (fst := []) (caps := []) (ys := [.lst _ _ _]) rfl rfl (spec_fit (factsM xb) s6) zk (cL rfl (zZp (v := .tup _) rfl (cL rfl (o_ext (v := .lst _ _ _) rfl rfl (cL rfl (o_ext (v := .int _ _) rfl rfl (aL rfl rfl (aI rfl rfl (eL (W.ty [(2, .int _ _), (3, .int _ _), (9, .bool _), (10, .lst _ _ _), (11, .lst _ _ _), (12, .lst _ _ _), (13, .int _ _), (14, .lst _ _ _), (15, .int _ _)] rfl (W.rL (cL rfl (o_buildS (q := 0) (qs := []) (cs := []) tt58 tt69 rfl rfl rfl rfl (mL rfl rfl ?_)))))))))))))))
 obtain ⟨s7, hv⟩ := hv
 refine cL rfl (o_apR (p := 1) (q := (factsM xb).length) tt58 tt69 rfl rfl (src_lst (enc69.wd true) _ _ rfl) (zYw (enc69.wd true) _) rfl rfl (by simpa using s7) rfl (Nat.zero_add _) (List.nil_append _) (mL rfl rfl ?_))
 obtain ⟨s8, hv⟩ := hv
 refine cL rfl (o_apR (p := 2) (q := ((factsM xb) ++ (factsM xa)).length) tt58 tt69 rfl rfl (src_lst (enc69.wd true) _ _ rfl) (zYw (enc69.wd true) _) rfl (zYw (enc69.wd false) _) (Nat.le_trans (Nat.le_of_eq (@List.length_append _ (factsM xb) (factsM xa)).symm) s8) rfl (@List.length_append _ (factsM xb) (factsM xa)).symm (encL_app e69 (factsM xb) (factsM xa)) ?_)
 obtain ⟨s9, hv⟩ := hv
 refine cL rfl (zZu (k := 26) (fst := []) (caps := []) (ys := [.ref _ _ _]) rfl rfl (spec_fit ((factsM xb) ++ (factsM xa)) s9) (Wks.cons (ag_ref (fl := false) (xs := (factsM xb) ++ (factsM xa)) enc69 4 _ rfl rfl) zk) (cL rfl (zZp (v := .tup _) rfl (cL rfl (o_ext (v := .lst _ _ _) rfl rfl (cL rfl (o_ext (v := .int _ _) rfl rfl (aL rfl rfl (aI rfl rfl (eL (W.ty [(2, .int _ _), (3, .int _ _), (9, .bool _), (10, .lst _ _ _), (12, .lst _ _ _), (13, .int _ _), (14, .lst _ _ _), (15, .int _ _), (16, .lst _ _ _), (17, .int _ _)] rfl (W.rL ?_))))))))))))
 iterate 2 refine mL rfl rfl ?_
 obtain ⟨s10, hv⟩ := hv
 refine cL rfl (zZu (k := 28) (fst := []) (caps := []) (ys := [.lst _ _ _, .lst _ _ _]) rfl rfl (spec_mjoin ((fitM (factsM xa)).1) ((fitM (factsM xb)).1) s10) zk (cL rfl (zZp (v := .tup _) rfl (cL rfl (o_ext (v := .lst _ _ _) rfl rfl (cL rfl (o_ext (v := .int _ _) rfl rfl (aL rfl rfl (aI rfl rfl (eL (W.ty [(2, .int _ _), (3, .int _ _), (9, .bool _), (10, .lst _ _ _), (12, .lst _ _ _), (13, .int _ _), (14, .lst _ _ _), (15, .int _ _), (16, .lst _ _ _), (17, .int _ _), (18, .lst _ _ _), (19, .int _ _)] rfl (W.rL ?_))))))))))))
 iterate 2 refine mL rfl rfl ?_
 obtain ⟨s11, hv⟩ := hv
 refine cL rfl (zZu (k := 28) (fst := []) (caps := []) (ys := [.lst _ _ _, .lst _ _ _]) rfl rfl (spec_mjoin ((fitM (factsM xb)).1) ((fitM (factsM xa)).1) s11) zk (cL rfl (zZp (v := .tup _) rfl (cL rfl (o_ext (v := .lst _ _ _) rfl rfl (cL rfl (o_ext (v := .int _ _) rfl rfl (aL rfl rfl (aI rfl rfl (eL (W.ty [(2, .int _ _), (3, .int _ _), (9, .bool _), (10, .lst _ _ _), (12, .lst _ _ _), (13, .int _ _), (15, .int _ _), (16, .lst _ _ _), (17, .int _ _), (18, .lst _ _ _), (19, .int _ _), (20, .lst _ _ _), (21, .int _ _)] rfl (W.seq' ?_))))))))))))
 obtain ⟨sd, hv⟩ := hv
 refine W.rLm ⟨254, look [(2, .int .i64 t), (3, .int .i64 part), (9, .bool true), (10, .lst false (factsM xa).length (zYy e69 (factsM xa))), (12, .lst false ((fitM (factsM xa)).1).length (zYy e72 ((fitM (factsM xa)).1))), (93, .bool (decide ((¬ (fitM (factsM xa)).2 = (0 : Int)) \/ ((¬ (fitM (factsM xb)).2 = (0 : Int)) \/ ((¬ (fitM ((factsM xb) ++ (factsM xa))).2 = (0 : Int)) \/ ((¬ (joinE ((fitM (factsM xa)).1) ((fitM (factsM xb)).1)).2 = (0 : Int)) \/ ((¬ (joinE ((fitM (factsM xb)).1) ((fitM (factsM xa)).1)).2 = (0 : Int)) \/ ((¬ (((joinE ((fitM (factsM xa)).1) ((fitM (factsM xb)).1)).1) = ((fitM ((factsM xb) ++ (factsM xa))).1))) \/ (¬ (((joinE ((fitM (factsM xa)).1) ((fitM (factsM xb)).1)).1) = ((joinE ((fitM (factsM xb)).1) ((fitM (factsM xa)).1)).1)))))))))))], [.dead, .dead, .row 69 10 (zYy e69 ((factsM xb) ++ (factsM xa)))], 0⟩ ?_ ?_
 refine mI rfl rfl (cL rfl (o_neI rfl rfl rfl (mB rfl rfl ?_)))
 by_cases c1 : ¬ (fitM (factsM xa)).2 = (0 : Int)
 iterate 2 refine cLs rfl rfl rfl (dT c1) ?_
 refine cL rfl (zZv (v := .bool _) rfl (dT c1) rfl (mB rfl rfl ?_))
 iterate 2 refine cLs rfl rfl rfl (rfl) ?_
 refine cL rfl (zZv (v := .bool _) rfl rfl rfl (mB rfl rfl ?_))
 iterate 2 refine cLs rfl rfl rfl (rfl) ?_
 refine cL rfl (zZv (v := .bool _) rfl rfl rfl (mB rfl rfl ?_))
 iterate 2 refine cLs rfl rfl rfl (rfl) ?_
 refine cL rfl (zZv (v := .bool _) rfl rfl rfl (mB rfl rfl ?_))
 iterate 4 refine cLs rfl rfl rfl (rfl) ?_
 refine cL rfl (zZv (v := .bool _) rfl rfl rfl (mB rfl rfl ?_))
 iterate 4 refine cLs rfl rfl rfl (rfl) ?_
 refine cL rfl (zZv (v := .bool _) rfl rfl rfl (eL (zYz ⟨rfl, rfl, rfl, rfl, rfl, (congrArg AV.bool (dOrT c1)).symm, trivial⟩ rfl)))
 have sd := sd.2 c1
 refine cLg rfl rfl (dF c1) (mI rfl rfl (cLg rfl rfl (dF c1) (cL rfl (o_neI rfl rfl rfl (cL rfl (zZy (v := .bool _) rfl (dF c1) rfl (mB rfl rfl ?_)))))))
 by_cases c2 : ¬ (fitM (factsM xb)).2 = (0 : Int)
 iterate 2 refine cLs rfl rfl rfl (dT c2) ?_
 refine cL rfl (zZv (v := .bool _) rfl (dT c2) rfl (mB rfl rfl ?_))
 iterate 2 refine cLs rfl rfl rfl (rfl) ?_
 refine cL rfl (zZv (v := .bool _) rfl rfl rfl (mB rfl rfl ?_))
 iterate 2 refine cLs rfl rfl rfl (rfl) ?_
 refine cL rfl (zZv (v := .bool _) rfl rfl rfl (mB rfl rfl ?_))
 iterate 4 refine cLs rfl rfl rfl (rfl) ?_
 refine cL rfl (zZv (v := .bool _) rfl rfl rfl (mB rfl rfl ?_))
 iterate 4 refine cLs rfl rfl rfl (rfl) ?_
 refine cL rfl (zZv (v := .bool _) rfl rfl rfl (eL (zYz ⟨rfl, rfl, rfl, rfl, rfl, (congrArg AV.bool (dOrF c1 (dOrT c2))).symm, trivial⟩ rfl)))
 have sd := sd.2 c2
 refine cLg rfl rfl (dF c2) (mI rfl rfl (cLg rfl rfl (dF c2) (cL rfl (o_neI rfl rfl rfl (cL rfl (zZy (v := .bool _) rfl (dF c2) rfl (mB rfl rfl ?_)))))))
 by_cases c3 : ¬ (fitM ((factsM xb) ++ (factsM xa))).2 = (0 : Int)
 iterate 2 refine cLs rfl rfl rfl (dT c3) ?_
 refine cL rfl (zZv (v := .bool _) rfl (dT c3) rfl (mB rfl rfl ?_))
 iterate 2 refine cLs rfl rfl rfl (rfl) ?_
 refine cL rfl (zZv (v := .bool _) rfl rfl rfl (mB rfl rfl ?_))
 iterate 4 refine cLs rfl rfl rfl (rfl) ?_
 refine cL rfl (zZv (v := .bool _) rfl rfl rfl (mB rfl rfl ?_))
 iterate 4 refine cLs rfl rfl rfl (rfl) ?_
 refine cL rfl (zZv (v := .bool _) rfl rfl rfl (eL (zYz ⟨rfl, rfl, rfl, rfl, rfl, (congrArg AV.bool (dOrF c1 (dOrF c2 (dOrT c3)))).symm, trivial⟩ rfl)))
 have sd := sd.2 c3
 refine cLg rfl rfl (dF c3) (mI rfl rfl (cLg rfl rfl (dF c3) (cL rfl (o_neI rfl rfl rfl (cL rfl (zZy (v := .bool _) rfl (dF c3) rfl (mB rfl rfl ?_)))))))
 by_cases c4 : ¬ (joinE ((fitM (factsM xa)).1) ((fitM (factsM xb)).1)).2 = (0 : Int)
 iterate 2 refine cLs rfl rfl rfl (dT c4) ?_
 refine cL rfl (zZv (v := .bool _) rfl (dT c4) rfl (mB rfl rfl ?_))
 iterate 4 refine cLs rfl rfl rfl (rfl) ?_
 refine cL rfl (zZv (v := .bool _) rfl rfl rfl (mB rfl rfl ?_))
 iterate 4 refine cLs rfl rfl rfl (rfl) ?_
 refine cL rfl (zZv (v := .bool _) rfl rfl rfl (eL (zYz ⟨rfl, rfl, rfl, rfl, rfl, (congrArg AV.bool (dOrF c1 (dOrF c2 (dOrF c3 (dOrT c4))))).symm, trivial⟩ rfl)))
 have sd := sd.2 c4
 refine cLg rfl rfl (dF c4) (mI rfl rfl (cLg rfl rfl (dF c4) (cL rfl (o_neI rfl rfl rfl (cL rfl (zZy (v := .bool _) rfl (dF c4) rfl (mB rfl rfl ?_)))))))
 by_cases c5 : ¬ (joinE ((fitM (factsM xb)).1) ((fitM (factsM xa)).1)).2 = (0 : Int)
 iterate 4 refine cLs rfl rfl rfl (dT c5) ?_
 refine cL rfl (zZv (v := .bool _) rfl (dT c5) rfl (mB rfl rfl ?_))
 iterate 4 refine cLs rfl rfl rfl (rfl) ?_
 refine cL rfl (zZv (v := .bool _) rfl rfl rfl (eL (zYz ⟨rfl, rfl, rfl, rfl, rfl, (congrArg AV.bool (dOrF c1 (dOrF c2 (dOrF c3 (dOrF c4 (dOrT c5)))))).symm, trivial⟩ rfl)))
 have sd := sd.2 c5
 refine cLg rfl rfl (dF c5) (mL rfl rfl (cLg rfl rfl (dF c5) (mL rfl rfl (cLg rfl rfl (dF c5) ?_))))
 obtain ⟨s24, s25, sd⟩ := sd
 refine cL rfl (zZu (k := 30) (fst := []) (caps := []) (ys := [.lst _ _ _, .lst _ _ _]) rfl rfl (spec_sameR ((joinE ((fitM (factsM xa)).1) ((fitM (factsM xb)).1)).1) ((fitM ((factsM xb) ++ (factsM xa))).1) s24 s25) zk (cLg rfl rfl (dF c5) (cL rfl (o_not rfl (cL rfl (zZy (v := .bool _) rfl (dF c5) rfl (mB rfl rfl ?_)))))))
 by_cases c6 : ¬ (((joinE ((fitM (factsM xa)).1) ((fitM (factsM xb)).1)).1) = ((fitM ((factsM xb) ++ (factsM xa))).1))
 iterate 4 refine cLs rfl rfl rfl (dT c6) ?_
 refine cL rfl (zZv (v := .bool _) rfl (dT c6) rfl (eL (zYz ⟨rfl, rfl, rfl, rfl, rfl, (congrArg AV.bool (dOrF c1 (dOrF c2 (dOrF c3 (dOrF c4 (dOrF c5 (dOrT c6))))))).symm, trivial⟩ rfl)))
 have sd := sd.2 c6
 refine cLg rfl rfl (dF c6) (mL rfl rfl (cLg rfl rfl (dF c6) (mL rfl rfl (cLg rfl rfl (dF c6) ?_))))
 obtain ⟨s26, s27, sd⟩ := sd
 refine cL rfl (zZu (k := 30) (fst := []) (caps := []) (ys := [.lst _ _ _, .lst _ _ _]) rfl rfl (spec_sameR ((joinE ((fitM (factsM xa)).1) ((fitM (factsM xb)).1)).1) ((joinE ((fitM (factsM xb)).1) ((fitM (factsM xa)).1)).1) s26 s27) zk (cLg rfl rfl (dF c6) (cL rfl (o_not rfl (cL rfl (zZy (v := .bool _) rfl (dF c6) rfl (eL (zYz ⟨rfl, rfl, rfl, rfl, rfl, (congrArg AV.bool (dOrF c1 (dOrF c2 (dOrF c3 (dOrF c4 (dOrF c5 (dOrF c6 (rfl)))))))).symm, trivial⟩ rfl))))))))
 refine W.cn rfl (fun hc => ?_) (fun hc => ?_)
 have hv := hv.1 hc
 refine W.rL (aB rfl rfl (eL (W.ty [(8, .bool _)] rfl (W.ret (zZr (rt (rt_t (v := .bool _) rfl (rt_n (⟨_, zYr _ _ _, false, rfl, hv⟩)))))))))
 have hv := hv.2 hc
 refine W.skip (zZ (W.ty [(2, .int _ _), (3, .int _ _), (9, .bool _), (10, .lst _ _ _), (12, .lst _ _ _)] rfl (W.seq' (W.rL (aI rfl rfl (eL (W.ty [(2, .int _ _), (3, .int _ _), (9, .bool _), (10, .lst _ _ _), (12, .lst _ _ _), (22, .int _ _)] rfl (W.block ?_))))))))
 obtain ⟨I1, μ1, hp, hv⟩ := hv
 refine W.loop1 (fun v22 => ⟨254, look [(2, .int .i64 t), (3, .int .i64 part), (9, .bool true), (10, .lst false (factsM xa).length (zYy e69 (factsM xa))), (12, .lst false ((fitM (factsM xa)).1).length (zYy e72 ((fitM (factsM xa)).1))), (22, .int .i64 v22)], [.dead], 0⟩) I1 μ1 (0 : Int) (St.to_mk (φ := [none]) rfl (rfl) (zT rfl rfl) ⟨rfl, trivial⟩) hp ?_
 clear hp
 intro v22 hI
 replace hv := hv v22 hI
 clear hI
 refine W.seq' (W.rL (mI rfl rfl (mL rfl rfl (cL rfl (zXw (v := .lst _ _ _) tt58 rfl rfl (cL rfl (zYq rfl rfl (eL (W.ty [(2, .int _ _), (3, .int _ _), (9, .bool _), (10, .lst _ _ _), (12, .lst _ _ _), (22, .int _ _), (97, .bool _)] rfl (W.cn rfl (fun hc => ?_) (fun hc => ?_)))))))))))
 have hv := hv.1 hc
 refine W.skip (zZ (W.ty [(2, .int _ _), (3, .int _ _), (9, .bool _), (10, .lst _ _ _), (12, .lst _ _ _), (22, .int _ _)] rfl (W.seq' (W.block (W.rL (aI rfl rfl (eL (W.ty [(2, .int _ _), (3, .int _ _), (9, .bool _), (10, .lst _ _ _), (12, .lst _ _ _), (22, .int _ _), (23, .int _ _)] rfl (W.rL (mL rfl rfl (mI rfl rfl ?_)))))))))))
 obtain ⟨s1207, hv⟩ := hv
 refine cL rfl (zYu tt58 tt69 rfl rfl (enc69.wd true) rfl s1207 ?_)
 intro rest1207
 refine cL rfl (o_faP tt69 rfl tt3 rfl (cL rfl (zZx (v := .int _ _) tt3 rfl rfl ⟨_, rfl⟩ (aI rfl rfl (eL (W.ty [(2, .int _ _), (3, .int _ _), (9, .bool _), (10, .lst _ _ _), (12, .lst _ _ _), (22, .int _ _), (23, .int _ _), (24, .int _ _)] rfl (W.rL (mL rfl rfl (mI rfl rfl ?_)))))))))
 obtain ⟨s1208, hv⟩ := hv
 refine cL rfl (zYu tt58 tt69 rfl rfl (enc69.wd true) rfl s1208 ?_)
 intro rest1208
 refine cL rfl (o_faP tt69 rfl tt3 rfl (cL rfl (zZx (v := .int _ _) tt3 rfl rfl ⟨_, rfl⟩ (aI rfl rfl (eL (W.ty [(2, .int _ _), (3, .int _ _), (9, .bool _), (10, .lst _ _ _), (12, .lst _ _ _), (22, .int _ _), (23, .int _ _), (24, .int _ _), (25, .int _ _)] rfl (W.seq' (W.rL (aI rfl rfl (eL (W.ty [(2, .int _ _), (3, .int _ _), (9, .bool _), (10, .lst _ _ _), (12, .lst _ _ _), (22, .int _ _), (23, .int _ _), (24, .int _ _), (25, .int _ _), (26, .int _ _)] rfl (W.block ?_))))))))))))
 obtain ⟨I2, μ2, hp, hv⟩ := hv
 refine W.loop4 (fun v23 v24 v25 v26 => ⟨254, look [(2, .int .i64 t), (3, .int .i64 part), (9, .bool true), (10, .lst false (factsM xa).length (zYy e69 (factsM xa))), (12, .lst false ((fitM (factsM xa)).1).length (zYy e72 ((fitM (factsM xa)).1))), (22, .int .i64 v22), (23, .int .i64 v23), (24, .int .i64 v24), (25, .int .i64 v25), (26, .int .i64 v26)], [.dead], 0⟩) I2 μ2 (0 : Int) ((lat (factsM xa) v22).lo) ((lat (factsM xa) v22).hi) (0 : Int) (St.to_mk (φ := [none]) rfl (rfl) (zT rfl rfl) ⟨rfl, trivial⟩) hp ?_
 clear hp
 intro v23 v24 v25 v26 hI
 replace hv := hv v23 v24 v25 v26 hI
 clear hI
 refine W.seq' (W.rL (mI rfl rfl (mL rfl rfl (cL rfl (zXw (v := .lst _ _ _) tt58 rfl rfl (cL rfl (zYq rfl rfl (eL (W.ty [(2, .int _ _), (3, .int _ _), (9, .bool _), (10, .lst _ _ _), (12, .lst _ _ _), (22, .int _ _), (23, .int _ _), (24, .int _ _), (25, .int _ _), (26, .int _ _), (113, .bool _)] rfl (W.cn rfl (fun hc => ?_) (fun hc => ?_)))))))))))
 have hv := hv.1 hc
 refine W.skip (zZ (W.ty [(2, .int _ _), (3, .int _ _), (9, .bool _), (10, .lst _ _ _), (12, .lst _ _ _), (22, .int _ _), (23, .int _ _), (24, .int _ _), (25, .int _ _), (26, .int _ _)] rfl ?_))
 obtain ⟨J3, hj, hv⟩ := hv
 refine W.mid3 (fun v23_1 v24_1 v25_1 => ⟨254, look [(2, .int .i64 t), (3, .int .i64 part), (9, .bool true), (10, .lst false (factsM xa).length (zYy e69 (factsM xa))), (12, .lst false ((fitM (factsM xa)).1).length (zYy e72 ((fitM (factsM xa)).1))), (22, .int .i64 v22), (23, .int .i64 v23_1), (24, .int .i64 v24_1), (25, .int .i64 v25_1), (26, .int .i64 v26)], [.dead], 0⟩) J3 ?_ ?_
 intro v23_1 v24_1 v25_1
 intro hv
 replace hv := hj v23_1 v24_1 v25_1 hv
 refine W.rL1 (mI rfl rfl ?_)
 obtain ⟨s1289, hv⟩ := hv
 refine cL rfl (o_add rfl rfl s1289 (aI rfl rfl (eL (zZ (⟨(), v23_1, v24_1, v25_1, (v26 + (1 : Int)), hv, St.to_mk (φ := [none]) rfl (rfl) (zT rfl rfl) ⟨rfl, trivial⟩⟩)))))
 clear hj
 refine W.block ?_
 obtain ⟨sd, hv⟩ := hv
 refine W.rDm ⟨254, look [(2, .int .i64 t), (3, .int .i64 part), (9, .bool true), (10, .lst false (factsM xa).length (zYy e69 (factsM xa))), (12, .lst false ((fitM (factsM xa)).1).length (zYy e72 ((fitM (factsM xa)).1))), (22, .int .i64 v22), (23, .int .i64 v23), (24, .int .i64 v24), (25, .int .i64 v25), (26, .int .i64 v26), (139, .bool (decide (((lat (factsM xa) v26).op = (lat (factsM xa) v22).op) /\ ((lat (factsM xa) v26).ver = (lat (factsM xa) v22).ver))))], [.dead], 0⟩ [0, 1, 2, 3, 4, 5, 6, 7, 8, 9, 10, 11, 12, 13, 14, 15, 16, 17, 18, 19, 20, 21, 22, 23] (by decide +kernel) rfl ?_ ?_
 refine mL rfl rfl (mI rfl rfl ?_)
 obtain ⟨s1294, sd⟩ := sd
 refine cL rfl (zYu tt58 tt69 rfl rfl (enc69.wd true) rfl s1294 ?_)
 intro rest1294
 refine cL rfl (o_faP tt69 rfl tt3 rfl (cL rfl (zZx (v := .int _ _) tt3 rfl rfl ⟨_, rfl⟩ (mL rfl rfl (mI rfl rfl ?_)))))
 obtain ⟨s1295, sd⟩ := sd
 refine cL rfl (zYu tt58 tt69 rfl rfl (enc69.wd true) rfl s1295 ?_)
 intro rest1295
 refine cL rfl (o_faP tt69 rfl tt3 rfl (cL rfl (zZx (v := .int _ _) tt3 rfl rfl ⟨_, rfl⟩ (cL rfl (o_eqI rfl rfl rfl (mB rfl rfl ?_))))))
 by_cases c1 : (lat (factsM xa) v26).op = (lat (factsM xa) v22).op
 have sd := sd.1 c1
 refine cLg rfl rfl (dT c1) (mL rfl rfl (cLg rfl rfl (dT c1) (mI rfl rfl (cLg rfl rfl (dT c1) ?_))))
 obtain ⟨s1296, sd⟩ := sd
 refine cL rfl (zYu tt58 tt69 rfl rfl (enc69.wd true) rfl s1296 ?_)
 intro rest1296
 refine cLg rfl rfl (dT c1) (cL rfl (o_faP tt69 rfl tt3 rfl (cLg rfl rfl (dT c1) (cL rfl (zZx (v := .int _ _) tt3 rfl rfl ⟨_, rfl⟩ (cLg rfl rfl (dT c1) (mL rfl rfl (cLg rfl rfl (dT c1) (mI rfl rfl (cLg rfl rfl (dT c1) ?_))))))))))
 obtain ⟨s1297, sd⟩ := sd
 refine cL rfl (zYu tt58 tt69 rfl rfl (enc69.wd true) rfl s1297 ?_)
 intro rest1297
 refine cLg rfl rfl (dT c1) (cL rfl (o_faP tt69 rfl tt3 rfl (cLg rfl rfl (dT c1) (cL rfl (zZx (v := .int _ _) tt3 rfl rfl ⟨_, rfl⟩ (cLg rfl rfl (dT c1) (cL rfl (o_eqI rfl rfl rfl (cL rfl (zZv (v := .bool _) rfl (dT c1) rfl (eL (zYz ⟨rfl, rfl, rfl, rfl, rfl, rfl, rfl, rfl, rfl, rfl, (congrArg AV.bool (zXv c1 (rfl))).symm, trivial⟩ rfl))))))))))))
 iterate 11 refine cLs rfl rfl rfl (dF c1) ?_
 refine cL rfl (zZy (v := .bool _) rfl (dF c1) rfl (eL (zYz ⟨rfl, rfl, rfl, rfl, rfl, rfl, rfl, rfl, rfl, rfl, (congrArg AV.bool (dAndF c1)).symm, trivial⟩ rfl)))
 refine W.cn rfl (fun hc => ?_) (fun hc => ?_)
 have hv := hv.1 hc
 refine W.rL (mI rfl rfl ?_)
 obtain ⟨s1298, hv⟩ := hv
 refine cL rfl (o_add rfl rfl s1298 (aI rfl rfl (eL (W.ty [(2, .int _ _), (3, .int _ _), (9, .bool _), (10, .lst _ _ _), (12, .lst _ _ _), (22, .int _ _), (23, .int _ _), (24, .int _ _), (25, .int _ _), (26, .int _ _)] rfl (W.rL (mI rfl rfl (mL rfl rfl (mI rfl rfl ?_))))))))
 obtain ⟨s1299, hv⟩ := hv
 refine cL rfl (zYu tt58 tt69 rfl rfl (enc69.wd true) rfl s1299 ?_)
 intro rest1299
 refine cL rfl (o_faP tt69 rfl tt3 rfl (cL rfl (zZx (v := .int _ _) tt3 rfl rfl ⟨_, rfl⟩ (cL rfl (o_min rfl rfl (aI rfl rfl (eL (W.ty [(2, .int _ _), (3, .int _ _), (9, .bool _), (10, .lst _ _ _), (12, .lst _ _ _), (22, .int _ _), (23, .int _ _), (24, .int _ _), (25, .int _ _), (26, .int _ _)] rfl (W.rL1 (mI rfl rfl (mL rfl rfl (mI rfl rfl ?_))))))))))))
 obtain ⟨s1300, hv⟩ := hv
 refine cL rfl (zYu tt58 tt69 rfl rfl (enc69.wd true) rfl s1300 ?_)
 intro rest1300
 refine cL rfl (o_faP tt69 rfl tt3 rfl (cL rfl (zZx (v := .int _ _) tt3 rfl rfl ⟨_, rfl⟩ (cL rfl (o_max rfl rfl (aI rfl rfl (eL (zYv (zZ (⟨(), (v23 + (1 : Int)), (min v24 ((lat (factsM xa) v26).lo)), (max v25 ((lat (factsM xa) v26).hi)), hv, St.to_mk (φ := [none]) rfl (rfl) (zT rfl rfl) ⟨rfl, trivial⟩⟩))))))))))
 have hv := hv.2 hc
 refine W.skip (zYv (zZ (⟨(), v23, v24, v25, hv, St.to_mk (φ := [none]) rfl (rfl) (zT rfl rfl) ⟨rfl, trivial⟩⟩)))
 have hv := hv.2 hc
 refine W.exit (zZt (zZt (zYs (zZ (W.ty [(2, .int _ _), (3, .int _ _), (9, .bool _), (10, .lst _ _ _), (12, .lst _ _ _), (22, .int _ _), (23, .int _ _), (24, .int _ _), (25, .int _ _)] rfl (W.rD [0, 1, 2, 3, 4, 5, 6, 7, 8, 9, 10, 11, 12, 13, 14, 15, 16, 17, 18, 19, 20] (by decide +kernel) rfl (mL rfl rfl (mI rfl rfl ?_))))))))
 obtain ⟨s1301, hv⟩ := hv
 refine cL rfl (zYu tt58 tt69 rfl rfl (enc69.wd true) rfl s1301 ?_)
 intro rest1301
 refine cL rfl (o_faP tt69 rfl tt3 rfl (cL rfl (zZx (v := .int _ _) tt3 rfl rfl ⟨_, rfl⟩ (mI rfl rfl (mL rfl rfl (mI rfl rfl ?_))))))
 obtain ⟨s1302, hv⟩ := hv
 refine cL rfl (zYu tt58 tt69 rfl rfl (enc69.wd true) rfl s1302 ?_)
 intro rest1302
 refine cL rfl (o_faP tt69 rfl tt3 rfl (cL rfl (zZx (v := .int _ _) tt3 rfl rfl ⟨_, rfl⟩ (mL rfl rfl (mI rfl rfl ?_)))))
 obtain ⟨s1303, hv⟩ := hv
 refine cL rfl (zYu tt58 tt69 rfl rfl (enc69.wd true) rfl s1303 ?_)
 intro rest1303
 refine cL rfl (o_faP tt69 rfl tt3 rfl (cL rfl (zZx (v := .int _ _) tt3 rfl rfl ⟨_, rfl⟩ ?_)))
 obtain ⟨s1304, hv⟩ := hv
 refine cL rfl (o_sub rfl rfl s1304 ?_)
 obtain ⟨s1305, hv⟩ := hv
 refine cL rfl (o_add rfl rfl s1305 ?_)
 obtain ⟨s1306, s1307, hv⟩ := hv
 refine cL rfl (zZu (k := 16) (fst := []) (caps := []) (ys := [.int _ _, .int _ _]) rfl rfl (spec_pick16 part ((((lat (factsM xa) v22).hi) - ((lat (factsM xa) v22).lo)) + (1 : Int)) s1306 s1307) zk ?_)
 obtain ⟨s1308, hv⟩ := hv
 refine cL rfl (o_add rfl rfl s1308 (aI rfl rfl (eL (W.ty [(2, .int _ _), (3, .int _ _), (9, .bool _), (10, .lst _ _ _), (12, .lst _ _ _), (22, .int _ _), (23, .int _ _), (24, .int _ _), (25, .int _ _), (27, .int _ _)] rfl (W.seq' (W.rP [0, 1, 2, 3, 4, 5, 6, 7, 8, 9, 10, 11, 13, 14, 12, 15] (by decide +kernel) rfl ?_))))))
 iterate 2 refine mL rfl rfl ?_
 refine mI rfl rfl ?_
 obtain ⟨s1312, hv⟩ := hv
 refine cL rfl (zYu tt58 tt69 rfl rfl (enc69.wd true) rfl s1312 ?_)
 intro rest1312
 refine cL rfl (o_faP tt69 rfl tt3 rfl (cL rfl (zZx (v := .int _ _) tt3 rfl rfl ⟨_, rfl⟩ (mL rfl rfl (mI rfl rfl ?_)))))
 obtain ⟨s1313, hv⟩ := hv
 refine cL rfl (zYu tt58 tt69 rfl rfl (enc69.wd true) rfl s1313 ?_)
 intro rest1313
 refine cL rfl (o_faP tt69 rfl tt3 rfl (cL rfl (zZx (v := .int _ _) tt3 rfl rfl ⟨_, rfl⟩ ?_)))
 iterate 2 refine mI rfl rfl ?_
 refine cL rfl (o_geq rfl rfl ?_)
 obtain ⟨s1314, hv⟩ := hv
 refine cL rfl (zZu (k := 33) (fst := []) (caps := []) (ys := [.lst _ _ _, .int _ _, .int _ _, .int _ _]) rfl rfl (spec_allows ((fitM (factsM xa)).1) ((lat (factsM xa) v22).op) ((lat (factsM xa) v22).ver) (((lat (factsM xa) v22).lo) + (pickM part ((((lat (factsM xa) v22).hi) - ((lat (factsM xa) v22).lo)) + (1 : Int)))) s1314) zk (cL rfl (o_neB rfl tt4 rfl rfl (eL (W.ty [(2, .int _ _), (3, .int _ _), (9, .bool _), (10, .lst _ _ _), (12, .lst _ _ _), (22, .int _ _), (24, .int _ _), (25, .int _ _), (191, .bool _)] rfl (W.cn rfl (fun hc => ?_) (fun hc => ?_)))))))
 have hv := hv.1 hc
 refine W.rL (aB rfl rfl (eL (W.ty [(8, .bool _)] rfl (W.ret (zZr (zYt (zZr (zZr (zYt (zZr (rt (rt_t (v := .bool _) rfl (rt_n (⟨_, zYr _ _ _, false, rfl, hv⟩))))))))))))))
 have hv := hv.2 hc
 refine W.skip (zZ (W.ty [(2, .int _ _), (3, .int _ _), (9, .bool _), (10, .lst _ _ _), (12, .lst _ _ _), (22, .int _ _), (24, .int _ _), (25, .int _ _)] rfl ?_))
 obtain ⟨sd, hv⟩ := hv
 refine W.rDm ⟨254, look [(2, .int .i64 t), (3, .int .i64 part), (9, .bool true), (10, .lst false (factsM xa).length (zYy e69 (factsM xa))), (12, .lst false ((fitM (factsM xa)).1).length (zYy e72 ((fitM (factsM xa)).1))), (22, .int .i64 v22), (246, .bool (decide ((t < v24) /\ (((allowsM ((fitM (factsM xa)).1) ((lat (factsM xa) v22).op) ((lat (factsM xa) v22).ver) t) = true) \/ (((allowsM ((fitM (factsM xa)).1) ((lat (factsM xa) v22).op) ((lat (factsM xa) v22).ver) (v24 - (1 : Int))) = true) \/ ((allowsM ((fitM (factsM xa)).1) ((lat (factsM xa) v22).op) ((lat (factsM xa) v22).ver) (v25 + (1 : Int))) = true))) \/ ¬ (t < v24) /\ ((v25 < t) /\ (((allowsM ((fitM (factsM xa)).1) ((lat (factsM xa) v22).op) ((lat (factsM xa) v22).ver) t) = true) \/ (((allowsM ((fitM (factsM xa)).1) ((lat (factsM xa) v22).op) ((lat (factsM xa) v22).ver) (v24 - (1 : Int))) = true) \/ ((allowsM ((fitM (factsM xa)).1) ((lat (factsM xa) v22).op) ((lat (factsM xa) v22).ver) (v25 + (1 : Int))) = true))) \/ ¬ (v25 < t) /\ (((allowsM ((fitM (factsM xa)).1) ((lat (factsM xa) v22).op) ((lat (factsM xa) v22).ver) (v24 - (1 : Int))) = true) \/ ((allowsM ((fitM (factsM xa)).1) ((lat (factsM xa) v22).op) ((lat (factsM xa) v22).ver) (v25 + (1 : Int))) = true))))))], [.dead], 0⟩ [0, 1, 2, 3, 4, 5, 6, 7, 8, 9, 10, 11, 12, 13, 14, 15, 16, 17, 18, 19, 20, 21, 22, 23, 24, 25, 26, 27, 28, 29, 30, 31, 32, 33, 34, 35, 36, 37, 38, 39, 40, 41, 42, 43, 44, 45, 46, 47, 48, 49, 50, 51, 52, 53, 54] (by decide +kernel) rfl ?_ ?_
 iterate 2 refine mI rfl rfl ?_
 refine cL rfl (zYq rfl rfl (mB rfl rfl ?_))
 by_cases c1 : t < v24
 have sd := sd.1 c1
 iterate 3 refine cLs rfl rfl rfl (dT c1) ?_
 refine cL rfl (zZv (v := .bool _) rfl (dT c1) rfl (mB rfl rfl (cLg rfl rfl (rfl) (mL rfl rfl (cLg rfl rfl (rfl) (mL rfl rfl (cLg rfl rfl (rfl) (mI rfl rfl (cLg rfl rfl (rfl) ?_)))))))))
 obtain ⟨s1345, sd⟩ := sd
 refine cL rfl (zYu tt58 tt69 rfl rfl (enc69.wd true) rfl s1345 ?_)
 intro rest1345
 refine cLg rfl rfl (rfl) (cL rfl (o_faP tt69 rfl tt3 rfl (cLg rfl rfl (rfl) (cL rfl (zZx (v := .int _ _) tt3 rfl rfl ⟨_, rfl⟩ (cLg rfl rfl (rfl) (mL rfl rfl (cLg rfl rfl (rfl) (mI rfl rfl (cLg rfl rfl (rfl) ?_))))))))))
 obtain ⟨s1346, sd⟩ := sd
 refine cL rfl (zYu tt58 tt69 rfl rfl (enc69.wd true) rfl s1346 ?_)
 intro rest1346
 refine cLg rfl rfl (rfl) (cL rfl (o_faP tt69 rfl tt3 rfl (cLg rfl rfl (rfl) (cL rfl (zZx (v := .int _ _) tt3 rfl rfl ⟨_, rfl⟩ (cLg rfl rfl (rfl) (mI rfl rfl (cLg rfl rfl (rfl) ?_))))))))
 obtain ⟨s1347, sd⟩ := sd
 refine cL rfl (zZu (k := 33) (fst := []) (caps := []) (ys := [.lst _ _ _, .int _ _, .int _ _, .int _ _]) rfl rfl (spec_allows ((fitM (factsM xa)).1) ((lat (factsM xa) v22).op) ((lat (factsM xa) v22).ver) t s1347) zk (cL rfl (zZv (v := .bool _) rfl rfl rfl (mB rfl rfl ?_))))
 by_cases c2 : (allowsM ((fitM (factsM xa)).1) ((lat (factsM xa) v22).op) ((lat (factsM xa) v22).ver) t) = true
 iterate 14 refine cLs rfl rfl rfl (c2) ?_
 refine cL rfl (zZv (v := .bool _) rfl c2 rfl (mB rfl rfl ?_))
 iterate 14 refine cLs rfl rfl rfl (rfl) ?_
 refine cL rfl (zZv (v := .bool _) rfl rfl rfl (eL (zYz ⟨rfl, rfl, rfl, rfl, rfl, rfl, (congrArg AV.bool (dIteT c1 (dOrT c2))).symm, trivial⟩ rfl)))
 have sd := sd.2 c2
 refine cLg rfl rfl ((Bool.eq_false_iff.2 c2)) (mL rfl rfl (cLg rfl rfl ((Bool.eq_false_iff.2 c2)) (mL rfl rfl (cLg rfl rfl ((Bool.eq_false_iff.2 c2)) (mI rfl rfl (cLg rfl rfl ((Bool.eq_false_iff.2 c2)) ?_))))))
 obtain ⟨s1348, sd⟩ := sd
 refine cL rfl (zYu tt58 tt69 rfl rfl (enc69.wd true) rfl s1348 ?_)
 intro rest1348
 refine cLg rfl rfl ((Bool.eq_false_iff.2 c2)) (cL rfl (o_faP tt69 rfl tt3 rfl (cLg rfl rfl ((Bool.eq_false_iff.2 c2)) (cL rfl (zZx (v := .int _ _) tt3 rfl rfl ⟨_, rfl⟩ (cLg rfl rfl ((Bool.eq_false_iff.2 c2)) (mL rfl rfl (cLg rfl rfl ((Bool.eq_false_iff.2 c2)) (mI rfl rfl (cLg rfl rfl ((Bool.eq_false_iff.2 c2)) ?_))))))))))
 obtain ⟨s1349, sd⟩ := sd
 refine cL rfl (zYu tt58 tt69 rfl rfl (enc69.wd true) rfl s1349 ?_)
 intro rest1349
 refine cLg rfl rfl ((Bool.eq_false_iff.2 c2)) (cL rfl (o_faP tt69 rfl tt3 rfl (cLg rfl rfl ((Bool.eq_false_iff.2 c2)) (cL rfl (zZx (v := .int _ _) tt3 rfl rfl ⟨_, rfl⟩ (cLg rfl rfl ((Bool.eq_false_iff.2 c2)) (mI rfl rfl (cLg rfl rfl ((Bool.eq_false_iff.2 c2)) ?_))))))))
 obtain ⟨s1350, sd⟩ := sd
 refine cL rfl (o_sub rfl rfl s1350 (cLg rfl rfl ((Bool.eq_false_iff.2 c2)) ?_))
 obtain ⟨s1351, sd⟩ := sd
 refine cL rfl (zZu (k := 33) (fst := []) (caps := []) (ys := [.lst _ _ _, .int _ _, .int _ _, .int _ _]) rfl rfl (spec_allows ((fitM (factsM xa)).1) ((lat (factsM xa) v22).op) ((lat (factsM xa) v22).ver) (v24 - (1 : Int)) s1351) zk (cL rfl (zZy (v := .bool _) rfl (Bool.eq_false_iff.2 c2) rfl (mB rfl rfl ?_))))
 by_cases c3 : (allowsM ((fitM (factsM xa)).1) ((lat (factsM xa) v22).op) ((lat (factsM xa) v22).ver) (v24 - (1 : Int))) = true
 iterate 14 refine cLs rfl rfl rfl (c3) ?_
 refine cL rfl (zZv (v := .bool _) rfl c3 rfl (eL (zYz ⟨rfl, rfl, rfl, rfl, rfl, rfl, (congrArg AV.bool (dIteT c1 (dOrF c2 (dOrT c3)))).symm, trivial⟩ rfl)))
 have sd := sd.2 c3
 refine cLg rfl rfl ((Bool.eq_false_iff.2 c3)) (mL rfl rfl (cLg rfl rfl ((Bool.eq_false_iff.2 c3)) (mL rfl rfl (cLg rfl rfl ((Bool.eq_false_iff.2 c3)) (mI rfl rfl (cLg rfl rfl ((Bool.eq_false_iff.2 c3)) ?_))))))
 obtain ⟨s1352, sd⟩ := sd
 refine cL rfl (zYu tt58 tt69 rfl rfl (enc69.wd true) rfl s1352 ?_)
 intro rest1352
 refine cLg rfl rfl ((Bool.eq_false_iff.2 c3)) (cL rfl (o_faP tt69 rfl tt3 rfl (cLg rfl rfl ((Bool.eq_false_iff.2 c3)) (cL rfl (zZx (v := .int _ _) tt3 rfl rfl ⟨_, rfl⟩ (cLg rfl rfl ((Bool.eq_false_iff.2 c3)) (mL rfl rfl (cLg rfl rfl ((Bool.eq_false_iff.2 c3)) (mI rfl rfl (cLg rfl rfl ((Bool.eq_false_iff.2 c3)) ?_))))))))))
 obtain ⟨s1353, sd⟩ := sd
 refine cL rfl (zYu tt58 tt69 rfl rfl (enc69.wd true) rfl s1353 ?_)
 intro rest1353
 refine cLg rfl rfl ((Bool.eq_false_iff.2 c3)) (cL rfl (o_faP tt69 rfl tt3 rfl (cLg rfl rfl ((Bool.eq_false_iff.2 c3)) (cL rfl (zZx (v := .int _ _) tt3 rfl rfl ⟨_, rfl⟩ (cLg rfl rfl ((Bool.eq_false_iff.2 c3)) (mI rfl rfl (cLg rfl rfl ((Bool.eq_false_iff.2 c3)) ?_))))))))
 obtain ⟨s1354, sd⟩ := sd
 refine cL rfl (o_add rfl rfl s1354 (cLg rfl rfl ((Bool.eq_false_iff.2 c3)) ?_))
 obtain ⟨s1355, sd⟩ := sd
 refine cL rfl (zZu (k := 33) (fst := []) (caps := []) (ys := [.lst _ _ _, .int _ _, .int _ _, .int _ _]) rfl rfl (spec_allows ((fitM (factsM xa)).1) ((lat (factsM xa) v22).op) ((lat (factsM xa) v22).ver) (v25 + (1 : Int)) s1355) zk (cL rfl (zZy (v := .bool _) rfl (Bool.eq_false_iff.2 c3) rfl (eL (zYz ⟨rfl, rfl, rfl, rfl, rfl, rfl, (congrArg AV.bool (dIteT c1 (dOrF c2 (dOrF c3 (dVar _))))).symm, trivial⟩ rfl)))))
 have sd := sd.2 c1
 refine cLg rfl rfl (dF c1) (mI rfl rfl (cLg rfl rfl (dF c1) (mI rfl rfl (cLg rfl rfl (dF c1) (cL rfl (o_gtr rfl rfl (cL rfl (zZy (v := .bool _) rfl (dF c1) rfl (mB rfl rfl ?_)))))))))
 by_cases c4 : v25 < t
 have sd := sd.1 c4
 refine cLg rfl rfl (dT c4) (mL rfl rfl (cLg rfl rfl (dT c4) (mL rfl rfl (cLg rfl rfl (dT c4) (mI rfl rfl (cLg rfl rfl (dT c4) ?_))))))
 obtain ⟨s1356, sd⟩ := sd
 refine cL rfl (zYu tt58 tt69 rfl rfl (enc69.wd true) rfl s1356 ?_)
 intro rest1356
 refine cLg rfl rfl (dT c4) (cL rfl (o_faP tt69 rfl tt3 rfl (cLg rfl rfl (dT c4) (cL rfl (zZx (v := .int _ _) tt3 rfl rfl ⟨_, rfl⟩ (cLg rfl rfl (dT c4) (mL rfl rfl (cLg rfl rfl (dT c4) (mI rfl rfl (cLg rfl rfl (dT c4) ?_))))))))))
 obtain ⟨s1357, sd⟩ := sd
 refine cL rfl (zYu tt58 tt69 rfl rfl (enc69.wd true) rfl s1357 ?_)
 intro rest1357
 refine cLg rfl rfl (dT c4) (cL rfl (o_faP tt69 rfl tt3 rfl (cLg rfl rfl (dT c4) (cL rfl (zZx (v := .int _ _) tt3 rfl rfl ⟨_, rfl⟩ (cLg rfl rfl (dT c4) (mI rfl rfl (cLg rfl rfl (dT c4) ?_))))))))
 obtain ⟨s1358, sd⟩ := sd
 refine cL rfl (zZu (k := 33) (fst := []) (caps := []) (ys := [.lst _ _ _, .int _ _, .int _ _, .int _ _]) rfl rfl (spec_allows ((fitM (factsM xa)).1) ((lat (factsM xa) v22).op) ((lat (factsM xa) v22).ver) t s1358) zk (cL rfl (zZv (v := .bool _) rfl (dT c4) rfl (mB rfl rfl ?_))))
 by_cases c5 : (allowsM ((fitM (factsM xa)).1) ((lat (factsM xa) v22).op) ((lat (factsM xa) v22).ver) t) = true
 iterate 14 refine cLs rfl rfl rfl (c5) ?_
 refine cL rfl (zZv (v := .bool _) rfl c5 rfl (mB rfl rfl ?_))
 iterate 14 refine cLs rfl rfl rfl (rfl) ?_
 refine cL rfl (zZv (v := .bool _) rfl rfl rfl (eL (zYz ⟨rfl, rfl, rfl, rfl, rfl, rfl, (congrArg AV.bool (dIteF c1 (dIteT c4 (dOrT c5)))).symm, trivial⟩ rfl)))
 have sd := sd.2 c5
 refine cLg rfl rfl ((Bool.eq_false_iff.2 c5)) (mL rfl rfl (cLg rfl rfl ((Bool.eq_false_iff.2 c5)) (mL rfl rfl (cLg rfl rfl ((Bool.eq_false_iff.2 c5)) (mI rfl rfl (cLg rfl rfl ((Bool.eq_false_iff.2 c5)) ?_))))))
 obtain ⟨s1359, sd⟩ := sd
 refine cL rfl (zYu tt58 tt69 rfl rfl (enc69.wd true) rfl s1359 ?_)
 intro rest1359
 refine cLg rfl rfl ((Bool.eq_false_iff.2 c5)) (cL rfl (o_faP tt69 rfl tt3 rfl (cLg rfl rfl ((Bool.eq_false_iff.2 c5)) (cL rfl (zZx (v := .int _ _) tt3 rfl rfl ⟨_, rfl⟩ (cLg rfl rfl ((Bool.eq_false_iff.2 c5)) (mL rfl rfl (cLg rfl rfl ((Bool.eq_false_iff.2 c5)) (mI rfl rfl (cLg rfl rfl ((Bool.eq_false_iff.2 c5)) ?_))))))))))
 obtain ⟨s1360, sd⟩ := sd
 refine cL rfl (zYu tt58 tt69 rfl rfl (enc69.wd true) rfl s1360 ?_)
 intro rest1360
 refine cLg rfl rfl ((Bool.eq_false_iff.2 c5)) (cL rfl (o_faP tt69 rfl tt3 rfl (cLg rfl rfl ((Bool.eq_false_iff.2 c5)) (cL rfl (zZx (v := .int _ _) tt3 rfl rfl ⟨_, rfl⟩ (cLg rfl rfl ((Bool.eq_false_iff.2 c5)) (mI rfl rfl (cLg rfl rfl ((Bool.eq_false_iff.2 c5)) ?_))))))))
 obtain ⟨s1361, sd⟩ := sd
 refine cL rfl (o_sub rfl rfl s1361 (cLg rfl rfl ((Bool.eq_false_iff.2 c5)) ?_))
 obtain ⟨s1362, sd⟩ := sd
 refine cL rfl (zZu (k := 33) (fst := []) (caps := []) (ys := [.lst _ _ _, .int _ _, .int _ _, .int _ _]) rfl rfl (spec_allows ((fitM (factsM xa)).1) ((lat (factsM xa) v22).op) ((lat (factsM xa) v22).ver) (v24 - (1 : Int)) s1362) zk (cL rfl (zZy (v := .bool _) rfl (Bool.eq_false_iff.2 c5) rfl (mB rfl rfl ?_))))
 by_cases c6 : (allowsM ((fitM (factsM xa)).1) ((lat (factsM xa) v22).op) ((lat (factsM xa) v22).ver) (v24 - (1 : Int))) = true
 iterate 14 refine cLs rfl rfl rfl (c6) ?_
 refine cL rfl (zZv (v := .bool _) rfl c6 rfl (eL (zYz ⟨rfl, rfl, rfl, rfl, rfl, rfl, (congrArg AV.bool (dIteF c1 (dIteT c4 (dOrF c5 (dOrT c6))))).symm, trivial⟩ rfl)))
 have sd := sd.2 c6
 refine cLg rfl rfl ((Bool.eq_false_iff.2 c6)) (mL rfl rfl (cLg rfl rfl ((Bool.eq_false_iff.2 c6)) (mL rfl rfl (cLg rfl rfl ((Bool.eq_false_iff.2 c6)) (mI rfl rfl (cLg rfl rfl ((Bool.eq_false_iff.2 c6)) ?_))))))
 obtain ⟨s1363, sd⟩ := sd
 refine cL rfl (zYu tt58 tt69 rfl rfl (enc69.wd true) rfl s1363 ?_)
 intro rest1363
 refine cLg rfl rfl ((Bool.eq_false_iff.2 c6)) (cL rfl (o_faP tt69 rfl tt3 rfl (cLg rfl rfl ((Bool.eq_false_iff.2 c6)) (cL rfl (zZx (v := .int _ _) tt3 rfl rfl ⟨_, rfl⟩ (cLg rfl rfl ((Bool.eq_false_iff.2 c6)) (mL rfl rfl (cLg rfl rfl ((Bool.eq_false_iff.2 c6)) (mI rfl rfl (cLg rfl rfl ((Bool.eq_false_iff.2 c6)) ?_))))))))))
 obtain ⟨s1364, sd⟩ := sd
 refine cL rfl (zYu tt58 tt69 rfl rfl (enc69.wd true) rfl s1364 ?_)
 intro rest1364
 refine cLg rfl rfl ((Bool.eq_false_iff.2 c6)) (cL rfl (o_faP tt69 rfl tt3 rfl (cLg rfl rfl ((Bool.eq_false_iff.2 c6)) (cL rfl (zZx (v := .int _ _) tt3 rfl rfl ⟨_, rfl⟩ (cLg rfl rfl ((Bool.eq_false_iff.2 c6)) (mI rfl rfl (cLg rfl rfl ((Bool.eq_false_iff.2 c6)) ?_))))))))
 obtain ⟨s1365, sd⟩ := sd
 refine cL rfl (o_add rfl rfl s1365 (cLg rfl rfl ((Bool.eq_false_iff.2 c6)) ?_))
 obtain ⟨s1366, sd⟩ := sd
 refine cL rfl (zZu (k := 33) (fst := []) (caps := []) (ys := [.lst _ _ _, .int _ _, .int _ _, .int _ _]) rfl rfl (spec_allows ((fitM (factsM xa)).1) ((lat (factsM xa) v22).op) ((lat (factsM xa) v22).ver) (v25 + (1 : Int)) s1366) zk (cL rfl (zZy (v := .bool _) rfl (Bool.eq_false_iff.2 c6) rfl (eL (zYz ⟨rfl, rfl, rfl, rfl, rfl, rfl, (congrArg AV.bool (dIteF c1 (dIteT c4 (dOrF c5 (dOrF c6 (dVar _)))))).symm, trivial⟩ rfl)))))
 have sd := sd.2 c4
 iterate 13 refine cLs rfl rfl rfl (dF c4) ?_
 refine cL rfl (zZy (v := .bool _) rfl (dF c4) rfl (mB rfl rfl (cLg rfl rfl (rfl) (mL rfl rfl (cLg rfl rfl (rfl) (mL rfl rfl (cLg rfl rfl (rfl) (mI rfl rfl (cLg rfl rfl (rfl) ?_)))))))))
 obtain ⟨s1367, sd⟩ := sd
 refine cL rfl (zYu tt58 tt69 rfl rfl (enc69.wd true) rfl s1367 ?_)
 intro rest1367
 refine cLg rfl rfl (rfl) (cL rfl (o_faP tt69 rfl tt3 rfl (cLg rfl rfl (rfl) (cL rfl (zZx (v := .int _ _) tt3 rfl rfl ⟨_, rfl⟩ (cLg rfl rfl (rfl) (mL rfl rfl (cLg rfl rfl (rfl) (mI rfl rfl (cLg rfl rfl (rfl) ?_))))))))))
 obtain ⟨s1368, sd⟩ := sd
 refine cL rfl (zYu tt58 tt69 rfl rfl (enc69.wd true) rfl s1368 ?_)
 intro rest1368
 refine cLg rfl rfl (rfl) (cL rfl (o_faP tt69 rfl tt3 rfl (cLg rfl rfl (rfl) (cL rfl (zZx (v := .int _ _) tt3 rfl rfl ⟨_, rfl⟩ (cLg rfl rfl (rfl) (mI rfl rfl (cLg rfl rfl (rfl) ?_))))))))
 obtain ⟨s1369, sd⟩ := sd
 refine cL rfl (o_sub rfl rfl s1369 (cLg rfl rfl (rfl) ?_))
 obtain ⟨s1370, sd⟩ := sd
 refine cL rfl (zZu (k := 33) (fst := []) (caps := []) (ys := [.lst _ _ _, .int _ _, .int _ _, .int _ _]) rfl rfl (spec_allows ((fitM (factsM xa)).1) ((lat (factsM xa) v22).op) ((lat (factsM xa) v22).ver) (v24 - (1 : Int)) s1370) zk (cL rfl (zZy (v := .bool _) rfl rfl rfl (mB rfl rfl ?_))))
 by_cases c7 : (allowsM ((fitM (factsM xa)).1) ((lat (factsM xa) v22).op) ((lat (factsM xa) v22).ver) (v24 - (1 : Int))) = true
 iterate 14 refine cLs rfl rfl rfl (c7) ?_
 refine cL rfl (zZv (v := .bool _) rfl c7 rfl (eL (zYz ⟨rfl, rfl, rfl, rfl, rfl, rfl, (congrArg AV.bool (dIteF c1 (dIteF c4 (dOrT c7)))).symm, trivial⟩ rfl)))
 have sd := sd.2 c7
 refine cLg rfl rfl ((Bool.eq_false_iff.2 c7)) (mL rfl rfl (cLg rfl rfl ((Bool.eq_false_iff.2 c7)) (mL rfl rfl (cLg rfl rfl ((Bool.eq_false_iff.2 c7)) (mI rfl rfl (cLg rfl rfl ((Bool.eq_false_iff.2 c7)) ?_))))))
 obtain ⟨s1371, sd⟩ := sd
 refine cL rfl (zYu tt58 tt69 rfl rfl (enc69.wd true) rfl s1371 ?_)
 intro rest1371
 refine cLg rfl rfl ((Bool.eq_false_iff.2 c7)) (cL rfl (o_faP tt69 rfl tt3 rfl (cLg rfl rfl ((Bool.eq_false_iff.2 c7)) (cL rfl (zZx (v := .int _ _) tt3 rfl rfl ⟨_, rfl⟩ (cLg rfl rfl ((Bool.eq_false_iff.2 c7)) (mL rfl rfl (cLg rfl rfl ((Bool.eq_false_iff.2 c7)) (mI rfl rfl (cLg rfl rfl ((Bool.eq_false_iff.2 c7)) ?_))))))))))
 obtain ⟨s1372, sd⟩ := sd
 refine cL rfl (zYu tt58 tt69 rfl rfl (enc69.wd true) rfl s1372 ?_)
 intro rest1372
 refine cLg rfl rfl ((Bool.eq_false_iff.2 c7)) (cL rfl (o_faP tt69 rfl tt3 rfl (cLg rfl rfl ((Bool.eq_false_iff.2 c7)) (cL rfl (zZx (v := .int _ _) tt3 rfl rfl ⟨_, rfl⟩ (cLg rfl rfl ((Bool.eq_false_iff.2 c7)) (mI rfl rfl (cLg rfl rfl ((Bool.eq_false_iff.2 c7)) ?_))))))))
 obtain ⟨s1373, sd⟩ := sd
 refine cL rfl (o_add rfl rfl s1373 (cLg rfl rfl ((Bool.eq_false_iff.2 c7)) ?_))
 obtain ⟨s1374, sd⟩ := sd
 refine cL rfl (zZu (k := 33) (fst := []) (caps := []) (ys := [.lst _ _ _, .int _ _, .int _ _, .int _ _]) rfl rfl (spec_allows ((fitM (factsM xa)).1) ((lat (factsM xa) v22).op) ((lat (factsM xa) v22).ver) (v25 + (1 : Int)) s1374) zk (cL rfl (zZy (v := .bool _) rfl (Bool.eq_false_iff.2 c7) rfl (eL (zYz ⟨rfl, rfl, rfl, rfl, rfl, rfl, (congrArg AV.bool (dIteF c1 (dIteF c4 (dOrF c7 (dVar _))))).symm, trivial⟩ rfl)))))
 refine W.cn rfl (fun hc => ?_) (fun hc => ?_)
 have hv := hv.1 hc
 refine W.rL (aB rfl rfl (eL (W.ty [(8, .bool _)] rfl (W.ret (zYt (zZr (zZr (zYt (zZr (rt (rt_t (v := .bool _) rfl (rt_n (⟨_, zYr _ _ _, false, rfl, hv⟩)))))))))))))
 have hv := hv.2 hc
 refine W.skip (zYv (zZ (W.ty [(2, .int _ _), (3, .int _ _), (9, .bool _), (10, .lst _ _ _), (12, .lst _ _ _), (22, .int _ _)] rfl (W.rL1 (mI rfl rfl ?_)))))
 obtain ⟨s1375, hv⟩ := hv
 refine cL rfl (o_add rfl rfl s1375 (aI rfl rfl (eL (zZ (⟨(), (v22 + (1 : Int)), hv, St.to_mk (φ := [none]) rfl (rfl) (zT rfl rfl) ⟨rfl, trivial⟩⟩)))))
 have hv := hv.2 hc
 refine W.exit (zZt (zZt (zYs (zZ (W.ty [(2, .int _ _), (9, .bool _), (12, .lst _ _ _)] rfl ?_)))))
 obtain ⟨sd, hv⟩ := hv
 refine W.rLm ⟨254, look [(8, .bool (decide (¬ ((allowsM ((fitM (factsM xa)).1) (11 : Int) (9 : Int) t) = true))))], [.dead], 0⟩ ?_ ?_
 iterate 2 refine mB rfl rfl ?_
 refine cLg rfl rfl (rfl) (mL rfl rfl (cLg rfl rfl (rfl) (mI rfl rfl (cLg rfl rfl (rfl) ?_))))
 obtain ⟨s1377, sd⟩ := sd
 refine cL rfl (zZu (k := 33) (fst := []) (caps := []) (ys := [.lst _ _ _, .int _ _, .int _ _, .int _ _]) rfl rfl (spec_allows ((fitM (factsM xa)).1) (11 : Int) (9 : Int) t s1377) zk (cLg rfl rfl (rfl) (cL rfl (o_notB rfl (cL rfl (zZv (v := .bool _) rfl rfl rfl (aB rfl rfl (eL (zYz ⟨rfl, trivial⟩ rfl)))))))))
 refine W.ret (rt (rt_t (v := .bool _) rfl (rt_n (⟨_, zYr _ _ _, (decide (¬ ((allowsM ((fitM (factsM xa)).1) (11 : Int) (9 : Int) t) = true))), rfl, hv⟩))))
set_option maxHeartbeats 4000000 in
theorem vcp_lawobs (xa : (List (Vector Int 4))) (xb : (List (Vector Int 4))) (t : Int) (part : Int) (h0 : xa.length <= 9223372036854775807 /\ ∀ z ∈ xa, ∀ k, inI (vat z k)) (h1 : xb.length <= 9223372036854775807 /\ ∀ z ∈ xb, ∀ k, inI (vat z k)) (h2 : inI part) : vc_lawobs xa xb t part (fun q0 => q0 = (true)) := by
  have fF := FitR.made xa
  have fG := FitR.made xb
  have lF := (facts_ok xa).1
  have lG := (facts_ok xb).1
  have hno := facts_op xa
  have fB : FitR (factsM xb ++ factsM xa) := ⟨by rw [List.length_append]; omega, fun f hf => (List.mem_append.1 hf).elim (fG.ok f) (fF.ok f)⟩
  have v1 := fF.valid
  have v2 := fG.valid
  have v3 := fB.valid
  have e1 := fF.fit
  have e2 := fG.fit
  have e3 := fB.fit
  have a1 := fF.allows
  have hok := fF.ok
  have l1 := joinM_len' ((factsM xa).map fRg)
  have l2 := joinM_len' ((factsM xb).map fRg)
  have l3 := joinM_len' ((factsM xb ++ factsM xa).map fRg)
  rw [List.length_map] at l1 l2 l3
  have hb := join_both ((factsM xa).map fRg) ((factsM xb).map fRg)
  rw [<- List.map_append] at hb
  have j1 : joinE (joinM ((factsM xa).map fRg)) (joinM ((factsM xb).map fRg)) = (joinM ((factsM xb ++ factsM xa).map fRg), 0) := by
    unfold joinE; rw [hb.1, if_pos ⟨v1, v2, v3⟩]
  have j2 : joinE (joinM ((factsM xb).map fRg)) (joinM ((factsM xa).map fRg)) = (joinM ((factsM xb ++ factsM xa).map fRg), 0) := by
    unfold joinE; rw [hb.2, if_pos ⟨v2, v1, v3⟩]
  have hGF : (factsM xb ++ factsM xa).length <= 80 := by rw [List.length_append]; omega
  unfold vc_lawobs
  rw [e1, e2, e3]
  dsimp only
  rw [j1, j2]
  generalize joinM ((factsM xb ++ factsM xa).map fRg) = B at *
  generalize factsM xb ++ factsM xa = GF at *
  generalize joinM ((factsM xa).map fRg) = A at *
  generalize joinM ((factsM xb).map fRg) = Bb at *
  generalize factsM xb = G at *
  generalize factsM xa = F at *
  refine ⟨h0.1, h0.2, h1.1, h1.2, by omega, by omega, by omega, by omega, by omega, by omega, by omega, ⟨fun _ => trivial, fun _ => ⟨fun _ => trivial, fun _ => ⟨fun _ => trivial, fun _ => ⟨fun _ => trivial, fun _ => ⟨fun _ => trivial, fun _ => ⟨by show B.length <= _; omega, by omega, fun _ => trivial, fun _ => ⟨by show B.length <= _; omega, by show B.length <= _; omega, trivial⟩⟩⟩⟩⟩⟩⟩, fun k => ?_, fun _ => ?_⟩
  . exact (k.elim (fun a => a rfl) fun k => k.elim (fun a => a rfl) fun k => k.elim (fun a => a rfl) fun k => k.elim (fun a => a rfl) fun k => k.elim (fun a => a rfl) fun k => k.elim (fun a => a rfl) fun a => a rfl).elim
  refine ⟨fun v => ∃ i : Nat, v = i /\ i <= F.length, fun v => F.length - v.toNat, ⟨0, rfl, by omega⟩, ?_⟩
  rintro _ ⟨i, rfl, hi⟩
  refine ⟨fun k1 => ?_, fun k1 => ⟨⟨by omega, trivial⟩, ?_⟩⟩
  . have ix : 0 <= (i : Int) /\ (i : Int) < (F.length : Int) := ⟨by omega, k1⟩
    have hf := factOk_iff (hok _ (lat_mem (xs := F) (i := (i : Int)) ix))
    have hfm : lat F (i : Int) ∈ F := lat_mem ix
    generalize hfe : lat F (i : Int) = f at *
    refine ⟨ix, ix, fun c lo hi w => ∃ n : Nat, w = n /\ n <= F.length /\ c = manyF (F.take n) f.op f.ver /\ (0 <= lo /\ lo <= f.lo /\ ∀ g ∈ F.take n, sameF f.op f.ver g = true -> lo <= g.lo) /\ (f.hi <= hi /\ hi <= 4398046511104 /\ ∀ g ∈ F.take n, sameF f.op f.ver g = true -> g.hi <= hi), fun _ _ _ w => F.length - w.toNat, ⟨0, rfl, by omega, rfl, ⟨by omega, by omega, fun g hg => by simp at hg⟩, ⟨by omega, by omega, fun g hg => by simp at hg⟩⟩, ?_⟩
    rintro c lo hi' _ ⟨n, rfl, hn, hc, ⟨p1, p2, p3⟩, ⟨q1, q2, q3⟩⟩
    have hmany : manyF (F.take n) f.op f.ver <= 40 := by
      have h1 := List.countP_le_length (p := sameF f.op f.ver) (l := F.take n)
      have h2 : (F.take n).length <= F.length := by rw [List.length_take]; omega
      unfold manyF; omega
    refine ⟨fun k2 => ?_, fun k2 => ?_⟩
    . have iw : 0 <= (n : Int) /\ (n : Int) < (F.length : Int) := ⟨by omega, k2⟩
      have hg := factOk_iff (hok _ (lat_mem (xs := F) (i := (n : Int)) iw))
      have et : F.take (n + 1) = F.take n ++ [lat F (n : Int)] := take_succ_lat (by omega)
      have hm1 : manyF (F.take (n + 1)) f.op f.ver = manyF (F.take n) f.op f.ver + if sameF f.op f.ver (lat F (n : Int)) = true then 1 else 0 := by
        unfold manyF; rw [et, List.countP_append]; simp
      generalize lat F (n : Int) = g at *
      refine ⟨fun c' lo' hi'' => c' = manyF (F.take (n + 1)) f.op f.ver /\ (0 <= lo' /\ lo' <= f.lo /\ ∀ g ∈ F.take (n + 1), sameF f.op f.ver g = true -> lo' <= g.lo) /\ (f.hi <= hi'' /\ hi'' <= 4398046511104 /\ ∀ g ∈ F.take (n + 1), sameF f.op f.ver g = true -> g.hi <= hi''), fun c' lo' hi'' hJ => ⟨by unfold inI; omega, ⟨n + 1, by omega, by omega, hJ.1, hJ.2.1, hJ.2.2⟩, dec_lt k2⟩, ⟨iw, ix, fun _ => ⟨iw, ix, trivial⟩, fun _ => trivial⟩, fun k3 => ⟨by unfold inI; omega, iw, iw, ?_, ⟨by omega, by omega, fun z hz hs => ?_⟩, ⟨by omega, by omega, fun z hz hs => ?_⟩⟩, fun k3 => ⟨?_, ⟨p1, p2, fun z hz hs => ?_⟩, ⟨q1, q2, fun z hz hs => ?_⟩⟩⟩
      . have hs1 : sameF f.op f.ver g = true := decide_eq_true k3
        rw [hm1, if_pos hs1]; omega
      . rw [et, List.mem_append, List.mem_singleton] at hz
        rcases hz with hz | rfl
        . have := p3 z hz hs; omega
        . omega
      . rw [et, List.mem_append, List.mem_singleton] at hz
        rcases hz with hz | rfl
        . have := q3 z hz hs; omega
        . omega
      . have hs1 : ¬ sameF f.op f.ver g = true := fun h => k3 (of_decide_eq_true h)
        rw [hm1, if_neg hs1]; omega
      . rw [et, List.mem_append, List.mem_singleton] at hz
        rcases hz with hz | rfl
        . exact p3 z hz hs
        . exact absurd (of_decide_eq_true hs) k3
      . rw [et, List.mem_append, List.mem_singleton] at hz
        rcases hz with hz | rfl
        . exact q3 z hz hs
        . exact absurd (of_decide_eq_true hs) k3
    . have en : F.take n = F := List.take_of_length_le (by omega)
      rw [en] at hc p3 q3 hmany
      have hpk := zXz (c := part) (n := f.hi - f.lo + 1) (by omega)
      have hself : sameF f.op f.ver f = true := decide_eq_true ⟨rfl, rfl⟩
      have hw : withinF F f.op f.ver (f.lo + pickM part (f.hi - f.lo + 1)) = true := by
        unfold withinF
        rw [List.any_eq_true]
        exact ⟨f, hfm, by rw [Bool.and_eq_true]; exact ⟨hself, decide_eq_true (by omega)⟩⟩
      have hA : allowsM A f.op f.ver (f.lo + pickM part (f.hi - f.lo + 1)) = decide (3 <= c) := by
        have := a1 f.op f.ver (f.lo + pickM part (f.hi - f.lo + 1))
        have hbo := within_both hw
        rcases Bool.eq_false_or_eq_true (allowsM A f.op f.ver (f.lo + pickM part (f.hi - f.lo + 1))) with h | h
        . rw [h]; have := (this.1 h).1; exact (decide_eq_true (by omega)).symm
        . rw [h]
          refine (decide_eq_false fun h3 => ?_).symm
          rw [this.2 ⟨by omega, hbo.1, hbo.2⟩] at h; cases h
      have hlow : ∀ z, z < lo -> ¬ allowsM A f.op f.ver z = true := fun z hz h => by
        have := ((a1 _ _ _).1 h).2.1
        unfold belowF at this
        rw [List.any_eq_true] at this
        obtain ⟨g, hg, h2⟩ := this
        rw [Bool.and_eq_true] at h2
        have := p3 g hg h2.1
        have := of_decide_eq_true h2.2
        omega
      have hhigh : ∀ z, hi' < z -> ¬ allowsM A f.op f.ver z = true := fun z hz h => by
        have := ((a1 _ _ _).1 h).2.2
        unfold aboveF at this
        rw [List.any_eq_true] at this
        obtain ⟨g, hg, h2⟩ := this
        rw [Bool.and_eq_true] at h2
        have := q3 g hg h2.1
        have := of_decide_eq_true h2.2
        omega
      have i1 : inI (lo - 1) := by unfold inI; omega
      have i2 : inI (hi' + 1) := by unfold inI; omega
      have hAl : A.length <= 1073741824 := by omega
      refine ⟨ix, ix, ix, by unfold inI; omega, by unfold inI; omega, by omega, h2, by unfold inI; omega, ix, ix, hAl, fun k3 => absurd hA k3, fun _ => ⟨⟨fun _ => ⟨ix, ix, hAl, fun _ => trivial, fun _ => ⟨ix, ix, i1, hAl, fun _ => trivial, fun _ => ⟨ix, ix, i2, hAl, trivial⟩⟩⟩, fun _ => ⟨fun _ => ⟨ix, ix, hAl, fun _ => trivial, fun _ => ⟨ix, ix, i1, hAl, fun _ => trivial, fun _ => ⟨ix, ix, i2, hAl, trivial⟩⟩⟩, fun _ => ⟨ix, ix, i1, hAl, fun _ => trivial, fun _ => ⟨ix, ix, i2, hAl, trivial⟩⟩⟩⟩, fun k3 => ?_, fun _ => ⟨by unfold inI; omega, ⟨i + 1, by omega, by omega⟩, dec_lt k1⟩⟩⟩
      have n1 := hlow (lo - 1) (by omega)
      have n2 := hhigh (hi' + 1) (by omega)
      rcases k3 with ⟨k4, k5⟩ | ⟨_, ⟨k4, k5⟩ | ⟨_, k5⟩⟩
      . rcases k5 with k5 | k5 | k5
        . exact absurd k5 (hlow t k4)
        . exact absurd k5 n1
        . exact absurd k5 n2
      . rcases k5 with k5 | k5 | k5
        . exact absurd k5 (hhigh t k4)
        . exact absurd k5 n1
        . exact absurd k5 n2
      . rcases k5 with k5 | k5
        . exact absurd k5 n1
        . exact absurd k5 n2
  . refine decide_eq_true fun h => ?_
    have h3 := ((a1 11 9 t).1 h).1
    have : manyF F 11 9 = 0 := by
      unfold manyF
      rw [List.countP_eq_zero]
      intro g hg hs
      have := hno g hg
      have := (of_decide_eq_true hs).1
      omega
    omega
theorem spec_lawobs (xa : (List (Vector Int 4))) (xb : (List (Vector Int 4))) (t : Int) (part : Int) (h0 : xa.length <= 9223372036854775807 /\ ∀ z ∈ xa, ∀ k, inI (vat z k)) (h1 : xb.length <= 9223372036854775807 /\ ∀ z ∈ xb, ∀ k, inI (vat z k)) (h2 : inI part) : FnP Try.prog 8 [.lst true xa.length (zYy eV4 xa), .lst true xb.length (zYy eV4 xb), .int .i64 t, .int .i64 part] (fun xR => xR = .bool (true)) :=
  (walk_lawobs (vcp_lawobs xa xb t part h0 h1 h2)).mono (by rintro _ ⟨_, rfl, rfl⟩; rfl)
end Go.Lat
