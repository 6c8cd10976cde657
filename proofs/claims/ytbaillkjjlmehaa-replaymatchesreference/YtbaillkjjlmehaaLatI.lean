/- The law latecomerlaw24.ReplayMatchesReference returns true for every input, and each argument reads afterwards as it read before. Part 9 of 15. No condition. -/
import Derived.Test.YtbaillkjjlmehaaLatF
import Derived.Test.YtbaillkjjlmehaaLatD
import Derived.Test.YtbaillkjjlmehaaLatE
import Derived.Test.YtbaillkjjlmehaaLatH
import Derived.Test.YtbaillkjjlmehaaLatG
set_option linter.unusedVariables false
set_option linter.unusedSimpArgs false
set_option linter.unnecessarySimpa false
set_option maxRecDepth 100000
set_option maxHeartbeats 4000000
namespace Go.Lat
open Go.RowKit Go.Proofs
attribute [local irreducible] seqL opC
def vc_sane  (Post : Bool -> Prop) : Prop :=
  (exR.sv.length <= 9223372036854775807) /\ (∀ j ∈ exR.jobs, j.wk.length <= 9223372036854775807) /\ (exR.jobs.length <= 9223372036854775807) /\ (exR.ex.length <= 9223372036854775807) /\ (exR.sv.length <= 9223372036854775807) /\ (∀ j ∈ exR.jobs, j.wk.length <= 9223372036854775807) /\ (exR.jobs.length <= 9223372036854775807) /\ (exR.ex.length <= 9223372036854775807) /\ (exR.sv.length <= 9223372036854775807) /\ (∀ j ∈ exR.jobs, j.wk.length <= 9223372036854775807) /\ (exR.jobs.length <= 9223372036854775807) /\ (exR.ex.length <= 9223372036854775807) /\ (exR.sv.length <= 9223372036854775807) /\ (∀ j ∈ exR.jobs, j.wk.length <= 9223372036854775807) /\ (exR.jobs.length <= 9223372036854775807) /\ (exR.ex.length <= 9223372036854775807) /\ ((Req.mk exR.sv exR.jobs exR.late exR.obj exR.causes [(Ext.mk 0 (-1) 0 0 0 0)]).sv.length <= 9223372036854775807) /\ (∀ j ∈ (Req.mk exR.sv exR.jobs exR.late exR.obj exR.causes [(Ext.mk 0 (-1) 0 0 0 0)]).jobs, j.wk.length <= 9223372036854775807) /\ ((Req.mk exR.sv exR.jobs exR.late exR.obj exR.causes [(Ext.mk 0 (-1) 0 0 0 0)]).jobs.length <= 9223372036854775807) /\ ((Req.mk exR.sv exR.jobs exR.late exR.obj exR.causes [(Ext.mk 0 (-1) 0 0 0 0)]).ex.length <= 9223372036854775807) /\ (((¬ (valuesM exR).2 = (0 : Int)) \/ ((¬ (latenessM exR (1 : Int)).2 = (0 : Int)) \/ ((¬ (latenessM exR (4 : Int)).2 = (240 : Int)) \/ ((¬ (withE exR (2 : Int)).2 = (0 : Int)) \/ ((¬ (valuesM (Req.mk exR.sv exR.jobs exR.late exR.obj exR.causes [(Ext.mk 0 (-1) 0 0 0 0)])).2 = (0 : Int)) \/ (¬ (((withE exR (2 : Int)).1).length : Int) = (2 : Int))))))) -> Post false) /\ (¬ ((¬ (valuesM exR).2 = (0 : Int)) \/ ((¬ (latenessM exR (1 : Int)).2 = (0 : Int)) \/ ((¬ (latenessM exR (4 : Int)).2 = (240 : Int)) \/ ((¬ (withE exR (2 : Int)).2 = (0 : Int)) \/ ((¬ (valuesM (Req.mk exR.sv exR.jobs exR.late exR.obj exR.causes [(Ext.mk 0 (-1) 0 0 0 0)])).2 = (0 : Int)) \/ (¬ (((withE exR (2 : Int)).1).length : Int) = (2 : Int))))))) -> ((((valuesM exR).1).length <= 9223372036854775807) /\ ([(0 : Int), (3 : Int), (1 : Int), (4 : Int)].length <= 9223372036854775807) /\ ((((valuesM exR).1) = [(0 : Int), (3 : Int), (1 : Int), (4 : Int)]) -> (((latenessM exR (1 : Int)).1 = (3 : Int)) -> (((valuesM (Req.mk exR.sv exR.jobs exR.late exR.obj exR.causes [(Ext.mk 0 (-1) 0 0 0 0)])).1).length <= 9223372036854775807) /\ ([(1 : Int), (4 : Int), (1 : Int), (4 : Int)].length <= 9223372036854775807) /\ ((((valuesM (Req.mk exR.sv exR.jobs exR.late exR.obj exR.causes [(Ext.mk 0 (-1) 0 0 0 0)])).1) = [(1 : Int), (4 : Int), (1 : Int), (4 : Int)]) -> (0 <= (0 : Int) /\ (0 : Int) < (((withE exR (2 : Int)).1).length : Int)) /\ ((((((lat ((withE exR (2 : Int)).1) (0 : Int)).wk).length : Nat) : Int) = (1 : Int)) -> (0 <= (0 : Int) /\ (0 : Int) < (((withE exR (2 : Int)).1).length : Int)) /\ (0 <= (0 : Int) /\ (0 : Int) < (((lat ((withE exR (2 : Int)).1) (0 : Int)).wk).length : Int)) /\ (((lat ((lat ((withE exR (2 : Int)).1) (0 : Int)).wk) (0 : Int)).tm = (1 : Int)) -> (exR.sv.length <= 9223372036854775807) /\ (∀ j ∈ exR.jobs, j.wk.length <= 9223372036854775807) /\ (exR.jobs.length <= 9223372036854775807) /\ (exR.ex.length <= 9223372036854775807) /\ (((validR exR) = true) -> ((Req.mk [] [] (0 : Int) (0 : Int) (0 : Int) []).sv.length <= 9223372036854775807) /\ (∀ j ∈ (Req.mk [] [] (0 : Int) (0 : Int) (0 : Int) []).jobs, j.wk.length <= 9223372036854775807) /\ ((Req.mk [] [] (0 : Int) (0 : Int) (0 : Int) []).jobs.length <= 9223372036854775807) /\ ((Req.mk [] [] (0 : Int) (0 : Int) (0 : Int) []).ex.length <= 9223372036854775807) /\ ((¬ ((validR (Req.mk [] [] (0 : Int) (0 : Int) (0 : Int) [])) = true)) -> (exR.sv.length <= 9223372036854775807) /\ (∀ j ∈ exR.jobs, j.wk.length <= 9223372036854775807) /\ (exR.jobs.length <= 9223372036854775807) /\ (exR.ex.length <= 9223372036854775807) /\ ([(Rg.mk 0 0 3 1 2)].length <= 1073741824) /\ (((supM exR [(Rg.mk 0 0 3 1 2)]) = true) -> (exR.sv.length <= 9223372036854775807) /\ (∀ j ∈ exR.jobs, j.wk.length <= 9223372036854775807) /\ (exR.jobs.length <= 9223372036854775807) /\ (exR.ex.length <= 9223372036854775807) /\ (([] : (List Rg)).length <= 1073741824) /\ True) /\ (¬ ((supM exR [(Rg.mk 0 0 3 1 2)]) = true) -> True)) /\ (¬ (¬ ((validR (Req.mk [] [] (0 : Int) (0 : Int) (0 : Int) [])) = true)) -> True)) /\ (¬ ((validR exR) = true) -> True)) /\ (¬ ((lat ((lat ((withE exR (2 : Int)).1) (0 : Int)).wk) (0 : Int)).tm = (1 : Int)) -> True)) /\ (¬ (((((lat ((withE exR (2 : Int)).1) (0 : Int)).wk).length : Nat) : Int) = (1 : Int)) -> True)) /\ (¬ (((valuesM (Req.mk exR.sv exR.jobs exR.late exR.obj exR.causes [(Ext.mk 0 (-1) 0 0 0 0)])).1) = [(1 : Int), (4 : Int), (1 : Int), (4 : Int)]) -> True)) /\ (¬ ((latenessM exR (1 : Int)).1 = (3 : Int)) -> True)) /\ (¬ (((valuesM exR).1) = [(0 : Int), (3 : Int), (1 : Int), (4 : Int)]) -> True)) /\ (Post (decide ((((valuesM exR).1) = [(0 : Int), (3 : Int), (1 : Int), (4 : Int)]) /\ (((latenessM exR (1 : Int)).1 = (3 : Int)) /\ ((((valuesM (Req.mk exR.sv exR.jobs exR.late exR.obj exR.causes [(Ext.mk 0 (-1) 0 0 0 0)])).1) = [(1 : Int), (4 : Int), (1 : Int), (4 : Int)]) /\ ((((((lat ((withE exR (2 : Int)).1) (0 : Int)).wk).length : Nat) : Int) = (1 : Int)) /\ (((lat ((lat ((withE exR (2 : Int)).1) (0 : Int)).wk) (0 : Int)).tm = (1 : Int)) /\ (((validR exR) = true) /\ ((¬ ((validR (Req.mk [] [] (0 : Int) (0 : Int) (0 : Int) [])) = true)) /\ (((supM exR [(Rg.mk 0 0 3 1 2)]) = true) /\ (¬ ((supM exR ([] : (List Rg))) = true)))))))))))))
theorem walk_sane  {Post : Bool -> Prop} (hv : vc_sane Post) : FnP Try.prog 10 [] (fun x => ∃ q0, x = .bool q0 /\ Post q0) := by
 refine FnP.of_walk (T := tt) (nt := 118) ttOk ttMix ⟨⟨Try.f10, Try.func10, rfl, rfl, rfl, rfl⟩⟩ (by simp) ?_
 unfold vc_sane at hv
 change W _ _ _ ⟨118, look [], [], 0⟩ _
 refine W.ty [] rfl (W.rL (aB rfl rfl (eL (W.ty [] rfl (W.rL (cL rfl (zZu (k := 30) (fst := []) (caps := []) (ys := []) rfl rfl (spec_example) zk (cL rfl (zXy (p := 0) tt26 rfl rfl (cLn (o_stB (v := .agg _) (vs := [.lst _ _ _, .lst _ _ _, .int _ _, .int _ _, .int _ _, .lst _ _ _]) (cs2 := [.lst _ _ _, .lst _ _ _, .int _ _, .int _ _, .int _ _, .lst _ _ _]) tt26 rfl rfl rfl rfl rfl (Nat.le_of_ble_eq_true rfl) rfl (eL (W.ty [(1, .ptr _ _)] rfl (W.rL (cL rfl (zYp (cs := [.lst _ _ _, .lst _ _ _, .int _ _, .int _ _, .int _ _, .lst _ _ _]) tt26 rfl rfl ⟨_, rfl⟩ rfl ?_))))))))))))))))
 obtain ⟨s1, s2, s3, s4, hv⟩ := hv
 refine cL rfl (zZu (k := 17) (fst := []) (caps := []) (ys := [.agg _]) rfl rfl (spec_values exR s1 s2 s3 s4) zk (cL rfl (zZp (v := .tup _) rfl (cL rfl (o_ext (v := .lst _ _ _) rfl rfl (cL rfl (o_ext (v := .int _ _) rfl rfl (aL rfl rfl (aI rfl rfl (eL (W.ty [(1, .ptr _ _), (2, .lst _ _ _), (3, .int _ _)] rfl (W.rL (cL rfl (zYp (cs := [.lst _ _ _, .lst _ _ _, .int _ _, .int _ _, .int _ _, .lst _ _ _]) tt26 rfl rfl ⟨_, rfl⟩ rfl ?_))))))))))))))
 obtain ⟨s5, s6, s7, s8, hv⟩ := hv
 refine cL rfl (zZu (k := 21) (fst := []) (caps := []) (ys := [.agg _, .int _ _]) rfl rfl (spec_lateness exR (1 : Int) s5 s6 s7 s8) zk (cL rfl (zZp (v := .tup _) rfl ?_)))
 iterate 2 refine cL rfl (o_ext (v := .int _ _) rfl rfl ?_)
 iterate 2 refine aI rfl rfl ?_
 refine eL (W.ty [(1, .ptr _ _), (2, .lst _ _ _), (3, .int _ _), (4, .int _ _), (5, .int _ _)] rfl (W.rL (cL rfl (zYp (cs := [.lst _ _ _, .lst _ _ _, .int _ _, .int _ _, .int _ _, .lst _ _ _]) tt26 rfl rfl ⟨_, rfl⟩ rfl ?_))))
 obtain ⟨s9, s10, s11, s12, hv⟩ := hv
 refine cL rfl (zZu (k := 21) (fst := []) (caps := []) (ys := [.agg _, .int _ _]) rfl rfl (spec_lateness exR (4 : Int) s9 s10 s11 s12) zk (cL rfl (zZp (v := .tup _) rfl ?_)))
 iterate 2 refine cL rfl (o_ext (v := .int _ _) rfl rfl ?_)
 iterate 2 refine aI rfl rfl ?_
 refine eL (W.ty [(1, .ptr _ _), (2, .lst _ _ _), (3, .int _ _), (4, .int _ _), (5, .int _ _), (7, .int _ _)] rfl (W.rL (cL rfl (zYp (cs := [.lst _ _ _, .lst _ _ _, .int _ _, .int _ _, .int _ _, .lst _ _ _]) tt26 rfl rfl ⟨_, rfl⟩ rfl ?_))))
 obtain ⟨s13, s14, s15, s16, hv⟩ := hv
 refine cL rfl (zZu (k := 23) (fst := []) (caps := []) (ys := [.agg _, .int _ _]) rfl rfl (spec_withF exR (2 : Int) s13 s14 s15 s16) zk (cL rfl (zZp (v := .tup _) rfl (cL rfl (o_ext (v := .lst _ _ _) rfl rfl (cL rfl (o_ext (v := .int _ _) rfl rfl (aL rfl rfl (aI rfl rfl (eL (W.ty [(1, .ptr _ _), (2, .lst _ _ _), (3, .int _ _), (4, .int _ _), (5, .int _ _), (7, .int _ _), (8, .lst _ _ _), (9, .int _ _)] rfl (W.rL (cL rfl (zYp (cs := [.lst _ _ _, .lst _ _ _, .int _ _, .int _ _, .int _ _, .lst _ _ _]) tt26 rfl rfl ⟨_, rfl⟩ rfl (cL rfl (zXy (p := 1) tt26 rfl rfl (cLn (o_stB (v := .agg _) (vs := [.lst _ _ _, .lst _ _ _, .int _ _, .int _ _, .int _ _, .lst _ _ _]) (cs2 := [.lst _ _ _, .lst _ _ _, .int _ _, .int _ _, .int _ _, .lst _ _ _]) tt26 rfl rfl rfl rfl rfl (Nat.le_of_ble_eq_true rfl) rfl (eL (W.ty [(1, .ptr _ _), (2, .lst _ _ _), (3, .int _ _), (4, .int _ _), (5, .int _ _), (7, .int _ _), (8, .lst _ _ _), (9, .int _ _), (10, .ptr _ _)] rfl (W.rL (cL rfl (o_build (qs := [(1, .int _ _)]) (cs := [.int _ _, .int _ _, .int _ _, .int _ _, .int _ _, .int _ _]) tt58 rfl rfl rfl (cL rfl (o_bs1 (v := .agg _) (q := 2) tt24 tt58 rfl rfl rfl rfl rfl rfl rfl rfl (cL rfl (o_fa tt26 rfl tt24 rfl (cLn (o_stB (v := .ref _ _ _) (vs := [.ref _ _ _]) (cs2 := [.lst _ _ _, .lst _ _ _, .int _ _, .int _ _, .int _ _, .ref _ _ _]) tt24 rfl rfl rfl rfl rfl (Nat.le_of_ble_eq_true rfl) rfl (eL (W.ty [(1, .ptr _ _), (2, .lst _ _ _), (3, .int _ _), (4, .int _ _), (5, .int _ _), (7, .int _ _), (8, .lst _ _ _), (9, .int _ _), (10, .ptr _ _)] rfl (W.rL (cL rfl (zYp (cs := [.lst _ _ _, .lst _ _ _, .int _ _, .int _ _, .int _ _, .ref _ _ _]) tt26 rfl rfl ⟨_, rfl⟩ rfl ?_))))))))))))))))))))))))))))))))))
 obtain ⟨s17, s18, s19, s20, hv⟩ := hv
 refine cL rfl (zZu (k := 17) (fst := []) (caps := []) (ys := [.agg _]) rfl rfl (spec_values (Req.mk exR.sv exR.jobs exR.late exR.obj exR.causes [(Ext.mk 0 (-1) 0 0 0 0)]) s17 s18 s19 s20) (Wks.cons (zXx 5 _ (Wks.cons (zZs _ _ _ _ _) (Wks.cons (zZs _ _ _ _ _) (Wks.cons (zZz _ _ _ _) (Wks.cons (zZz _ _ _ _) (Wks.cons (zZz _ _ _ _) (Wks.cons (ag_ref (fl := false) (xs := [(Ext.mk 0 (-1) 0 0 0 0)]) enc58 3 _ rfl rfl) zk))))))) zk) (cL rfl (zZp (v := .tup _) rfl (cL rfl (o_ext (v := .lst _ _ _) rfl rfl (cL rfl (o_ext (v := .int _ _) rfl rfl (aL rfl rfl (aI rfl rfl (eL (W.ty [(1, .ptr _ _), (2, .lst _ _ _), (3, .int _ _), (4, .int _ _), (5, .int _ _), (7, .int _ _), (8, .lst _ _ _), (9, .int _ _), (11, .lst _ _ _), (12, .int _ _)] rfl (W.seq' (W.rLm ⟨118, look [(1, .ptr 0 0), (2, .lst false ((valuesM exR).1).length (zYy zYx ((valuesM exR).1))), (4, .int .i64 ((latenessM exR (1 : Int)).1)), (8, .lst false ((withE exR (2 : Int)).1).length (zYy (e53 true) ((withE exR (2 : Int)).1))), (11, .lst false ((valuesM (Req.mk exR.sv exR.jobs exR.late exR.obj exR.causes [(Ext.mk 0 (-1) 0 0 0 0)])).1).length (zYy zYx ((valuesM (Req.mk exR.sv exR.jobs exR.late exR.obj exR.causes [(Ext.mk 0 (-1) 0 0 0 0)])).1))), (66, .bool (decide ((¬ (valuesM exR).2 = (0 : Int)) \/ ((¬ (latenessM exR (1 : Int)).2 = (0 : Int)) \/ ((¬ (latenessM exR (4 : Int)).2 = (240 : Int)) \/ ((¬ (withE exR (2 : Int)).2 = (0 : Int)) \/ ((¬ (valuesM (Req.mk exR.sv exR.jobs exR.late exR.obj exR.causes [(Ext.mk 0 (-1) 0 0 0 0)])).2 = (0 : Int)) \/ (¬ (((withE exR (2 : Int)).1).length : Int) = (2 : Int)))))))))], [.box 26 [.lst false exR.sv.length (zYy zYx exR.sv), .lst false exR.jobs.length (zYy (e53 true) exR.jobs), .int .i64 exR.late, .int .i64 exR.obj, .int .i64 exR.causes, .lst false exR.ex.length (zYy e58 exR.ex)], .box 26 [.lst false exR.sv.length (zYy zYx exR.sv), .lst false exR.jobs.length (zYy (e53 true) exR.jobs), .int .i64 exR.late, .int .i64 exR.obj, .int .i64 exR.causes, .ref false 2 1], .row 58 6 (zYy e58 [(Ext.mk 0 (-1) 0 0 0 0)])], 0⟩ ?_ ?_)))))))))))))
 refine mI rfl rfl (cL rfl (o_neI rfl rfl rfl (mB rfl rfl ?_)))
 by_cases c1 : ¬ (valuesM exR).2 = (0 : Int)
 iterate 2 refine cLs rfl rfl rfl (dT c1) ?_
 refine cL rfl (zZv (v := .bool _) rfl (dT c1) rfl (mB rfl rfl ?_))
 iterate 2 refine cLs rfl rfl rfl (rfl) ?_
 refine cL rfl (zZv (v := .bool _) rfl rfl rfl (mB rfl rfl ?_))
 iterate 2 refine cLs rfl rfl rfl (rfl) ?_
 refine cL rfl (zZv (v := .bool _) rfl rfl rfl (mB rfl rfl ?_))
 iterate 2 refine cLs rfl rfl rfl (rfl) ?_
 refine cL rfl (zZv (v := .bool _) rfl rfl rfl (mB rfl rfl ?_))
 iterate 3 refine cLs rfl rfl rfl (rfl) ?_
 refine cL rfl (zZv (v := .bool _) rfl rfl rfl (eL (zYz ⟨rfl, rfl, rfl, rfl, rfl, (congrArg AV.bool (dOrT c1)).symm, trivial⟩ rfl)))
 refine cLg rfl rfl (dF c1) (mI rfl rfl (cLg rfl rfl (dF c1) (cL rfl (o_neI rfl rfl rfl (cL rfl (zZy (v := .bool _) rfl (dF c1) rfl (mB rfl rfl ?_)))))))
 by_cases c2 : ¬ (latenessM exR (1 : Int)).2 = (0 : Int)
 iterate 2 refine cLs rfl rfl rfl (dT c2) ?_
 refine cL rfl (zZv (v := .bool _) rfl (dT c2) rfl (mB rfl rfl ?_))
 iterate 2 refine cLs rfl rfl rfl (rfl) ?_
 refine cL rfl (zZv (v := .bool _) rfl rfl rfl (mB rfl rfl ?_))
 iterate 2 refine cLs rfl rfl rfl (rfl) ?_
 refine cL rfl (zZv (v := .bool _) rfl rfl rfl (mB rfl rfl ?_))
 iterate 3 refine cLs rfl rfl rfl (rfl) ?_
 refine cL rfl (zZv (v := .bool _) rfl rfl rfl (eL (zYz ⟨rfl, rfl, rfl, rfl, rfl, (congrArg AV.bool (dOrF c1 (dOrT c2))).symm, trivial⟩ rfl)))
 refine cLg rfl rfl (dF c2) (mI rfl rfl (cLg rfl rfl (dF c2) (cL rfl (o_neI rfl rfl rfl (cL rfl (zZy (v := .bool _) rfl (dF c2) rfl (mB rfl rfl ?_)))))))
 by_cases c3 : ¬ (latenessM exR (4 : Int)).2 = (240 : Int)
 iterate 2 refine cLs rfl rfl rfl (dT c3) ?_
 refine cL rfl (zZv (v := .bool _) rfl (dT c3) rfl (mB rfl rfl ?_))
 iterate 2 refine cLs rfl rfl rfl (rfl) ?_
 refine cL rfl (zZv (v := .bool _) rfl rfl rfl (mB rfl rfl ?_))
 iterate 3 refine cLs rfl rfl rfl (rfl) ?_
 refine cL rfl (zZv (v := .bool _) rfl rfl rfl (eL (zYz ⟨rfl, rfl, rfl, rfl, rfl, (congrArg AV.bool (dOrF c1 (dOrF c2 (dOrT c3)))).symm, trivial⟩ rfl)))
 refine cLg rfl rfl (dF c3) (mI rfl rfl (cLg rfl rfl (dF c3) (cL rfl (o_neI rfl rfl rfl (cL rfl (zZy (v := .bool _) rfl (dF c3) rfl (mB rfl rfl ?_)))))))
 by_cases c4 : ¬ (withE exR (2 : Int)).2 = (0 : Int)
 iterate 2 refine cLs rfl rfl rfl (dT c4) ?_
 refine cL rfl (zZv (v := .bool _) rfl (dT c4) rfl (mB rfl rfl ?_))
 iterate 3 refine cLs rfl rfl rfl (rfl) ?_
 refine cL rfl (zZv (v := .bool _) rfl rfl rfl (eL (zYz ⟨rfl, rfl, rfl, rfl, rfl, (congrArg AV.bool (dOrF c1 (dOrF c2 (dOrF c3 (dOrT c4))))).symm, trivial⟩ rfl)))
 refine cLg rfl rfl (dF c4) (mI rfl rfl (cLg rfl rfl (dF c4) (cL rfl (o_neI rfl rfl rfl (cL rfl (zZy (v := .bool _) rfl (dF c4) rfl (mB rfl rfl ?_)))))))
 by_cases c5 : ¬ (valuesM (Req.mk exR.sv exR.jobs exR.late exR.obj exR.causes [(Ext.mk 0 (-1) 0 0 0 0)])).2 = (0 : Int)
 iterate 3 refine cLs rfl rfl rfl (dT c5) ?_
 refine cL rfl (zZv (v := .bool _) rfl (dT c5) rfl (eL (zYz ⟨rfl, rfl, rfl, rfl, rfl, (congrArg AV.bool (dOrF c1 (dOrF c2 (dOrF c3 (dOrF c4 (dOrT c5)))))).symm, trivial⟩ rfl)))
 refine cLg rfl rfl (dF c5) (mL rfl rfl (cLg rfl rfl (dF c5) (cL rfl (zXw (v := .lst _ _ _) tt23 rfl rfl (cLg rfl rfl (dF c5) (cL rfl (o_neI rfl rfl rfl (cL rfl (zZy (v := .bool _) rfl (dF c5) rfl (eL (zYz ⟨rfl, rfl, rfl, rfl, rfl, (congrArg AV.bool (dOrF c1 (dOrF c2 (dOrF c3 (dOrF c4 (dOrF c5 (rfl))))))).symm, trivial⟩ rfl)))))))))))
 refine W.cn rfl (fun hc => ?_) (fun hc => ?_)
 have hv := hv.1 hc
 refine W.rL (aB rfl rfl (eL (W.ty [(0, .bool _)] rfl (W.ret (zZr (rt (rt_t (v := .bool _) rfl (rt_n (⟨_, zYr _ _ _, false, rfl, hv⟩)))))))))
 have hv := hv.2 hc
 refine W.skip (zZ (W.ty [(1, .ptr _ _), (2, .lst _ _ _), (4, .int _ _), (8, .lst _ _ _), (11, .lst _ _ _)] rfl (W.rL (cL rfl (o_build (qs := [(2, .int _ _), (3, .int _ _), (4, .int _ _)]) (cs := [.int _ _, .int _ _, .int _ _, .int _ _, .int _ _]) tt73 rfl rfl rfl (cL rfl (o_bs1 (v := .agg _) (q := 3) tt32 tt73 rfl rfl rfl rfl rfl rfl rfl rfl (cL rfl (zZq (v := .ref _ _ _) rfl (eL (W.ty [(1, .ptr _ _), (2, .lst _ _ _), (4, .int _ _), (8, .lst _ _ _), (11, .lst _ _ _), (13, .ref _ _ _)] rfl ?_)))))))))))
 obtain ⟨sd, hv⟩ := hv
 refine W.rLmT ⟨118, look [(0, .bool (decide ((((valuesM exR).1) = [(0 : Int), (3 : Int), (1 : Int), (4 : Int)]) /\ (((latenessM exR (1 : Int)).1 = (3 : Int)) /\ ((((valuesM (Req.mk exR.sv exR.jobs exR.late exR.obj exR.causes [(Ext.mk 0 (-1) 0 0 0 0)])).1) = [(1 : Int), (4 : Int), (1 : Int), (4 : Int)]) /\ ((((((lat ((withE exR (2 : Int)).1) (0 : Int)).wk).length : Nat) : Int) = (1 : Int)) /\ (((lat ((lat ((withE exR (2 : Int)).1) (0 : Int)).wk) (0 : Int)).tm = (1 : Int)) /\ (((validR exR) = true) /\ ((¬ ((validR (Req.mk [] [] (0 : Int) (0 : Int) (0 : Int) [])) = true)) /\ (((supM exR [(Rg.mk 0 0 3 1 2)]) = true) /\ (¬ ((supM exR ([] : (List Rg))) = true))))))))))))], [.dead], 0⟩ ?_ ?_
 refine mL rfl rfl (cL rfl (o_buildS (q := 4) (qs := [(0, .int _ _), (1, .int _ _), (2, .int _ _), (3, .int _ _)]) (cs := [.int _ _, .int _ _, .int _ _, .int _ _]) tt22 tt3 rfl rfl rfl rfl ?_))
 obtain ⟨s46, s47, sd⟩ := sd
 refine cL rfl (zZu (k := 19) (fst := []) (caps := []) (ys := [.lst _ _ _, .ref _ _ _]) rfl rfl (spec_ints ((valuesM exR).1) [(0 : Int), (3 : Int), (1 : Int), (4 : Int)] s46 s47) (Wks.cons (zZs _ _ _ _ _) (Wks.cons (ag_ref (fl := false) (xs := [(0 : Int), (3 : Int), (1 : Int), (4 : Int)]) zZw 4 _ rfl rfl) zk)) (mB rfl rfl ?_))
 by_cases c1 : ((valuesM exR).1) = [(0 : Int), (3 : Int), (1 : Int), (4 : Int)]
 have sd := sd.1 c1
 refine cLg rfl rfl (dT c1) (mI rfl rfl (cLg rfl rfl (dT c1) (cL rfl (o_eqI rfl rfl rfl (cL rfl (zZv (v := .bool _) rfl (dT c1) rfl (mB rfl rfl ?_)))))))
 by_cases c2 : (latenessM exR (1 : Int)).1 = (3 : Int)
 have sd := sd.1 c2
 refine cLg rfl rfl (dT c2) (mL rfl rfl (cLg rfl rfl (dT c2) (cL rfl (o_buildS (q := 5) (qs := [(0, .int _ _), (1, .int _ _), (2, .int _ _), (3, .int _ _)]) (cs := [.int _ _, .int _ _, .int _ _, .int _ _]) tt22 tt3 rfl rfl rfl rfl (cLg rfl rfl (dT c2) ?_)))))
 obtain ⟨s48, s49, sd⟩ := sd
 refine cL rfl (zZu (k := 19) (fst := []) (caps := []) (ys := [.lst _ _ _, .ref _ _ _]) rfl rfl (spec_ints ((valuesM (Req.mk exR.sv exR.jobs exR.late exR.obj exR.causes [(Ext.mk 0 (-1) 0 0 0 0)])).1) [(1 : Int), (4 : Int), (1 : Int), (4 : Int)] s48 s49) (Wks.cons (zZs _ _ _ _ _) (Wks.cons (ag_ref (fl := false) (xs := [(1 : Int), (4 : Int), (1 : Int), (4 : Int)]) zZw 4 _ rfl rfl) zk)) (cL rfl (zZv (v := .bool _) rfl (dT c2) rfl (mB rfl rfl ?_))))
 by_cases c3 : ((valuesM (Req.mk exR.sv exR.jobs exR.late exR.obj exR.causes [(Ext.mk 0 (-1) 0 0 0 0)])).1) = [(1 : Int), (4 : Int), (1 : Int), (4 : Int)]
 have sd := sd.1 c3
 refine cLg rfl rfl (dT c3) (mL rfl rfl (cLg rfl rfl (dT c3) ?_))
 obtain ⟨s50, sd⟩ := sd
 refine cL rfl (zYu tt23 tt53 rfl rfl (enc53.wd true) rfl s50 ?_)
 intro rest50
 refine cLg rfl rfl (dT c3) (cL rfl (o_faP tt53 rfl tt51 rfl (cLg rfl rfl (dT c3) (cL rfl (zZx (v := .lst _ _ _) tt51 rfl rfl ⟨_, rfl⟩ (cLg rfl rfl (dT c3) (cL rfl (zXw (v := .lst _ _ _) tt51 rfl rfl (cLg rfl rfl (dT c3) (cL rfl (o_eqI rfl rfl rfl (cL rfl (zZv (v := .bool _) rfl (dT c3) rfl (mB rfl rfl ?_))))))))))))))
 by_cases c4 : ((((lat ((withE exR (2 : Int)).1) (0 : Int)).wk).length : Nat) : Int) = (1 : Int)
 have sd := sd.1 c4
 refine cLg rfl rfl (dT c4) (mL rfl rfl (cLg rfl rfl (dT c4) ?_))
 obtain ⟨s51, sd⟩ := sd
 refine cL rfl (zYu tt23 tt53 rfl rfl (enc53.wd true) rfl s51 ?_)
 intro rest51
 refine cLg rfl rfl (dT c4) (cL rfl (o_faP tt53 rfl tt51 rfl (cLg rfl rfl (dT c4) (cL rfl (zZx (v := .lst _ _ _) tt51 rfl rfl ⟨_, rfl⟩ (cLg rfl rfl (dT c4) ?_))))))
 obtain ⟨s52, sd⟩ := sd
 refine cL rfl (zYu tt51 tt60 rfl rfl (enc60.wd true) rfl s52 ?_)
 intro rest52
 refine cLg rfl rfl (dT c4) (cL rfl (o_faP tt60 rfl tt3 rfl (cLg rfl rfl (dT c4) (cL rfl (zZx (v := .int _ _) tt3 rfl rfl ⟨_, rfl⟩ (cLg rfl rfl (dT c4) (cL rfl (o_eqI rfl rfl rfl (cL rfl (zZv (v := .bool _) rfl (dT c4) rfl (mB rfl rfl ?_)))))))))))
 by_cases c5 : (lat ((lat ((withE exR (2 : Int)).1) (0 : Int)).wk) (0 : Int)).tm = (1 : Int)
 have sd := sd.1 c5
 refine cLg rfl rfl (dT c5) (cL rfl (zYp (cs := [.lst _ _ _, .lst _ _ _, .int _ _, .int _ _, .int _ _, .lst _ _ _]) tt26 rfl rfl ⟨_, rfl⟩ rfl (cLg rfl rfl (dT c5) ?_)))
 obtain ⟨s53, s54, s55, s56, sd⟩ := sd
 refine cL rfl (zZu (k := 13) (fst := []) (caps := []) (ys := [.agg _]) rfl rfl (spec_valid exR s53 s54 s55 s56) zk (cL rfl (zZv (v := .bool _) rfl (dT c5) rfl (mB rfl rfl ?_))))
 by_cases c6 : (validR exR) = true
 have sd := sd.1 c6
 refine cLg rfl rfl (c6) (cL rfl (o_build (qs := []) (cs := [.nilS, .nilS, .int _ _, .int _ _, .int _ _, .nilS]) tt26 rfl rfl rfl (cLg rfl rfl (c6) ?_)))
 obtain ⟨s57, s58, s59, s60, sd⟩ := sd
 refine cL rfl (zZu (k := 13) (fst := []) (caps := []) (ys := [.agg _]) rfl rfl (spec_valid (Req.mk [] [] (0 : Int) (0 : Int) (0 : Int) []) s57 s58 s59 s60) (Wks.cons (zXx 5 _ (Wks.cons (ag_nil _ _ _ _ rfl) (Wks.cons (ag_nil _ _ _ _ rfl) (Wks.cons (zZz _ _ _ _) (Wks.cons (zZz _ _ _ _) (Wks.cons (zZz _ _ _ _) (Wks.cons (ag_nil _ _ _ _ rfl) zk))))))) zk) (cLg rfl rfl (c6) (cL rfl (o_notB rfl (cL rfl (zZv (v := .bool _) rfl c6 rfl (mB rfl rfl ?_)))))))
 by_cases c7 : ¬ ((validR (Req.mk [] [] (0 : Int) (0 : Int) (0 : Int) [])) = true)
 have sd := sd.1 c7
 refine cLg rfl rfl (dT c7) (cL rfl (zYp (cs := [.lst _ _ _, .lst _ _ _, .int _ _, .int _ _, .int _ _, .lst _ _ _]) tt26 rfl rfl ⟨_, rfl⟩ rfl (cLg rfl rfl (dT c7) (cL rfl (zZp (v := .ref _ _ _) rfl (cLg rfl rfl (dT c7) ?_))))))
 obtain ⟨s61, s62, s63, s64, s65, sd⟩ := sd
 refine cL rfl (zZu (k := 15) (fst := []) (caps := []) (ys := [.agg _, .ref _ _ _]) rfl rfl (spec_supported exR [(Rg.mk 0 0 3 1 2)] s61 s62 s63 s64 s65) (Wks.cons (zXx 5 _ zk) (Wks.cons (ag_ref (fl := false) (xs := [(Rg.mk 0 0 3 1 2)]) enc73 4 _ rfl rfl) zk)) (cL rfl (zZv (v := .bool _) rfl (dT c7) rfl (mB rfl rfl ?_))))
 by_cases c8 : (supM exR [(Rg.mk 0 0 3 1 2)]) = true
 have sd := sd.1 c8
 refine cLg rfl rfl (c8) (cL rfl (zYp (cs := [.lst _ _ _, .lst _ _ _, .int _ _, .int _ _, .int _ _, .lst _ _ _]) tt26 rfl rfl ⟨_, rfl⟩ rfl (cLg rfl rfl (c8) ?_)))
 obtain ⟨s66, s67, s68, s69, s70, sd⟩ := sd
 refine cL rfl (zZu (k := 15) (fst := []) (caps := []) (ys := [.agg _, .nilS]) rfl rfl (spec_supported exR ([] : (List Rg)) s66 s67 s68 s69 s70) (Wks.cons (zXx 5 _ zk) (Wks.cons (ag_nil _ _ _ _ rfl) zk)) (cLg rfl rfl (c8) (cL rfl (o_notB rfl (cL rfl (zZv (v := .bool _) rfl c8 rfl (aB rfl rfl (eL (St.to_mk (φ := [none]) rfl (rfl) ⟨Ren.boolE (zXv c1 (zXv c2 (zXv c3 (zXv c4 (zXv c5 (zXv c6 (zXv c7 (zXv c8 (rfl))))))))), trivial⟩ ⟨rfl, trivial⟩)))))))))
 iterate 3 refine cLs rfl rfl rfl ((Bool.eq_false_iff.2 c8)) ?_
 refine cL rfl (zZy (v := .bool _) rfl (Bool.eq_false_iff.2 c8) rfl (aB rfl rfl (eL (St.to_mk (φ := [none]) rfl (rfl) ⟨Ren.boolE (zXv c1 (zXv c2 (zXv c3 (zXv c4 (zXv c5 (zXv c6 (zXv c7 (dAndF c8)))))))), trivial⟩ ⟨rfl, trivial⟩))))
 iterate 3 refine cLs rfl rfl rfl (dF c7) ?_
 refine cL rfl (zZy (v := .bool _) rfl (dF c7) rfl (mB rfl rfl ?_))
 iterate 3 refine cLs rfl rfl rfl (rfl) ?_
 refine cL rfl (zZy (v := .bool _) rfl rfl rfl (aB rfl rfl (eL (St.to_mk (φ := [none]) rfl (rfl) ⟨Ren.boolE (zXv c1 (zXv c2 (zXv c3 (zXv c4 (zXv c5 (zXv c6 (dAndF c7))))))), trivial⟩ ⟨rfl, trivial⟩))))
 iterate 3 refine cLs rfl rfl rfl ((Bool.eq_false_iff.2 c6)) ?_
 refine cL rfl (zZy (v := .bool _) rfl (Bool.eq_false_iff.2 c6) rfl (mB rfl rfl ?_))
 iterate 3 refine cLs rfl rfl rfl (rfl) ?_
 refine cL rfl (zZy (v := .bool _) rfl rfl rfl (mB rfl rfl ?_))
 iterate 3 refine cLs rfl rfl rfl (rfl) ?_
 refine cL rfl (zZy (v := .bool _) rfl rfl rfl (aB rfl rfl (eL (St.to_mk (φ := [none]) rfl (rfl) ⟨Ren.boolE (zXv c1 (zXv c2 (zXv c3 (zXv c4 (zXv c5 (dAndF c6)))))), trivial⟩ ⟨rfl, trivial⟩))))
 iterate 2 refine cLs rfl rfl rfl (dF c5) ?_
 refine cL rfl (zZy (v := .bool _) rfl (dF c5) rfl (mB rfl rfl ?_))
 iterate 3 refine cLs rfl rfl rfl (rfl) ?_
 refine cL rfl (zZy (v := .bool _) rfl rfl rfl (mB rfl rfl ?_))
 iterate 3 refine cLs rfl rfl rfl (rfl) ?_
 refine cL rfl (zZy (v := .bool _) rfl rfl rfl (mB rfl rfl ?_))
 iterate 3 refine cLs rfl rfl rfl (rfl) ?_
 refine cL rfl (zZy (v := .bool _) rfl rfl rfl (aB rfl rfl (eL (St.to_mk (φ := [none]) rfl (rfl) ⟨Ren.boolE (zXv c1 (zXv c2 (zXv c3 (zXv c4 (dAndF c5))))), trivial⟩ ⟨rfl, trivial⟩))))
 iterate 8 refine cLs rfl rfl rfl (dF c4) ?_
 refine cL rfl (zZy (v := .bool _) rfl (dF c4) rfl (mB rfl rfl ?_))
 iterate 2 refine cLs rfl rfl rfl (rfl) ?_
 refine cL rfl (zZy (v := .bool _) rfl rfl rfl (mB rfl rfl ?_))
 iterate 3 refine cLs rfl rfl rfl (rfl) ?_
 refine cL rfl (zZy (v := .bool _) rfl rfl rfl (mB rfl rfl ?_))
 iterate 3 refine cLs rfl rfl rfl (rfl) ?_
 refine cL rfl (zZy (v := .bool _) rfl rfl rfl (mB rfl rfl ?_))
 iterate 3 refine cLs rfl rfl rfl (rfl) ?_
 refine cL rfl (zZy (v := .bool _) rfl rfl rfl (aB rfl rfl (eL (St.to_mk (φ := [none]) rfl (rfl) ⟨Ren.boolE (zXv c1 (zXv c2 (zXv c3 (dAndF c4)))), trivial⟩ ⟨rfl, trivial⟩))))
 iterate 6 refine cLs rfl rfl rfl (dF c3) ?_
 refine cL rfl (zZy (v := .bool _) rfl (dF c3) rfl (mB rfl rfl ?_))
 iterate 8 refine cLs rfl rfl rfl (rfl) ?_
 refine cL rfl (zZy (v := .bool _) rfl rfl rfl (mB rfl rfl ?_))
 iterate 2 refine cLs rfl rfl rfl (rfl) ?_
 refine cL rfl (zZy (v := .bool _) rfl rfl rfl (mB rfl rfl ?_))
 iterate 3 refine cLs rfl rfl rfl (rfl) ?_
 refine cL rfl (zZy (v := .bool _) rfl rfl rfl (mB rfl rfl ?_))
 iterate 3 refine cLs rfl rfl rfl (rfl) ?_
 refine cL rfl (zZy (v := .bool _) rfl rfl rfl (mB rfl rfl ?_))
 iterate 3 refine cLs rfl rfl rfl (rfl) ?_
 refine cL rfl (zZy (v := .bool _) rfl rfl rfl (aB rfl rfl (eL (St.to_mk (φ := [none]) rfl (rfl) ⟨Ren.boolE (zXv c1 (zXv c2 (dAndF c3))), trivial⟩ ⟨rfl, trivial⟩))))
 iterate 3 refine cLs rfl rfl rfl (dF c2) ?_
 refine cL rfl (zZy (v := .bool _) rfl (dF c2) rfl (mB rfl rfl ?_))
 iterate 6 refine cLs rfl rfl rfl (rfl) ?_
 refine cL rfl (zZy (v := .bool _) rfl rfl rfl (mB rfl rfl ?_))
 iterate 8 refine cLs rfl rfl rfl (rfl) ?_
 refine cL rfl (zZy (v := .bool _) rfl rfl rfl (mB rfl rfl ?_))
 iterate 2 refine cLs rfl rfl rfl (rfl) ?_
 refine cL rfl (zZy (v := .bool _) rfl rfl rfl (mB rfl rfl ?_))
 iterate 3 refine cLs rfl rfl rfl (rfl) ?_
 refine cL rfl (zZy (v := .bool _) rfl rfl rfl (mB rfl rfl ?_))
 iterate 3 refine cLs rfl rfl rfl (rfl) ?_
 refine cL rfl (zZy (v := .bool _) rfl rfl rfl (mB rfl rfl ?_))
 iterate 3 refine cLs rfl rfl rfl (rfl) ?_
 refine cL rfl (zZy (v := .bool _) rfl rfl rfl (aB rfl rfl (eL (St.to_mk (φ := [none]) rfl (rfl) ⟨Ren.boolE (zXv c1 (dAndF c2)), trivial⟩ ⟨rfl, trivial⟩))))
 iterate 2 refine cLs rfl rfl rfl (dF c1) ?_
 refine cL rfl (zZy (v := .bool _) rfl (dF c1) rfl (mB rfl rfl ?_))
 iterate 3 refine cLs rfl rfl rfl (rfl) ?_
 refine cL rfl (zZy (v := .bool _) rfl rfl rfl (mB rfl rfl ?_))
 iterate 6 refine cLs rfl rfl rfl (rfl) ?_
 refine cL rfl (zZy (v := .bool _) rfl rfl rfl (mB rfl rfl ?_))
 iterate 8 refine cLs rfl rfl rfl (rfl) ?_
 refine cL rfl (zZy (v := .bool _) rfl rfl rfl (mB rfl rfl ?_))
 iterate 2 refine cLs rfl rfl rfl (rfl) ?_
 refine cL rfl (zZy (v := .bool _) rfl rfl rfl (mB rfl rfl ?_))
 iterate 3 refine cLs rfl rfl rfl (rfl) ?_
 refine cL rfl (zZy (v := .bool _) rfl rfl rfl (mB rfl rfl ?_))
 iterate 3 refine cLs rfl rfl rfl (rfl) ?_
 refine cL rfl (zZy (v := .bool _) rfl rfl rfl (mB rfl rfl ?_))
 iterate 3 refine cLs rfl rfl rfl (rfl) ?_
 refine cL rfl (zZy (v := .bool _) rfl rfl rfl (aB rfl rfl (eL (St.to_mk (φ := [none]) rfl (rfl) ⟨Ren.boolE (dAndF c1), trivial⟩ ⟨rfl, trivial⟩))))
 refine W.ret (rt (rt_t (v := .bool _) rfl (rt_n (⟨_, zYr _ _ _, (decide ((((valuesM exR).1) = [(0 : Int), (3 : Int), (1 : Int), (4 : Int)]) /\ (((latenessM exR (1 : Int)).1 = (3 : Int)) /\ ((((valuesM (Req.mk exR.sv exR.jobs exR.late exR.obj exR.causes [(Ext.mk 0 (-1) 0 0 0 0)])).1) = [(1 : Int), (4 : Int), (1 : Int), (4 : Int)]) /\ ((((((lat ((withE exR (2 : Int)).1) (0 : Int)).wk).length : Nat) : Int) = (1 : Int)) /\ (((lat ((lat ((withE exR (2 : Int)).1) (0 : Int)).wk) (0 : Int)).tm = (1 : Int)) /\ (((validR exR) = true) /\ ((¬ ((validR (Req.mk [] [] (0 : Int) (0 : Int) (0 : Int) [])) = true)) /\ (((supM exR [(Rg.mk 0 0 3 1 2)]) = true) /\ (¬ ((supM exR ([] : (List Rg))) = true))))))))))), rfl, hv⟩))))
set_option maxHeartbeats 4000000 in
theorem vcp_sane   : vc_sane (fun q0 => q0 = (true)) := by
  have w1 : valuesM exR = ([0, 3, 1, 4], 0) := by decide +kernel
  have w2 : latenessM exR 1 = (3, 0) := by decide +kernel
  have w3 : latenessM exR 4 = (0, 240) := by decide +kernel
  have w4 : (withE exR 2).2 = 0 := by decide +kernel
  have w5 : (withE exR 2).1.length = 2 := by decide +kernel
  have w6 : valuesM ⟨exR.sv, exR.jobs, exR.late, exR.obj, exR.causes, [⟨0, -1, 0, 0, 0, 0⟩]⟩ = ([1, 4, 1, 4], 0) := by decide +kernel
  have w7 : (lat (withE exR 2).1 0).wk.length = 1 := by decide +kernel
  have w8 : (lat (lat (withE exR 2).1 0).wk 0).tm = 1 := by decide +kernel
  have w9 : validR exR = true := by decide +kernel
  have wa : validR ⟨[], [], 0, 0, 0, []⟩ = false := by decide +kernel
  have wb : supM exR [⟨0, 0, 3, 1, 2⟩] = true := by decide +kernel
  have wc : supM exR [] = false := by decide +kernel
  have l1 : exR.sv.length <= 9223372036854775807 := by decide
  have l2 : ∀ j ∈ exR.jobs, j.wk.length <= 9223372036854775807 := by decide
  have l3 : exR.jobs.length <= 9223372036854775807 := by decide
  have l4 : exR.ex.length <= 9223372036854775807 := by decide
  unfold vc_sane
  simp only [w1, w2, w3, w4, w5, w6, w7, w8, w9, wa, wb, wc]
  refine ⟨l1, l2, l3, l4, l1, l2, l3, l4, l1, l2, l3, l4, l1, l2, l3, l4, l1, l2, l3, by decide, fun k => ?_, fun k => ⟨?_, ?_⟩⟩
  . exact absurd k (by decide)
  . refine ⟨by decide, by decide, fun _ => ⟨fun _ => ⟨by decide, by decide, fun _ => ⟨by decide, fun _ => ⟨by decide, by decide, fun _ => ⟨l1, l2, l3, l4, fun _ => ⟨by decide, by decide, by decide, by decide, fun _ => ⟨l1, l2, l3, l4, by decide, fun _ => ⟨l1, l2, l3, l4, by decide, trivial⟩, fun _ => trivial⟩, fun _ => trivial⟩, fun _ => trivial⟩, fun _ => trivial⟩, fun _ => trivial⟩, fun _ => trivial⟩, fun _ => trivial⟩, fun _ => trivial⟩
  . decide
theorem spec_sane   : FnP Try.prog 10 [] (fun xR => xR = .bool (true)) :=
  (walk_sane (vcp_sane)).mono (by rintro _ ⟨_, rfl, rfl⟩; rfl)
end Go.Lat
