/- The law latecomerlaw10.BeliefWider returns true for every input, and each argument reads afterwards as it read before. Part 11 of 12. No condition. -/
import Derived.Test.YtoaaemmchnfilaaLatD
import Derived.Test.YtoaaemmchnfilaaLatE
import Derived.Test.YtoaaemmchnfilaaLatI
import Derived.Test.YtoaaemmchnfilaaLatJ
import Derived.Test.YtoaaemmchnfilaaLatG
set_option linter.unusedVariables false
set_option linter.unusedSimpArgs false
set_option linter.unnecessarySimpa false
namespace Go.Lat
open Go.RowKit Go.Proofs
attribute [local irreducible] cvalidM bvalidM choicesM partM chM liM brangeM witM pcM inM allM inSet
attribute [local irreducible] closeM rangeM pointM addBM cycleM holdsM validBM sameM madeM pickM plusM validM possM firstM tableM longerM boundsM ofM addM freeM
def vc_bWider (c : Cas) (Post : Bool → Prop) : Prop :=
  (CasOk c) ∧ (inI ((((mkM c).1).li) + (1 : Int))) ∧ ((((2 : Int) < ((((mkM c).1).li) + (1 : Int))) ∨ ((((((mkM c).1).dr).length : Nat) : Int) ≤ ((((mkM c).1).li) + (1 : Int)))) → Post true) ∧ (¬ (((2 : Int) < ((((mkM c).1).li) + (1 : Int))) ∨ ((((((mkM c).1).dr).length : Nat) : Int) ≤ ((((mkM c).1).li) + (1 : Int)))) → (RgsOk ((mkM c).1) ((mkM c).2.1) ((mkM c).2.2.1)) ∧ (RgsOk (Flt.mk (((mkM c).1).dr) (((mkM c).1).la) ((((mkM c).1).li) + (1 : Int)) (((mkM c).1).sv) (((mkM c).1).tm)) ((mkM c).2.1) ((mkM c).2.2.1)) ∧ (((mkM c).1).dr.length ≤ 1073741824) ∧ (((mkM c).1).sv.length ≤ 1073741824) ∧ (((mkM c).1).tm.length ≤ 1073741824) ∧ (((mkM c).2.2.1).length ≤ 1073741824) ∧ ((Flt.mk (((mkM c).1).dr) (((mkM c).1).la) ((((mkM c).1).li) + (1 : Int)) (((mkM c).1).sv) (((mkM c).1).tm)).dr.length ≤ 1073741824) ∧ ((Flt.mk (((mkM c).1).dr) (((mkM c).1).la) ((((mkM c).1).li) + (1 : Int)) (((mkM c).1).sv) (((mkM c).1).tm)).sv.length ≤ 1073741824) ∧ ((Flt.mk (((mkM c).1).dr) (((mkM c).1).la) ((((mkM c).1).li) + (1 : Int)) (((mkM c).1).sv) (((mkM c).1).tm)).tm.length ≤ 1073741824) ∧ (((mkM c).2.2.1).length ≤ 1073741824) ∧ (((¬ (rangesM ((mkM c).1) ((mkM c).2.1) ((mkM c).2.2.1)).2 = (0 : Int)) ∨ ((¬ (rangesM (Flt.mk (((mkM c).1).dr) (((mkM c).1).la) ((((mkM c).1).li) + (1 : Int)) (((mkM c).1).sv) (((mkM c).1).tm)) ((mkM c).2.1) ((mkM c).2.2.1)).2 = (0 : Int)) ∨ ((¬ (liM ((mkM c).1) ((mkM c).2.1) ((mkM c).2.2.1)).2 = (0 : Int)) ∨ ((¬ (liM (Flt.mk (((mkM c).1).dr) (((mkM c).1).la) ((((mkM c).1).li) + (1 : Int)) (((mkM c).1).sv) (((mkM c).1).tm)) ((mkM c).2.1) ((mkM c).2.2.1)).2 = (0 : Int)) ∨ (¬ ((((rangesM ((mkM c).1) ((mkM c).2.1) ((mkM c).2.2.1)).1).length : Nat) : Int) = ((((rangesM (Flt.mk (((mkM c).1).dr) (((mkM c).1).la) ((((mkM c).1).li) + (1 : Int)) (((mkM c).1).sv) (((mkM c).1).tm)) ((mkM c).2.1) ((mkM c).2.2.1)).1).length : Nat) : Int)))))) → Post false) ∧ (¬ ((¬ (rangesM ((mkM c).1) ((mkM c).2.1) ((mkM c).2.2.1)).2 = (0 : Int)) ∨ ((¬ (rangesM (Flt.mk (((mkM c).1).dr) (((mkM c).1).la) ((((mkM c).1).li) + (1 : Int)) (((mkM c).1).sv) (((mkM c).1).tm)) ((mkM c).2.1) ((mkM c).2.2.1)).2 = (0 : Int)) ∨ ((¬ (liM ((mkM c).1) ((mkM c).2.1) ((mkM c).2.2.1)).2 = (0 : Int)) ∨ ((¬ (liM (Flt.mk (((mkM c).1).dr) (((mkM c).1).la) ((((mkM c).1).li) + (1 : Int)) (((mkM c).1).sv) (((mkM c).1).tm)) ((mkM c).2.1) ((mkM c).2.2.1)).2 = (0 : Int)) ∨ (¬ ((((rangesM ((mkM c).1) ((mkM c).2.1) ((mkM c).2.2.1)).1).length : Nat) : Int) = ((((rangesM (Flt.mk (((mkM c).1).dr) (((mkM c).1).la) ((((mkM c).1).li) + (1 : Int)) (((mkM c).1).sv) (((mkM c).1).tm)) ((mkM c).2.1) ((mkM c).2.2.1)).1).length : Nat) : Int)))))) → ∃ (I1 : Int → Prop) (μ1 : Int → Nat), I1 (0 : Int) ∧ ∀ (v17 : Int), I1 v17 → ((v17 < ((((rangesM ((mkM c).1) ((mkM c).2.1) ((mkM c).2.2.1)).1).length : Nat) : Int)) → (0 ≤ v17 ∧ v17 < (((rangesM (Flt.mk (((mkM c).1).dr) (((mkM c).1).la) ((((mkM c).1).li) + (1 : Int)) (((mkM c).1).sv) (((mkM c).1).tm)) ((mkM c).2.1) ((mkM c).2.2.1)).1).length : Int)) ∧ (0 ≤ v17 ∧ v17 < (((rangesM ((mkM c).1) ((mkM c).2.1) ((mkM c).2.2.1)).1).length : Int)) ∧ ((¬ ((lat ((rangesM (Flt.mk (((mkM c).1).dr) (((mkM c).1).la) ((((mkM c).1).li) + (1 : Int)) (((mkM c).1).sv) (((mkM c).1).tm)) ((mkM c).2.1) ((mkM c).2.2.1)).1) v17).y0 ≤ (lat ((rangesM ((mkM c).1) ((mkM c).2.1) ((mkM c).2.2.1)).1) v17).y0 ∧ (lat ((rangesM ((mkM c).1) ((mkM c).2.1) ((mkM c).2.2.1)).1) v17).y1 ≤ (lat ((rangesM (Flt.mk (((mkM c).1).dr) (((mkM c).1).la) ((((mkM c).1).li) + (1 : Int)) (((mkM c).1).sv) (((mkM c).1).tm)) ((mkM c).2.1) ((mkM c).2.2.1)).1) v17).y1)) → Post false) ∧ (¬ (¬ ((lat ((rangesM (Flt.mk (((mkM c).1).dr) (((mkM c).1).la) ((((mkM c).1).li) + (1 : Int)) (((mkM c).1).sv) (((mkM c).1).tm)) ((mkM c).2.1) ((mkM c).2.2.1)).1) v17).y0 ≤ (lat ((rangesM ((mkM c).1) ((mkM c).2.1) ((mkM c).2.2.1)).1) v17).y0 ∧ (lat ((rangesM ((mkM c).1) ((mkM c).2.1) ((mkM c).2.2.1)).1) v17).y1 ≤ (lat ((rangesM (Flt.mk (((mkM c).1).dr) (((mkM c).1).la) ((((mkM c).1).li) + (1 : Int)) (((mkM c).1).sv) (((mkM c).1).tm)) ((mkM c).2.1) ((mkM c).2.2.1)).1) v17).y1)) → (inI (v17 + (1 : Int))) ∧ (I1 (v17 + (1 : Int)) ∧ μ1 (v17 + (1 : Int)) < μ1 v17))) ∧ (¬ (v17 < ((((rangesM ((mkM c).1) ((mkM c).2.1) ((mkM c).2.2.1)).1).length : Nat) : Int)) → Post (decide (bitI .and .i64 ((liM ((mkM c).1) ((mkM c).2.1) ((mkM c).2.2.1)).1) ((liM (Flt.mk (((mkM c).1).dr) (((mkM c).1).la) ((((mkM c).1).li) + (1 : Int)) (((mkM c).1).sv) (((mkM c).1).tm)) ((mkM c).2.1) ((mkM c).2.2.1)).1) = (liM (Flt.mk (((mkM c).1).dr) (((mkM c).1).la) ((((mkM c).1).li) + (1 : Int)) (((mkM c).1).sv) (((mkM c).1).tm)) ((mkM c).2.1) ((mkM c).2.2.1)).1)))))
set_option maxRecDepth 100000 in
set_option maxHeartbeats 4000000 in
theorem walk_bWider {c : Cas} {Post : Bool → Prop} (hv : vc_bWider c Post) : FnP Try.prog 7 [.agg ((e25 true) c)] (fun x => ∃ q0, x = .bool q0 ∧ Post q0) := by
 refine FnP.of_walk (T := tt) (nt := 114) ttOk ttMix ⟨⟨Try.f7, Try.func7, rfl, rfl, rfl, rfl⟩⟩ (by simp) ?_
 unfold vc_bWider at hv
 change W _ _ _ ⟨114, look [(0, .agg [.int .i64 c.fl, .int .i64 c.n, .lst true c.x.length (encL e29 c.x), .lst true c.tr.length (encL eInt c.tr), .int .i64 c.ho])], [], 0⟩ _
 refine W.tr [(0, .agg _)] [] ⟨rfl, trivial⟩ rfl ?_
 refine W.rL ?_
 refine cL rfl (o_box (v := .agg _) (p := 0) rfl rfl rfl ?_)
 refine aB rfl rfl ?_
 refine eL ?_
 refine W.tr [(1, .ptr _ _)] [.box _ [.int _ _, .int _ _, .lst _ _ _, .lst _ _ _, .int _ _]] ⟨rfl, trivial⟩ rfl ?_
 refine W.seq' ?_
 refine W.rL ?_
 refine cL rfl (o_callP1 (k := 10) (fst := []) (caps := []) (ys := []) rfl rfl (spec_bsane) (Wks.refl _) ?_)
 refine cL rfl (o_notB rfl ?_)
 refine eL ?_
 refine W.tr [(1, .ptr _ _), (19, .bool _)] [.box _ [.int _ _, .int _ _, .lst _ _ _, .lst _ _ _, .int _ _]] ⟨rfl, rfl, trivial⟩ rfl ?_
 refine W.cF rfl ?_
 refine W.skip ?_
 refine th_nrm ?_
 refine W.tr [(1, .ptr _ _)] [.box _ [.int _ _, .int _ _, .lst _ _ _, .lst _ _ _, .int _ _]] ⟨rfl, trivial⟩ rfl ?_
 refine W.rL ?_
 refine cL rfl (o_ldA (cs := [.int _ _, .int _ _, .lst _ _ _, .lst _ _ _, .int _ _]) tt25 rfl rfl ⟨_, rfl⟩ rfl ?_)
 obtain ⟨s1, hv⟩ := hv
 refine cL rfl (o_callP1 (k := 11) (fst := []) (caps := []) (ys := [.agg _]) rfl rfl (spec_mk c s1) (Wks.cons (ag_agg 5 _ (Wks.cons (ag_int _ _ _ _) (Wks.cons (ag_int _ _ _ _) (Wks.cons (ag_lst _ _ _ _ _) (Wks.cons (ag_lst _ _ _ _ _) (Wks.cons (ag_int _ _ _ _) (Wks.refl _))))))) (Wks.refl _)) ?_)
 refine cL rfl (o_move (v := .tup _) rfl ?_)
 refine cL rfl (o_ext (v := .agg _) rfl rfl ?_)
 refine cL rfl (o_ext (v := .int _ _) rfl rfl ?_)
 iterate 2 refine cL rfl (o_ext (v := .lst _ _ _) rfl rfl ?_)
 refine cL rfl (o_ext (v := .int _ _) rfl rfl ?_)
 refine cL rfl (o_alloc (p := 1) tt27 rfl rfl ?_)
 refine cLn (o_stB (v := .agg _) (vs := [.lst _ _ _, .int _ _, .int _ _, .lst _ _ _, .lst _ _ _]) (cs2 := [.lst _ _ _, .int _ _, .int _ _, .lst _ _ _, .lst _ _ _]) tt27 rfl rfl rfl rfl rfl (Nat.le_of_ble_eq_true rfl) rfl ?_)
 refine aI rfl rfl ?_
 iterate 2 refine aL rfl rfl ?_
 refine aI rfl rfl ?_
 refine eL ?_
 refine W.tr [(3, .ptr _ _), (4, .int _ _), (5, .lst _ _ _)] [.box _ [.int _ _, .int _ _, .lst _ _ _, .lst _ _ _, .int _ _], .box _ [.lst _ _ _, .int _ _, .int _ _, .lst _ _ _, .lst _ _ _]] ⟨rfl, rfl, rfl, trivial⟩ rfl ?_
 refine W.rL ?_
 refine cL rfl (o_ldA (cs := [.lst _ _ _, .int _ _, .int _ _, .lst _ _ _, .lst _ _ _]) tt27 rfl rfl ⟨_, rfl⟩ rfl ?_)
 refine cL rfl (o_alloc (p := 2) tt27 rfl rfl ?_)
 refine cLn (o_stB (v := .agg _) (vs := [.lst _ _ _, .int _ _, .int _ _, .lst _ _ _, .lst _ _ _]) (cs2 := [.lst _ _ _, .int _ _, .int _ _, .lst _ _ _, .lst _ _ _]) tt27 rfl rfl rfl rfl rfl (Nat.le_of_ble_eq_true rfl) rfl ?_)
 refine eL ?_
 refine W.tr [(3, .ptr _ _), (4, .int _ _), (5, .lst _ _ _), (8, .ptr _ _)] [.box _ [.int _ _, .int _ _, .lst _ _ _, .lst _ _ _, .int _ _], .box _ [.lst _ _ _, .int _ _, .int _ _, .lst _ _ _, .lst _ _ _], .box _ [.lst _ _ _, .int _ _, .int _ _, .lst _ _ _, .lst _ _ _]] ⟨rfl, rfl, rfl, rfl, trivial⟩ rfl ?_
 refine W.rL ?_
 refine cL rfl (o_fa tt27 rfl tt3 rfl ?_)
 refine cL rfl (o_ldS (v := .int _ _) tt3 rfl rfl ⟨_, rfl⟩ ?_)
 obtain ⟨s2, hv⟩ := hv
 refine cL rfl (o_add rfl rfl s2 ?_)
 refine cL rfl (o_fa tt27 rfl tt3 rfl ?_)
 refine cLn (o_stB (v := .int _ _) (vs := [.int _ _]) (cs2 := [.lst _ _ _, .int _ _, .int _ _, .lst _ _ _, .lst _ _ _]) tt3 rfl rfl rfl rfl rfl (Nat.le_of_ble_eq_true rfl) rfl ?_)
 refine eL ?_
 refine W.tr [(3, .ptr _ _), (4, .int _ _), (5, .lst _ _ _), (8, .ptr _ _)] [.box _ [.int _ _, .int _ _, .lst _ _ _, .lst _ _ _, .int _ _], .box _ [.lst _ _ _, .int _ _, .int _ _, .lst _ _ _, .lst _ _ _], .box _ [.lst _ _ _, .int _ _, .int _ _, .lst _ _ _, .lst _ _ _]] ⟨rfl, rfl, rfl, rfl, trivial⟩ rfl ?_
 refine W.seq' ?_
 refine W.rLm ⟨114, look [(3, .ptr 1 0), (4, .int .i64 ((mkM c).2.1)), (5, .lst false ((mkM c).2.2.1).length (encL e66 ((mkM c).2.2.1))), (8, .ptr 2 0), (43, .bool (decide (((2 : Int) < ((((mkM c).1).li) + (1 : Int))) ∨ ((((((mkM c).1).dr).length : Nat) : Int) ≤ ((((mkM c).1).li) + (1 : Int))))))], [.box 25 [.int .i64 c.fl, .int .i64 c.n, .lst true c.x.length (encL e29 c.x), .lst true c.tr.length (encL eInt c.tr), .int .i64 c.ho], .box 27 [.lst false (((mkM c).1).dr).length (encL eInt (((mkM c).1).dr)), .int .i64 (((mkM c).1).la), .int .i64 (((mkM c).1).li), .lst false (((mkM c).1).sv).length (encL eInt (((mkM c).1).sv)), .lst false (((mkM c).1).tm).length (encL eInt (((mkM c).1).tm))], .box 27 [.lst false (((mkM c).1).dr).length (encL eInt (((mkM c).1).dr)), .int .i64 (((mkM c).1).la), .int .i64 ((((mkM c).1).li) + (1 : Int)), .lst false (((mkM c).1).sv).length (encL eInt (((mkM c).1).sv)), .lst false (((mkM c).1).tm).length (encL eInt (((mkM c).1).tm))]], 0⟩ ?_ ?_
 refine cL rfl (o_fa tt27 rfl tt3 rfl ?_)
 refine cL rfl (o_ldS (v := .int _ _) tt3 rfl rfl ⟨_, rfl⟩ ?_)
 refine cL rfl (o_gtr rfl rfl ?_)
 refine mB rfl rfl ?_
 by_cases c1 : (2 : Int) < ((((mkM c).1).li) + (1 : Int))
 iterate 6 refine cLs rfl rfl rfl (decide_eq_true c1) ?_
 refine cL rfl (o_pickT (v := .bool _) rfl (decide_eq_true c1) rfl ?_)
 refine eL ?_
 exact le_mk ⟨rfl, rfl, rfl, rfl, (congrArg AV.bool (dOrT c1)).symm, trivial⟩ rfl
 refine cLg rfl rfl (decide_eq_false c1) ?_
 refine cL rfl (o_fa tt27 rfl tt3 rfl ?_)
 refine cLg rfl rfl (decide_eq_false c1) ?_
 refine cL rfl (o_ldS (v := .int _ _) tt3 rfl rfl ⟨_, rfl⟩ ?_)
 refine cLg rfl rfl (decide_eq_false c1) ?_
 refine cL rfl (o_fa tt27 rfl tt23 rfl ?_)
 refine cLg rfl rfl (decide_eq_false c1) ?_
 refine cL rfl (o_ldS (v := .lst _ _ _) tt23 rfl rfl ⟨_, rfl⟩ ?_)
 refine cLg rfl rfl (decide_eq_false c1) ?_
 refine cL rfl (o_len (v := .lst _ _ _) tt23 rfl rfl ?_)
 refine cLg rfl rfl (decide_eq_false c1) ?_
 refine cL rfl (o_geq rfl rfl ?_)
 refine cL rfl (o_pickF (v := .bool _) rfl (decide_eq_false c1) rfl ?_)
 refine eL ?_
 exact le_mk ⟨rfl, rfl, rfl, rfl, (congrArg AV.bool (dOrF c1 (rfl))).symm, trivial⟩ rfl
 refine W.cn rfl (fun hc => ?_) (fun hc => ?_)
 have hv := hv.1 hc
 refine W.rL ?_
 refine aB rfl rfl ?_
 refine eL ?_
 refine W.tr [(2, .bool _)] [.box _ [.int _ _, .int _ _, .lst _ _ _, .lst _ _ _, .int _ _], .box _ [.lst _ _ _, .int _ _, .int _ _, .lst _ _ _, .lst _ _ _], .box _ [.lst _ _ _, .int _ _, .int _ _, .lst _ _ _, .lst _ _ _]] ⟨rfl, trivial⟩ rfl ?_
 refine W.ret ?_
 refine th_ret (rt ?_)
 refine rt_t (v := .bool _) rfl ?_
 refine rt_n ?_
 exact ⟨_, rs_bool _ _ _, true, rfl, hv⟩
 have hv := hv.2 hc
 refine W.skip ?_
 refine th_nrm ?_
 refine W.tr [(3, .ptr _ _), (4, .int _ _), (5, .lst _ _ _), (8, .ptr _ _)] [.box _ [.int _ _, .int _ _, .lst _ _ _, .lst _ _ _, .int _ _], .box _ [.lst _ _ _, .int _ _, .int _ _, .lst _ _ _, .lst _ _ _], .box _ [.lst _ _ _, .int _ _, .int _ _, .lst _ _ _, .lst _ _ _]] ⟨rfl, rfl, rfl, rfl, trivial⟩ rfl ?_
 refine W.rL ?_
 refine cL rfl (o_ldA (cs := [.lst _ _ _, .int _ _, .int _ _, .lst _ _ _, .lst _ _ _]) tt27 rfl rfl ⟨_, rfl⟩ rfl ?_)
 refine mI rfl rfl ?_
 refine mL rfl rfl ?_
 obtain ⟨s3, hv⟩ := hv
 refine cL rfl (o_callP1 (k := 28) (fst := []) (caps := []) (ys := [.agg _, .int _ _, .lst _ _ _]) rfl rfl (spec_ranges ((mkM c).1) ((mkM c).2.1) ((mkM c).2.2.1) s3) (Wks.cons (ag_agg 5 _ (Wks.cons (ag_lst _ _ _ _ _) (Wks.cons (ag_int _ _ _ _) (Wks.cons (ag_int _ _ _ _) (Wks.cons (ag_lst _ _ _ _ _) (Wks.cons (ag_lst _ _ _ _ _) (Wks.refl _))))))) (Wks.cons (ag_int _ _ _ _) (Wks.cons (ag_lst _ _ _ _ _) (Wks.refl _)))) ?_)
 refine cL rfl (o_move (v := .tup _) rfl ?_)
 refine cL rfl (o_ext (v := .lst _ _ _) rfl rfl ?_)
 refine cL rfl (o_ext (v := .int _ _) rfl rfl ?_)
 refine aL rfl rfl ?_
 refine aI rfl rfl ?_
 refine eL ?_
 refine W.tr [(3, .ptr _ _), (4, .int _ _), (5, .lst _ _ _), (8, .ptr _ _), (9, .lst _ _ _), (10, .int _ _)] [.box _ [.int _ _, .int _ _, .lst _ _ _, .lst _ _ _, .int _ _], .box _ [.lst _ _ _, .int _ _, .int _ _, .lst _ _ _, .lst _ _ _], .box _ [.lst _ _ _, .int _ _, .int _ _, .lst _ _ _, .lst _ _ _]] ⟨rfl, rfl, rfl, rfl, rfl, rfl, trivial⟩ rfl ?_
 refine W.rL ?_
 refine cL rfl (o_ldA (cs := [.lst _ _ _, .int _ _, .int _ _, .lst _ _ _, .lst _ _ _]) tt27 rfl rfl ⟨_, rfl⟩ rfl ?_)
 refine mI rfl rfl ?_
 refine mL rfl rfl ?_
 obtain ⟨s4, hv⟩ := hv
 refine cL rfl (o_callP1 (k := 28) (fst := []) (caps := []) (ys := [.agg _, .int _ _, .lst _ _ _]) rfl rfl (spec_ranges (Flt.mk (((mkM c).1).dr) (((mkM c).1).la) ((((mkM c).1).li) + (1 : Int)) (((mkM c).1).sv) (((mkM c).1).tm)) ((mkM c).2.1) ((mkM c).2.2.1) s4) (Wks.cons (ag_agg 5 _ (Wks.cons (ag_lst _ _ _ _ _) (Wks.cons (ag_int _ _ _ _) (Wks.cons (ag_int _ _ _ _) (Wks.cons (ag_lst _ _ _ _ _) (Wks.cons (ag_lst _ _ _ _ _) (Wks.refl _))))))) (Wks.cons (ag_int _ _ _ _) (Wks.cons (ag_lst _ _ _ _ _) (Wks.refl _)))) ?_)
 refine cL rfl (o_move (v := .tup _) rfl ?_)
 refine cL rfl (o_ext (v := .lst _ _ _) rfl rfl ?_)
 refine cL rfl (o_ext (v := .int _ _) rfl rfl ?_)
 refine aL rfl rfl ?_
 refine aI rfl rfl ?_
 refine eL ?_
 refine W.tr [(3, .ptr _ _), (4, .int _ _), (5, .lst _ _ _), (8, .ptr _ _), (9, .lst _ _ _), (10, .int _ _), (11, .lst _ _ _), (12, .int _ _)] [.box _ [.int _ _, .int _ _, .lst _ _ _, .lst _ _ _, .int _ _], .box _ [.lst _ _ _, .int _ _, .int _ _, .lst _ _ _, .lst _ _ _], .box _ [.lst _ _ _, .int _ _, .int _ _, .lst _ _ _, .lst _ _ _]] ⟨rfl, rfl, rfl, rfl, rfl, rfl, rfl, rfl, trivial⟩ rfl ?_
 refine W.rL ?_
 refine cL rfl (o_ldA (cs := [.lst _ _ _, .int _ _, .int _ _, .lst _ _ _, .lst _ _ _]) tt27 rfl rfl ⟨_, rfl⟩ rfl ?_)
 refine mI rfl rfl ?_
 refine mL rfl rfl ?_
 obtain ⟨s5, s6, s7, s8, hv⟩ := hv
 refine cL rfl (o_callP1 (k := 15) (fst := []) (caps := []) (ys := [.agg _, .int _ _, .lst _ _ _]) rfl rfl (spec_liars ((mkM c).1) ((mkM c).2.1) ((mkM c).2.2.1) s5 s6 s7 s8) (Wks.cons (ag_agg 5 _ (Wks.cons (ag_lst _ _ _ _ _) (Wks.cons (ag_int _ _ _ _) (Wks.cons (ag_int _ _ _ _) (Wks.cons (ag_lst _ _ _ _ _) (Wks.cons (ag_lst _ _ _ _ _) (Wks.refl _))))))) (Wks.cons (ag_int _ _ _ _) (Wks.cons (ag_lst _ _ _ _ _) (Wks.refl _)))) ?_)
 refine cL rfl (o_move (v := .tup _) rfl ?_)
 iterate 2 refine cL rfl (o_ext (v := .int _ _) rfl rfl ?_)
 iterate 2 refine aI rfl rfl ?_
 refine eL ?_
 refine W.tr [(4, .int _ _), (5, .lst _ _ _), (8, .ptr _ _), (9, .lst _ _ _), (10, .int _ _), (11, .lst _ _ _), (12, .int _ _), (13, .int _ _), (14, .int _ _)] [.box _ [.int _ _, .int _ _, .lst _ _ _, .lst _ _ _, .int _ _], .box _ [.lst _ _ _, .int _ _, .int _ _, .lst _ _ _, .lst _ _ _], .box _ [.lst _ _ _, .int _ _, .int _ _, .lst _ _ _, .lst _ _ _]] ⟨rfl, rfl, rfl, rfl, rfl, rfl, rfl, rfl, rfl, trivial⟩ rfl ?_
 refine W.rL ?_
 refine cL rfl (o_ldA (cs := [.lst _ _ _, .int _ _, .int _ _, .lst _ _ _, .lst _ _ _]) tt27 rfl rfl ⟨_, rfl⟩ rfl ?_)
 refine mI rfl rfl ?_
 refine mL rfl rfl ?_
 obtain ⟨s9, s10, s11, s12, hv⟩ := hv
 refine cL rfl (o_callP1 (k := 15) (fst := []) (caps := []) (ys := [.agg _, .int _ _, .lst _ _ _]) rfl rfl (spec_liars (Flt.mk (((mkM c).1).dr) (((mkM c).1).la) ((((mkM c).1).li) + (1 : Int)) (((mkM c).1).sv) (((mkM c).1).tm)) ((mkM c).2.1) ((mkM c).2.2.1) s9 s10 s11 s12) (Wks.cons (ag_agg 5 _ (Wks.cons (ag_lst _ _ _ _ _) (Wks.cons (ag_int _ _ _ _) (Wks.cons (ag_int _ _ _ _) (Wks.cons (ag_lst _ _ _ _ _) (Wks.cons (ag_lst _ _ _ _ _) (Wks.refl _))))))) (Wks.cons (ag_int _ _ _ _) (Wks.cons (ag_lst _ _ _ _ _) (Wks.refl _)))) ?_)
 refine cL rfl (o_move (v := .tup _) rfl ?_)
 iterate 2 refine cL rfl (o_ext (v := .int _ _) rfl rfl ?_)
 iterate 2 refine aI rfl rfl ?_
 refine eL ?_
 refine W.tr [(9, .lst _ _ _), (10, .int _ _), (11, .lst _ _ _), (12, .int _ _), (13, .int _ _), (14, .int _ _), (15, .int _ _), (16, .int _ _)] [.box _ [.int _ _, .int _ _, .lst _ _ _, .lst _ _ _, .int _ _], .box _ [.lst _ _ _, .int _ _, .int _ _, .lst _ _ _, .lst _ _ _], .box _ [.lst _ _ _, .int _ _, .int _ _, .lst _ _ _, .lst _ _ _]] ⟨rfl, rfl, rfl, rfl, rfl, rfl, rfl, rfl, trivial⟩ rfl ?_
 refine W.seq' ?_
 refine W.rLm ⟨114, look [(9, .lst false ((rangesM ((mkM c).1) ((mkM c).2.1) ((mkM c).2.2.1)).1).length (encL e61 ((rangesM ((mkM c).1) ((mkM c).2.1) ((mkM c).2.2.1)).1))), (11, .lst false ((rangesM (Flt.mk (((mkM c).1).dr) (((mkM c).1).la) ((((mkM c).1).li) + (1 : Int)) (((mkM c).1).sv) (((mkM c).1).tm)) ((mkM c).2.1) ((mkM c).2.2.1)).1).length (encL e61 ((rangesM (Flt.mk (((mkM c).1).dr) (((mkM c).1).la) ((((mkM c).1).li) + (1 : Int)) (((mkM c).1).sv) (((mkM c).1).tm)) ((mkM c).2.1) ((mkM c).2.2.1)).1))), (13, .int .i64 ((liM ((mkM c).1) ((mkM c).2.1) ((mkM c).2.2.1)).1)), (15, .int .i64 ((liM (Flt.mk (((mkM c).1).dr) (((mkM c).1).la) ((((mkM c).1).li) + (1 : Int)) (((mkM c).1).sv) (((mkM c).1).tm)) ((mkM c).2.1) ((mkM c).2.2.1)).1)), (92, .bool (decide ((¬ (rangesM ((mkM c).1) ((mkM c).2.1) ((mkM c).2.2.1)).2 = (0 : Int)) ∨ ((¬ (rangesM (Flt.mk (((mkM c).1).dr) (((mkM c).1).la) ((((mkM c).1).li) + (1 : Int)) (((mkM c).1).sv) (((mkM c).1).tm)) ((mkM c).2.1) ((mkM c).2.2.1)).2 = (0 : Int)) ∨ ((¬ (liM ((mkM c).1) ((mkM c).2.1) ((mkM c).2.2.1)).2 = (0 : Int)) ∨ ((¬ (liM (Flt.mk (((mkM c).1).dr) (((mkM c).1).la) ((((mkM c).1).li) + (1 : Int)) (((mkM c).1).sv) (((mkM c).1).tm)) ((mkM c).2.1) ((mkM c).2.2.1)).2 = (0 : Int)) ∨ (¬ ((((rangesM ((mkM c).1) ((mkM c).2.1) ((mkM c).2.2.1)).1).length : Nat) : Int) = ((((rangesM (Flt.mk (((mkM c).1).dr) (((mkM c).1).la) ((((mkM c).1).li) + (1 : Int)) (((mkM c).1).sv) (((mkM c).1).tm)) ((mkM c).2.1) ((mkM c).2.2.1)).1).length : Nat) : Int))))))))], [.box 25 [.int .i64 c.fl, .int .i64 c.n, .lst true c.x.length (encL e29 c.x), .lst true c.tr.length (encL eInt c.tr), .int .i64 c.ho], .box 27 [.lst false (((mkM c).1).dr).length (encL eInt (((mkM c).1).dr)), .int .i64 (((mkM c).1).la), .int .i64 (((mkM c).1).li), .lst false (((mkM c).1).sv).length (encL eInt (((mkM c).1).sv)), .lst false (((mkM c).1).tm).length (encL eInt (((mkM c).1).tm))], .box 27 [.lst false (((mkM c).1).dr).length (encL eInt (((mkM c).1).dr)), .int .i64 (((mkM c).1).la), .int .i64 ((((mkM c).1).li) + (1 : Int)), .lst false (((mkM c).1).sv).length (encL eInt (((mkM c).1).sv)), .lst false (((mkM c).1).tm).length (encL eInt (((mkM c).1).tm))]], 0⟩ ?_ ?_
 refine mI rfl rfl ?_
 refine cL rfl (o_neI rfl rfl rfl ?_)
 refine mB rfl rfl ?_
 by_cases c1 : ¬ (rangesM ((mkM c).1) ((mkM c).2.1) ((mkM c).2.2.1)).2 = (0 : Int)
 iterate 2 refine cLs rfl rfl rfl (decide_eq_true c1) ?_
 refine cL rfl (o_pickT (v := .bool _) rfl (decide_eq_true c1) rfl ?_)
 refine mB rfl rfl ?_
 iterate 2 refine cLs rfl rfl rfl (rfl) ?_
 refine cL rfl (o_pickT (v := .bool _) rfl rfl rfl ?_)
 refine mB rfl rfl ?_
 iterate 2 refine cLs rfl rfl rfl (rfl) ?_
 refine cL rfl (o_pickT (v := .bool _) rfl rfl rfl ?_)
 refine mB rfl rfl ?_
 iterate 5 refine cLs rfl rfl rfl (rfl) ?_
 refine cL rfl (o_pickT (v := .bool _) rfl rfl rfl ?_)
 refine eL ?_
 exact le_mk ⟨rfl, rfl, rfl, rfl, (congrArg AV.bool (dOrT c1)).symm, trivial⟩ rfl
 refine cLg rfl rfl (decide_eq_false c1) ?_
 refine mI rfl rfl ?_
 refine cLg rfl rfl (decide_eq_false c1) ?_
 refine cL rfl (o_neI rfl rfl rfl ?_)
 refine cL rfl (o_pickF (v := .bool _) rfl (decide_eq_false c1) rfl ?_)
 refine mB rfl rfl ?_
 by_cases c2 : ¬ (rangesM (Flt.mk (((mkM c).1).dr) (((mkM c).1).la) ((((mkM c).1).li) + (1 : Int)) (((mkM c).1).sv) (((mkM c).1).tm)) ((mkM c).2.1) ((mkM c).2.2.1)).2 = (0 : Int)
 iterate 2 refine cLs rfl rfl rfl (decide_eq_true c2) ?_
 refine cL rfl (o_pickT (v := .bool _) rfl (decide_eq_true c2) rfl ?_)
 refine mB rfl rfl ?_
 iterate 2 refine cLs rfl rfl rfl (rfl) ?_
 refine cL rfl (o_pickT (v := .bool _) rfl rfl rfl ?_)
 refine mB rfl rfl ?_
 iterate 5 refine cLs rfl rfl rfl (rfl) ?_
 refine cL rfl (o_pickT (v := .bool _) rfl rfl rfl ?_)
 refine eL ?_
 exact le_mk ⟨rfl, rfl, rfl, rfl, (congrArg AV.bool (dOrF c1 (dOrT c2))).symm, trivial⟩ rfl
 refine cLg rfl rfl (decide_eq_false c2) ?_
 refine mI rfl rfl ?_
 refine cLg rfl rfl (decide_eq_false c2) ?_
 refine cL rfl (o_neI rfl rfl rfl ?_)
 refine cL rfl (o_pickF (v := .bool _) rfl (decide_eq_false c2) rfl ?_)
 refine mB rfl rfl ?_
 by_cases c3 : ¬ (liM ((mkM c).1) ((mkM c).2.1) ((mkM c).2.2.1)).2 = (0 : Int)
 iterate 2 refine cLs rfl rfl rfl (decide_eq_true c3) ?_
 refine cL rfl (o_pickT (v := .bool _) rfl (decide_eq_true c3) rfl ?_)
 refine mB rfl rfl ?_
 iterate 5 refine cLs rfl rfl rfl (rfl) ?_
 refine cL rfl (o_pickT (v := .bool _) rfl rfl rfl ?_)
 refine eL ?_
 exact le_mk ⟨rfl, rfl, rfl, rfl, (congrArg AV.bool (dOrF c1 (dOrF c2 (dOrT c3)))).symm, trivial⟩ rfl
 refine cLg rfl rfl (decide_eq_false c3) ?_
 refine mI rfl rfl ?_
 refine cLg rfl rfl (decide_eq_false c3) ?_
 refine cL rfl (o_neI rfl rfl rfl ?_)
 refine cL rfl (o_pickF (v := .bool _) rfl (decide_eq_false c3) rfl ?_)
 refine mB rfl rfl ?_
 by_cases c4 : ¬ (liM (Flt.mk (((mkM c).1).dr) (((mkM c).1).la) ((((mkM c).1).li) + (1 : Int)) (((mkM c).1).sv) (((mkM c).1).tm)) ((mkM c).2.1) ((mkM c).2.2.1)).2 = (0 : Int)
 iterate 5 refine cLs rfl rfl rfl (decide_eq_true c4) ?_
 refine cL rfl (o_pickT (v := .bool _) rfl (decide_eq_true c4) rfl ?_)
 refine eL ?_
 exact le_mk ⟨rfl, rfl, rfl, rfl, (congrArg AV.bool (dOrF c1 (dOrF c2 (dOrF c3 (dOrT c4))))).symm, trivial⟩ rfl
 refine cLg rfl rfl (decide_eq_false c4) ?_
 refine mL rfl rfl ?_
 refine cLg rfl rfl (decide_eq_false c4) ?_
 refine cL rfl (o_len (v := .lst _ _ _) tt57 rfl rfl ?_)
 refine cLg rfl rfl (decide_eq_false c4) ?_
 refine mL rfl rfl ?_
 refine cLg rfl rfl (decide_eq_false c4) ?_
 refine cL rfl (o_len (v := .lst _ _ _) tt57 rfl rfl ?_)
 refine cLg rfl rfl (decide_eq_false c4) ?_
 refine cL rfl (o_neI rfl rfl rfl ?_)
 refine cL rfl (o_pickF (v := .bool _) rfl (decide_eq_false c4) rfl ?_)
 refine eL ?_
 exact le_mk ⟨rfl, rfl, rfl, rfl, (congrArg AV.bool (dOrF c1 (dOrF c2 (dOrF c3 (dOrF c4 (rfl)))))).symm, trivial⟩ rfl
 refine W.cn rfl (fun hc => ?_) (fun hc => ?_)
 have hv := hv.1 hc
 refine W.rL ?_
 refine aB rfl rfl ?_
 refine eL ?_
 refine W.tr [(2, .bool _)] [.box _ [.int _ _, .int _ _, .lst _ _ _, .lst _ _ _, .int _ _], .box _ [.lst _ _ _, .int _ _, .int _ _, .lst _ _ _, .lst _ _ _], .box _ [.lst _ _ _, .int _ _, .int _ _, .lst _ _ _, .lst _ _ _]] ⟨rfl, trivial⟩ rfl ?_
 refine W.ret ?_
 refine th_ret (rt ?_)
 refine rt_t (v := .bool _) rfl ?_
 refine rt_n ?_
 exact ⟨_, rs_bool _ _ _, false, rfl, hv⟩
 have hv := hv.2 hc
 refine W.skip ?_
 refine th_nrm ?_
 refine W.tr [(9, .lst _ _ _), (11, .lst _ _ _), (13, .int _ _), (15, .int _ _)] [.box _ [.int _ _, .int _ _, .lst _ _ _, .lst _ _ _, .int _ _], .box _ [.lst _ _ _, .int _ _, .int _ _, .lst _ _ _, .lst _ _ _], .box _ [.lst _ _ _, .int _ _, .int _ _, .lst _ _ _, .lst _ _ _]] ⟨rfl, rfl, rfl, rfl, trivial⟩ rfl ?_
 refine W.seq' ?_
 refine W.rL ?_
 refine aI rfl rfl ?_
 refine eL ?_
 refine W.tr [(9, .lst _ _ _), (11, .lst _ _ _), (13, .int _ _), (15, .int _ _), (17, .int _ _)] [.box _ [.int _ _, .int _ _, .lst _ _ _, .lst _ _ _, .int _ _], .box _ [.lst _ _ _, .int _ _, .int _ _, .lst _ _ _, .lst _ _ _], .box _ [.lst _ _ _, .int _ _, .int _ _, .lst _ _ _, .lst _ _ _]] ⟨rfl, rfl, rfl, rfl, rfl, trivial⟩ rfl ?_
 refine W.block ?_
 obtain ⟨I1, μ1, hp, hv⟩ := hv
 refine W.loop1 (fun v17 => ⟨114, look [(9, .lst false ((rangesM ((mkM c).1) ((mkM c).2.1) ((mkM c).2.2.1)).1).length (encL e61 ((rangesM ((mkM c).1) ((mkM c).2.1) ((mkM c).2.2.1)).1))), (11, .lst false ((rangesM (Flt.mk (((mkM c).1).dr) (((mkM c).1).la) ((((mkM c).1).li) + (1 : Int)) (((mkM c).1).sv) (((mkM c).1).tm)) ((mkM c).2.1) ((mkM c).2.2.1)).1).length (encL e61 ((rangesM (Flt.mk (((mkM c).1).dr) (((mkM c).1).la) ((((mkM c).1).li) + (1 : Int)) (((mkM c).1).sv) (((mkM c).1).tm)) ((mkM c).2.1) ((mkM c).2.2.1)).1))), (13, .int .i64 ((liM ((mkM c).1) ((mkM c).2.1) ((mkM c).2.2.1)).1)), (15, .int .i64 ((liM (Flt.mk (((mkM c).1).dr) (((mkM c).1).la) ((((mkM c).1).li) + (1 : Int)) (((mkM c).1).sv) (((mkM c).1).tm)) ((mkM c).2.1) ((mkM c).2.2.1)).1)), (17, .int .i64 v17)], [.dead], 0⟩) I1 μ1 (0 : Int) (St.to_mk (φ := [none]) rfl (rfl) ⟨Ren.lst _ _ _, Ren.lst _ _ _, Ren.int _ _, Ren.int _ _, Ren.int _ _, trivial⟩ ⟨rfl, trivial⟩) hp ?_
 clear hp
 intro v17 hI
 replace hv := hv v17 hI
 clear hI
 refine W.seq' ?_
 refine W.rL ?_
 refine mI rfl rfl ?_
 refine mL rfl rfl ?_
 refine cL rfl (o_len (v := .lst _ _ _) tt57 rfl rfl ?_)
 refine cL rfl (o_lss rfl rfl ?_)
 refine eL ?_
 refine W.tr [(9, .lst _ _ _), (11, .lst _ _ _), (13, .int _ _), (15, .int _ _), (17, .int _ _), (96, .bool _)] [.dead] ⟨rfl, rfl, rfl, rfl, rfl, rfl, trivial⟩ rfl ?_
 refine W.cn rfl (fun hc => ?_) (fun hc => ?_)
 have hv := hv.1 hc
 refine W.skip ?_
 refine th_nrm ?_
 refine W.tr [(9, .lst _ _ _), (11, .lst _ _ _), (13, .int _ _), (15, .int _ _), (17, .int _ _)] [.dead] ⟨rfl, rfl, rfl, rfl, rfl, trivial⟩ rfl ?_
 refine W.seq' ?_
 refine W.block ?_
 refine W.rD [0, 1, 2, 3, 4, 5, 6, 7, 8, 9] (by decide +kernel) rfl ?_
 refine mL rfl rfl ?_
 refine mI rfl rfl ?_
 obtain ⟨s30, hv⟩ := hv
 refine cL rfl (o_iaL tt57 tt61 rfl rfl (enc61.wd true) rfl s30 ?_)
 intro rest30
 refine cL rfl (o_ldA (cs := [.int _ _, .int _ _]) tt61 rfl rfl ⟨_, rfl⟩ rfl ?_)
 refine mL rfl rfl ?_
 refine mI rfl rfl ?_
 obtain ⟨s31, hv⟩ := hv
 refine cL rfl (o_iaL tt57 tt61 rfl rfl (enc61.wd true) rfl s31 ?_)
 intro rest31
 refine cL rfl (o_ldA (cs := [.int _ _, .int _ _]) tt61 rfl rfl ⟨_, rfl⟩ rfl ?_)
 refine cL rfl (o_callP1 (k := 29) (fst := []) (caps := []) (ys := [.agg _, .agg _]) rfl rfl (spec_contains (lat ((rangesM (Flt.mk (((mkM c).1).dr) (((mkM c).1).la) ((((mkM c).1).li) + (1 : Int)) (((mkM c).1).sv) (((mkM c).1).tm)) ((mkM c).2.1) ((mkM c).2.2.1)).1) v17) (lat ((rangesM ((mkM c).1) ((mkM c).2.1) ((mkM c).2.2.1)).1) v17)) (Wks.cons (ag_agg 5 _ (Wks.cons (ag_int _ _ _ _) (Wks.cons (ag_int _ _ _ _) (Wks.refl _)))) (Wks.cons (ag_agg 5 _ (Wks.cons (ag_int _ _ _ _) (Wks.cons (ag_int _ _ _ _) (Wks.refl _)))) (Wks.refl _))) ?_)
 refine cL rfl (o_not rfl ?_)
 refine eL ?_
 refine W.tr [(9, .lst _ _ _), (11, .lst _ _ _), (13, .int _ _), (15, .int _ _), (17, .int _ _), (108, .bool _)] [.dead] ⟨rfl, rfl, rfl, rfl, rfl, rfl, trivial⟩ rfl ?_
 refine W.cn rfl (fun hc => ?_) (fun hc => ?_)
 have hv := hv.1 hc
 refine W.rL ?_
 refine aB rfl rfl ?_
 refine eL ?_
 refine W.tr [(2, .bool _)] [.dead] ⟨rfl, trivial⟩ rfl ?_
 refine W.ret ?_
 refine bl_ret (th_ret (th_ret (bl_ret (th_ret (rt ?_)))))
 refine rt_t (v := .bool _) rfl ?_
 refine rt_n ?_
 exact ⟨_, rs_bool _ _ _, false, rfl, hv⟩
 have hv := hv.2 hc
 refine W.skip ?_
 refine bl_nrm (th_nrm ?_)
 refine W.tr [(9, .lst _ _ _), (11, .lst _ _ _), (13, .int _ _), (15, .int _ _), (17, .int _ _)] [.dead] ⟨rfl, rfl, rfl, rfl, rfl, trivial⟩ rfl ?_
 refine W.rL1 ?_
 refine mI rfl rfl ?_
 obtain ⟨s32, hv⟩ := hv
 refine cL rfl (o_add rfl rfl s32 ?_)
 refine aI rfl rfl ?_
 refine eL ?_
 exact th_nrm (⟨(), (v17 + (1 : Int)), hv, St.to_mk (φ := [none]) rfl (rfl) ⟨Ren.lst _ _ _, Ren.lst _ _ _, Ren.int _ _, Ren.int _ _, Ren.int _ _, trivial⟩ ⟨rfl, trivial⟩⟩)
 have hv := hv.2 hc
 refine W.exit ?_
 refine th_exit (th_exit (bl_hit (th_nrm ?_)))
 refine W.tr [(13, .int _ _), (15, .int _ _)] [.dead] ⟨rfl, rfl, trivial⟩ rfl ?_
 refine W.rL ?_
 iterate 2 refine mI rfl rfl ?_
 refine cL rfl (o_and rfl rfl ?_)
 refine mI rfl rfl ?_
 refine cL rfl (o_eqI rfl rfl rfl ?_)
 refine aB rfl rfl ?_
 refine eL ?_
 refine W.tr [(2, .bool _)] [.dead] ⟨rfl, trivial⟩ rfl ?_
 refine W.ret ?_
 refine rt ?_
 refine rt_t (v := .bool _) rfl ?_
 refine rt_n ?_
 exact ⟨_, rs_bool _ _ _, (decide (bitI .and .i64 ((liM ((mkM c).1) ((mkM c).2.1) ((mkM c).2.2.1)).1) ((liM (Flt.mk (((mkM c).1).dr) (((mkM c).1).la) ((((mkM c).1).li) + (1 : Int)) (((mkM c).1).sv) (((mkM c).1).tm)) ((mkM c).2.1) ((mkM c).2.2.1)).1) = (liM (Flt.mk (((mkM c).1).dr) (((mkM c).1).la) ((((mkM c).1).li) + (1 : Int)) (((mkM c).1).sv) (((mkM c).1).tm)) ((mkM c).2.1) ((mkM c).2.2.1)).1)), rfl, hv⟩
theorem vcp_bWider (c : Cas) (h0 : CasOk c) : vc_bWider c (fun q0 => q0 = (true)) := by
  unfold vc_bWider
  obtain ⟨ho, eho, hl24, hF, hn6, hB⟩ := mk_bel c
  generalize mkM c = p at *
  obtain ⟨F, N, L, TR, HO⟩ := p
  dsimp only at *
  obtain ⟨q1, q2, q3⟩ := hF.lens
  have hno := hB.no
  have hli := hB.fo.li
  refine ⟨h0, by unfold inI; omega, fun _ => rfl, fun hne => ?_⟩
  have hB' := hB.wider (by have : ¬ (2 : Int) < F.li + 1 := fun e => hne (.inl e)
                           omega) (by have : ¬ ((F.dr.length : Nat) : Int) ≤ F.li + 1 := fun e => hne (.inr e)
                                      omega)
  obtain ⟨z, y, ez, ey, hzy⟩ := hB.wider_li hB'
  have hrl := ranges_len (f := F) (n := N) (l := L)
  have hrl' := ranges_len (f := ⟨F.dr, F.la, F.li + 1, F.sv, F.tm⟩) (n := N) (l := L)
  have hmul : N.toNat * N.toNat ≤ 36 := Nat.le_trans (Nat.mul_le_mul (show N.toNat ≤ 6 by omega) (show N.toNat ≤ 6 by omega)) (by omega)
  have hle : L.length ≤ 1073741824 := by omega
  refine ⟨rgs_ok hB hF.lens, rgs_ok hB' hF.lens, q1, q2, q3, hle, q1, q2, q3, hle, fun h => ?_, fun _ => ⟨fun v => ∃ q : Nat, v = q ∧ q ≤ N.toNat * N.toNat, fun v => N.toNat * N.toNat - v.toNat, ⟨0, rfl, by omega⟩, ?_⟩⟩
  · exfalso
    rcases h with h | h | h | h | h
    · exact h rfl
    · exact h rfl
    · exact h (by rw [ez])
    · exact h (by rw [ey])
    · exact h (by rw [hrl, hrl'])
  · rintro _ ⟨q, rfl, hq⟩
    refine ⟨fun h1 => ?_, fun h1 => ?_⟩
    · have hqlt : q < N.toNat * N.toNat := by omega
      obtain ⟨i, j, hi, hj, e1, e2⟩ := ranges_at (f := ⟨F.dr, F.la, F.li + 1, F.sv, F.tm⟩) (g := F) (n := N) (k := L) (l := L) hqlt
      obtain ⟨lo, hi', hr⟩ := rg_ok hB.bv hB.ne hi hj
      obtain ⟨lo2, hi2, hr2⟩ := rg_ok hB'.bv hB'.ne hi hj
      have hs := rg_sub hr hr2 hi hj (hB.wider_sub hB')
      rw [e1, e2, hr.eq, hr2.eq]
      refine ⟨by omega, by omega, fun h3 => absurd ⟨hs.1, hs.2⟩ h3, fun _ => ⟨by unfold inI; omega, ⟨q + 1, by omega, by omega⟩, by dsimp only; omega⟩⟩
    · show decide _ = true
      rw [ez, ey]
      exact decide_eq_true hzy
theorem spec_bWider (c : Cas) (h0 : CasOk c) : FnP Try.prog 7 [.agg ((e25 true) c)] (fun xR => xR = .bool (true)) :=
  (walk_bWider (vcp_bWider c h0)).mono (by rintro _ ⟨_, rfl, rfl⟩; rfl)
end Go.Lat
