/- The law latecomerlaw10.BeliefTruth returns true for every input, and each argument reads afterwards as it read before. Part 11 of 12. No condition. -/
import Derived.Test.YtoaaemmchnfilaaLatD
import Derived.Test.YtoaaemmchnfilaaLatE
import Derived.Test.YtoaaemmchnfilaaLatI
import Derived.Test.YtoaaemmchnfilaaLatJ
import Derived.Test.YtoaaemmchnfilaaLatG
set_option linter.unusedVariables false
set_option linter.unusedSimpArgs false
set_option linter.unnecessarySimpa false
namespace Go.Lat
open Go.RowKit Go.Proofs
attribute [local irreducible] cvalidM bvalidM choicesM partM chM liM brangeM witM pcM inM allM inSet
attribute [local irreducible] closeM rangeM pointM addBM cycleM holdsM validBM sameM madeM pickM plusM validM possM firstM tableM longerM boundsM ofM addM freeM
def vc_bTruth (c : Cas) (Post : Bool → Prop) : Prop :=
  (CasOk c) ∧ (((mkM c).1).dr.length ≤ 1073741824) ∧ (((mkM c).1).sv.length ≤ 1073741824) ∧ (((mkM c).1).tm.length ≤ 1073741824) ∧ (((mkM c).2.2.1).length ≤ 1073741824) ∧ (((mkM c).1).dr.length ≤ 1073741824) ∧ (((mkM c).1).sv.length ≤ 1073741824) ∧ (((mkM c).1).tm.length ≤ 1073741824) ∧ (((mkM c).2.2.1).length ≤ 1073741824) ∧ (((¬ (chM ((mkM c).1) ((mkM c).2.1) ((mkM c).2.2.1)).2 = (0 : Int)) ∨ ((¬ (liM ((mkM c).1) ((mkM c).2.1) ((mkM c).2.2.1)).2 = (0 : Int)) ∨ ((((((chM ((mkM c).1) ((mkM c).2.1) ((mkM c).2.2.1)).1).length : Nat) : Int) = (0 : Int)) ∨ (¬ bitI .and .i64 ((liM ((mkM c).1) ((mkM c).2.1) ((mkM c).2.2.1)).1) ((mkM c).2.2.2.2) = (0 : Int))))) → Post false) ∧ (¬ ((¬ (chM ((mkM c).1) ((mkM c).2.1) ((mkM c).2.2.1)).2 = (0 : Int)) ∨ ((¬ (liM ((mkM c).1) ((mkM c).2.1) ((mkM c).2.2.1)).2 = (0 : Int)) ∨ ((((((chM ((mkM c).1) ((mkM c).2.1) ((mkM c).2.2.1)).1).length : Nat) : Int) = (0 : Int)) ∨ (¬ bitI .and .i64 ((liM ((mkM c).1) ((mkM c).2.1) ((mkM c).2.2.1)).1) ((mkM c).2.2.2.2) = (0 : Int))))) → ∃ (I1 : Int → Prop) (μ1 : Int → Nat), I1 (0 : Int) ∧ ∀ (v12 : Int), I1 v12 → ((v12 < ((mkM c).2.1)) → ∃ (I2 : Int → Prop) (μ2 : Int → Nat), I2 (0 : Int) ∧ ∀ (v13 : Int), I2 v13 → ((v13 < ((mkM c).2.1)) → (((mkM c).1).dr.length ≤ 1073741824) ∧ (((mkM c).1).sv.length ≤ 1073741824) ∧ (((mkM c).1).tm.length ≤ 1073741824) ∧ (((mkM c).2.2.1).length ≤ 1073741824) ∧ (((¬ (brangeM ((mkM c).1) ((mkM c).2.1) ((mkM c).2.2.1) v12 v13).2.2 = (0 : Int)) → True) ∧ (¬ (¬ (brangeM ((mkM c).1) ((mkM c).2.1) ((mkM c).2.2.1) v12 v13).2.2 = (0 : Int)) → (0 ≤ v13 ∧ v13 < (((mkM c).2.2.2.1).length : Int)) ∧ (0 ≤ v12 ∧ v12 < (((mkM c).2.2.2.1).length : Int)) ∧ (inI ((lat ((mkM c).2.2.2.1) v13) - (lat ((mkM c).2.2.2.1) v12))) ∧ ((((lat ((mkM c).2.2.2.1) v13) - (lat ((mkM c).2.2.2.1) v12)) < ((brangeM ((mkM c).1) ((mkM c).2.1) ((mkM c).2.2.1) v12 v13).1)) → True) ∧ (¬ (((lat ((mkM c).2.2.2.1) v13) - (lat ((mkM c).2.2.2.1) v12)) < ((brangeM ((mkM c).1) ((mkM c).2.1) ((mkM c).2.2.1) v12 v13).1)) → (0 ≤ v13 ∧ v13 < (((mkM c).2.2.2.1).length : Int)) ∧ (0 ≤ v12 ∧ v12 < (((mkM c).2.2.2.1).length : Int)) ∧ (inI ((lat ((mkM c).2.2.2.1) v13) - (lat ((mkM c).2.2.2.1) v12))) ∧ True))) ∧ ((((¬ (brangeM ((mkM c).1) ((mkM c).2.1) ((mkM c).2.2.1) v12 v13).2.2 = (0 : Int)) ∨ ((((lat ((mkM c).2.2.2.1) v13) - (lat ((mkM c).2.2.2.1) v12)) < ((brangeM ((mkM c).1) ((mkM c).2.1) ((mkM c).2.2.1) v12 v13).1)) ∨ (((brangeM ((mkM c).1) ((mkM c).2.1) ((mkM c).2.2.1) v12 v13).2.1) < ((lat ((mkM c).2.2.2.1) v13) - (lat ((mkM c).2.2.2.1) v12))))) → Post false) ∧ (¬ ((¬ (brangeM ((mkM c).1) ((mkM c).2.1) ((mkM c).2.2.1) v12 v13).2.2 = (0 : Int)) ∨ ((((lat ((mkM c).2.2.2.1) v13) - (lat ((mkM c).2.2.2.1) v12)) < ((brangeM ((mkM c).1) ((mkM c).2.1) ((mkM c).2.2.1) v12 v13).1)) ∨ (((brangeM ((mkM c).1) ((mkM c).2.1) ((mkM c).2.2.1) v12 v13).2.1) < ((lat ((mkM c).2.2.2.1) v13) - (lat ((mkM c).2.2.2.1) v12))))) → (inI (v13 + (1 : Int))) ∧ (I2 (v13 + (1 : Int)) ∧ μ2 (v13 + (1 : Int)) < μ2 v13)))) ∧ (¬ (v13 < ((mkM c).2.1)) → (inI (v12 + (1 : Int))) ∧ (I1 (v12 + (1 : Int)) ∧ μ1 (v12 + (1 : Int)) < μ1 v12))) ∧ (¬ (v12 < ((mkM c).2.1)) → Post true))
set_option maxRecDepth 100000 in
set_option maxHeartbeats 4000000 in
theorem walk_bTruth {c : Cas} {Post : Bool → Prop} (hv : vc_bTruth c Post) : FnP Try.prog 4 [.agg ((e25 true) c)] (fun x => ∃ q0, x = .bool q0 ∧ Post q0) := by
 refine FnP.of_walk (T := tt) (nt := 106) ttOk ttMix ⟨⟨Try.f4, Try.func4, rfl, rfl, rfl, rfl⟩⟩ (by simp) ?_
 unfold vc_bTruth at hv
 change W _ _ _ ⟨106, look [(0, .agg [.int .i64 c.fl, .int .i64 c.n, .lst true c.x.length (encL e29 c.x), .lst true c.tr.length (encL eInt c.tr), .int .i64 c.ho])], [], 0⟩ _
 refine W.tr [(0, .agg _)] [] ⟨rfl, trivial⟩ rfl ?_
 refine W.rL ?_
 refine cL rfl (o_box (v := .agg _) (p := 0) rfl rfl rfl ?_)
 refine aB rfl rfl ?_
 refine eL ?_
 refine W.tr [(1, .ptr _ _)] [.box _ [.int _ _, .int _ _, .lst _ _ _, .lst _ _ _, .int _ _]] ⟨rfl, trivial⟩ rfl ?_
 refine W.seq' ?_
 refine W.rL ?_
 refine cL rfl (o_callP1 (k := 10) (fst := []) (caps := []) (ys := []) rfl rfl (spec_bsane) (Wks.refl _) ?_)
 refine cL rfl (o_notB rfl ?_)
 refine eL ?_
 refine W.tr [(1, .ptr _ _), (18, .bool _)] [.box _ [.int _ _, .int _ _, .lst _ _ _, .lst _ _ _, .int _ _]] ⟨rfl, rfl, trivial⟩ rfl ?_
 refine W.cF rfl ?_
 refine W.skip ?_
 refine th_nrm ?_
 refine W.tr [(1, .ptr _ _)] [.box _ [.int _ _, .int _ _, .lst _ _ _, .lst _ _ _, .int _ _]] ⟨rfl, trivial⟩ rfl ?_
 refine W.rL ?_
 refine cL rfl (o_ldA (cs := [.int _ _, .int _ _, .lst _ _ _, .lst _ _ _, .int _ _]) tt25 rfl rfl ⟨_, rfl⟩ rfl ?_)
 obtain ⟨s1, hv⟩ := hv
 refine cL rfl (o_callP1 (k := 11) (fst := []) (caps := []) (ys := [.agg _]) rfl rfl (spec_mk c s1) (Wks.cons (ag_agg 5 _ (Wks.cons (ag_int _ _ _ _) (Wks.cons (ag_int _ _ _ _) (Wks.cons (ag_lst _ _ _ _ _) (Wks.cons (ag_lst _ _ _ _ _) (Wks.cons (ag_int _ _ _ _) (Wks.refl _))))))) (Wks.refl _)) ?_)
 refine cL rfl (o_move (v := .tup _) rfl ?_)
 refine cL rfl (o_ext (v := .agg _) rfl rfl ?_)
 refine cL rfl (o_ext (v := .int _ _) rfl rfl ?_)
 iterate 2 refine cL rfl (o_ext (v := .lst _ _ _) rfl rfl ?_)
 refine cL rfl (o_ext (v := .int _ _) rfl rfl ?_)
 refine cL rfl (o_alloc (p := 1) tt27 rfl rfl ?_)
 refine cLn (o_stB (v := .agg _) (vs := [.lst _ _ _, .int _ _, .int _ _, .lst _ _ _, .lst _ _ _]) (cs2 := [.lst _ _ _, .int _ _, .int _ _, .lst _ _ _, .lst _ _ _]) tt27 rfl rfl rfl rfl rfl (Nat.le_of_ble_eq_true rfl) rfl ?_)
 refine aI rfl rfl ?_
 iterate 2 refine aL rfl rfl ?_
 refine aI rfl rfl ?_
 refine eL ?_
 refine W.tr [(3, .ptr _ _), (4, .int _ _), (5, .lst _ _ _), (6, .lst _ _ _), (7, .int _ _)] [.box _ [.int _ _, .int _ _, .lst _ _ _, .lst _ _ _, .int _ _], .box _ [.lst _ _ _, .int _ _, .int _ _, .lst _ _ _, .lst _ _ _]] ⟨rfl, rfl, rfl, rfl, rfl, trivial⟩ rfl ?_
 refine W.rL ?_
 refine cL rfl (o_ldA (cs := [.lst _ _ _, .int _ _, .int _ _, .lst _ _ _, .lst _ _ _]) tt27 rfl rfl ⟨_, rfl⟩ rfl ?_)
 refine mI rfl rfl ?_
 refine mL rfl rfl ?_
 obtain ⟨s2, s3, s4, s5, hv⟩ := hv
 refine cL rfl (o_callP1 (k := 13) (fst := []) (caps := []) (ys := [.agg _, .int _ _, .lst _ _ _]) rfl rfl (spec_choices ((mkM c).1) ((mkM c).2.1) ((mkM c).2.2.1) s2 s3 s4 s5) (Wks.cons (ag_agg 5 _ (Wks.cons (ag_lst _ _ _ _ _) (Wks.cons (ag_int _ _ _ _) (Wks.cons (ag_int _ _ _ _) (Wks.cons (ag_lst _ _ _ _ _) (Wks.cons (ag_lst _ _ _ _ _) (Wks.refl _))))))) (Wks.cons (ag_int _ _ _ _) (Wks.cons (ag_lst _ _ _ _ _) (Wks.refl _)))) ?_)
 refine cL rfl (o_move (v := .tup _) rfl ?_)
 refine cL rfl (o_ext (v := .lst _ _ _) rfl rfl ?_)
 refine cL rfl (o_ext (v := .int _ _) rfl rfl ?_)
 refine aL rfl rfl ?_
 refine aI rfl rfl ?_
 refine eL ?_
 refine W.tr [(3, .ptr _ _), (4, .int _ _), (5, .lst _ _ _), (6, .lst _ _ _), (7, .int _ _), (8, .lst _ _ _), (9, .int _ _)] [.box _ [.int _ _, .int _ _, .lst _ _ _, .lst _ _ _, .int _ _], .box _ [.lst _ _ _, .int _ _, .int _ _, .lst _ _ _, .lst _ _ _]] ⟨rfl, rfl, rfl, rfl, rfl, rfl, rfl, trivial⟩ rfl ?_
 refine W.rL ?_
 refine cL rfl (o_ldA (cs := [.lst _ _ _, .int _ _, .int _ _, .lst _ _ _, .lst _ _ _]) tt27 rfl rfl ⟨_, rfl⟩ rfl ?_)
 refine mI rfl rfl ?_
 refine mL rfl rfl ?_
 obtain ⟨s6, s7, s8, s9, hv⟩ := hv
 refine cL rfl (o_callP1 (k := 15) (fst := []) (caps := []) (ys := [.agg _, .int _ _, .lst _ _ _]) rfl rfl (spec_liars ((mkM c).1) ((mkM c).2.1) ((mkM c).2.2.1) s6 s7 s8 s9) (Wks.cons (ag_agg 5 _ (Wks.cons (ag_lst _ _ _ _ _) (Wks.cons (ag_int _ _ _ _) (Wks.cons (ag_int _ _ _ _) (Wks.cons (ag_lst _ _ _ _ _) (Wks.cons (ag_lst _ _ _ _ _) (Wks.refl _))))))) (Wks.cons (ag_int _ _ _ _) (Wks.cons (ag_lst _ _ _ _ _) (Wks.refl _)))) ?_)
 refine cL rfl (o_move (v := .tup _) rfl ?_)
 iterate 2 refine cL rfl (o_ext (v := .int _ _) rfl rfl ?_)
 iterate 2 refine aI rfl rfl ?_
 refine eL ?_
 refine W.tr [(3, .ptr _ _), (4, .int _ _), (5, .lst _ _ _), (6, .lst _ _ _), (7, .int _ _), (8, .lst _ _ _), (9, .int _ _), (10, .int _ _), (11, .int _ _)] [.box _ [.int _ _, .int _ _, .lst _ _ _, .lst _ _ _, .int _ _], .box _ [.lst _ _ _, .int _ _, .int _ _, .lst _ _ _, .lst _ _ _]] ⟨rfl, rfl, rfl, rfl, rfl, rfl, rfl, rfl, rfl, trivial⟩ rfl ?_
 refine W.seq' ?_
 refine W.rLm ⟨106, look [(3, .ptr 1 0), (4, .int .i64 ((mkM c).2.1)), (5, .lst false ((mkM c).2.2.1).length (encL e66 ((mkM c).2.2.1))), (6, .lst false ((mkM c).2.2.2.1).length (encL eInt ((mkM c).2.2.2.1))), (57, .bool (decide ((¬ (chM ((mkM c).1) ((mkM c).2.1) ((mkM c).2.2.1)).2 = (0 : Int)) ∨ ((¬ (liM ((mkM c).1) ((mkM c).2.1) ((mkM c).2.2.1)).2 = (0 : Int)) ∨ ((((((chM ((mkM c).1) ((mkM c).2.1) ((mkM c).2.2.1)).1).length : Nat) : Int) = (0 : Int)) ∨ (¬ bitI .and .i64 ((liM ((mkM c).1) ((mkM c).2.1) ((mkM c).2.2.1)).1) ((mkM c).2.2.2.2) = (0 : Int)))))))], [.box 25 [.int .i64 c.fl, .int .i64 c.n, .lst true c.x.length (encL e29 c.x), .lst true c.tr.length (encL eInt c.tr), .int .i64 c.ho], .box 27 [.lst false (((mkM c).1).dr).length (encL eInt (((mkM c).1).dr)), .int .i64 (((mkM c).1).la), .int .i64 (((mkM c).1).li), .lst false (((mkM c).1).sv).length (encL eInt (((mkM c).1).sv)), .lst false (((mkM c).1).tm).length (encL eInt (((mkM c).1).tm))]], 0⟩ ?_ ?_
 refine mI rfl rfl ?_
 refine cL rfl (o_neI rfl rfl rfl ?_)
 refine mB rfl rfl ?_
 by_cases c1 : ¬ (chM ((mkM c).1) ((mkM c).2.1) ((mkM c).2.2.1)).2 = (0 : Int)
 iterate 2 refine cLs rfl rfl rfl (decide_eq_true c1) ?_
 refine cL rfl (o_pickT (v := .bool _) rfl (decide_eq_true c1) rfl ?_)
 refine mB rfl rfl ?_
 iterate 3 refine cLs rfl rfl rfl (rfl) ?_
 refine cL rfl (o_pickT (v := .bool _) rfl rfl rfl ?_)
 refine mB rfl rfl ?_
 iterate 4 refine cLs rfl rfl rfl (rfl) ?_
 refine cL rfl (o_pickT (v := .bool _) rfl rfl rfl ?_)
 refine eL ?_
 exact le_mk ⟨rfl, rfl, rfl, rfl, (congrArg AV.bool (dOrT c1)).symm, trivial⟩ rfl
 refine cLg rfl rfl (decide_eq_false c1) ?_
 refine mI rfl rfl ?_
 refine cLg rfl rfl (decide_eq_false c1) ?_
 refine cL rfl (o_neI rfl rfl rfl ?_)
 refine cL rfl (o_pickF (v := .bool _) rfl (decide_eq_false c1) rfl ?_)
 refine mB rfl rfl ?_
 by_cases c2 : ¬ (liM ((mkM c).1) ((mkM c).2.1) ((mkM c).2.2.1)).2 = (0 : Int)
 iterate 3 refine cLs rfl rfl rfl (decide_eq_true c2) ?_
 refine cL rfl (o_pickT (v := .bool _) rfl (decide_eq_true c2) rfl ?_)
 refine mB rfl rfl ?_
 iterate 4 refine cLs rfl rfl rfl (rfl) ?_
 refine cL rfl (o_pickT (v := .bool _) rfl rfl rfl ?_)
 refine eL ?_
 exact le_mk ⟨rfl, rfl, rfl, rfl, (congrArg AV.bool (dOrF c1 (dOrT c2))).symm, trivial⟩ rfl
 refine cLg rfl rfl (decide_eq_false c2) ?_
 refine mL rfl rfl ?_
 refine cLg rfl rfl (decide_eq_false c2) ?_
 refine cL rfl (o_len (v := .lst _ _ _) tt23 rfl rfl ?_)
 refine cLg rfl rfl (decide_eq_false c2) ?_
 refine cL rfl (o_eqI rfl rfl rfl ?_)
 refine cL rfl (o_pickF (v := .bool _) rfl (decide_eq_false c2) rfl ?_)
 refine mB rfl rfl ?_
 by_cases c3 : ((((chM ((mkM c).1) ((mkM c).2.1) ((mkM c).2.2.1)).1).length : Nat) : Int) = (0 : Int)
 iterate 4 refine cLs rfl rfl rfl (decide_eq_true c3) ?_
 refine cL rfl (o_pickT (v := .bool _) rfl (decide_eq_true c3) rfl ?_)
 refine eL ?_
 exact le_mk ⟨rfl, rfl, rfl, rfl, (congrArg AV.bool (dOrF c1 (dOrF c2 (dOrT c3)))).symm, trivial⟩ rfl
 refine cLg rfl rfl (decide_eq_false c3) ?_
 refine mI rfl rfl ?_
 refine cLg rfl rfl (decide_eq_false c3) ?_
 refine mI rfl rfl ?_
 refine cLg rfl rfl (decide_eq_false c3) ?_
 refine cL rfl (o_and rfl rfl ?_)
 refine cLg rfl rfl (decide_eq_false c3) ?_
 refine cL rfl (o_neI rfl rfl rfl ?_)
 refine cL rfl (o_pickF (v := .bool _) rfl (decide_eq_false c3) rfl ?_)
 refine eL ?_
 exact le_mk ⟨rfl, rfl, rfl, rfl, (congrArg AV.bool (dOrF c1 (dOrF c2 (dOrF c3 (rfl))))).symm, trivial⟩ rfl
 refine W.cn rfl (fun hc => ?_) (fun hc => ?_)
 have hv := hv.1 hc
 refine W.rL ?_
 refine aB rfl rfl ?_
 refine eL ?_
 refine W.tr [(2, .bool _)] [.box _ [.int _ _, .int _ _, .lst _ _ _, .lst _ _ _, .int _ _], .box _ [.lst _ _ _, .int _ _, .int _ _, .lst _ _ _, .lst _ _ _]] ⟨rfl, trivial⟩ rfl ?_
 refine W.ret ?_
 refine th_ret (rt ?_)
 refine rt_t (v := .bool _) rfl ?_
 refine rt_n ?_
 exact ⟨_, rs_bool _ _ _, false, rfl, hv⟩
 have hv := hv.2 hc
 refine W.skip ?_
 refine th_nrm ?_
 refine W.tr [(3, .ptr _ _), (4, .int _ _), (5, .lst _ _ _), (6, .lst _ _ _)] [.box _ [.int _ _, .int _ _, .lst _ _ _, .lst _ _ _, .int _ _], .box _ [.lst _ _ _, .int _ _, .int _ _, .lst _ _ _, .lst _ _ _]] ⟨rfl, rfl, rfl, rfl, trivial⟩ rfl ?_
 refine W.seq' ?_
 refine W.rL ?_
 refine aI rfl rfl ?_
 refine eL ?_
 refine W.tr [(3, .ptr _ _), (4, .int _ _), (5, .lst _ _ _), (6, .lst _ _ _), (12, .int _ _)] [.box _ [.int _ _, .int _ _, .lst _ _ _, .lst _ _ _, .int _ _], .box _ [.lst _ _ _, .int _ _, .int _ _, .lst _ _ _, .lst _ _ _]] ⟨rfl, rfl, rfl, rfl, rfl, trivial⟩ rfl ?_
 refine W.block ?_
 obtain ⟨I1, μ1, hp, hv⟩ := hv
 refine W.loop1 (fun v12 => ⟨106, look [(3, .ptr 1 0), (4, .int .i64 ((mkM c).2.1)), (5, .lst false ((mkM c).2.2.1).length (encL e66 ((mkM c).2.2.1))), (6, .lst false ((mkM c).2.2.2.1).length (encL eInt ((mkM c).2.2.2.1))), (12, .int .i64 v12)], [.dead, .box 27 [.lst false (((mkM c).1).dr).length (encL eInt (((mkM c).1).dr)), .int .i64 (((mkM c).1).la), .int .i64 (((mkM c).1).li), .lst false (((mkM c).1).sv).length (encL eInt (((mkM c).1).sv)), .lst false (((mkM c).1).tm).length (encL eInt (((mkM c).1).tm))]], 0⟩) I1 μ1 (0 : Int) (St.to_mk (φ := [none, some 1]) rfl (rfl) ⟨Ren.ptr rfl, Ren.int _ _, Ren.lst _ _ _, Ren.lst _ _ _, Ren.int _ _, trivial⟩ ⟨rfl, .inr ⟨_, rfl, rfl, Rens.cons (Ren.lst _ _ _) (Rens.cons (Ren.int _ _) (Rens.cons (Ren.int _ _) (Rens.cons (Ren.lst _ _ _) (Rens.cons (Ren.lst _ _ _) (Rens.nil)))))⟩, trivial⟩) hp ?_
 clear hp
 intro v12 hI
 replace hv := hv v12 hI
 clear hI
 refine W.seq' ?_
 refine W.rL ?_
 iterate 2 refine mI rfl rfl ?_
 refine cL rfl (o_lss rfl rfl ?_)
 refine eL ?_
 refine W.tr [(3, .ptr _ _), (4, .int _ _), (5, .lst _ _ _), (6, .lst _ _ _), (12, .int _ _), (60, .bool _)] [.dead, .box _ [.lst _ _ _, .int _ _, .int _ _, .lst _ _ _, .lst _ _ _]] ⟨rfl, rfl, rfl, rfl, rfl, rfl, trivial⟩ rfl ?_
 refine W.cn rfl (fun hc => ?_) (fun hc => ?_)
 have hv := hv.1 hc
 refine W.skip ?_
 refine th_nrm ?_
 refine W.tr [(3, .ptr _ _), (4, .int _ _), (5, .lst _ _ _), (6, .lst _ _ _), (12, .int _ _)] [.dead, .box _ [.lst _ _ _, .int _ _, .int _ _, .lst _ _ _, .lst _ _ _]] ⟨rfl, rfl, rfl, rfl, rfl, trivial⟩ rfl ?_
 refine W.seq' ?_
 refine W.block ?_
 refine W.rL ?_
 refine aI rfl rfl ?_
 refine eL ?_
 refine W.tr [(3, .ptr _ _), (4, .int _ _), (5, .lst _ _ _), (6, .lst _ _ _), (12, .int _ _), (13, .int _ _)] [.dead, .box _ [.lst _ _ _, .int _ _, .int _ _, .lst _ _ _, .lst _ _ _]] ⟨rfl, rfl, rfl, rfl, rfl, rfl, trivial⟩ rfl ?_
 refine W.block ?_
 obtain ⟨I2, μ2, hp, hv⟩ := hv
 refine W.loop1 (fun v13 => ⟨106, look [(3, .ptr 1 0), (4, .int .i64 ((mkM c).2.1)), (5, .lst false ((mkM c).2.2.1).length (encL e66 ((mkM c).2.2.1))), (6, .lst false ((mkM c).2.2.2.1).length (encL eInt ((mkM c).2.2.2.1))), (12, .int .i64 v12), (13, .int .i64 v13)], [.dead, .box 27 [.lst false (((mkM c).1).dr).length (encL eInt (((mkM c).1).dr)), .int .i64 (((mkM c).1).la), .int .i64 (((mkM c).1).li), .lst false (((mkM c).1).sv).length (encL eInt (((mkM c).1).sv)), .lst false (((mkM c).1).tm).length (encL eInt (((mkM c).1).tm))]], 0⟩) I2 μ2 (0 : Int) (St.to_mk (φ := [none, some 1]) rfl (rfl) ⟨Ren.ptr rfl, Ren.int _ _, Ren.lst _ _ _, Ren.lst _ _ _, Ren.int _ _, Ren.int _ _, trivial⟩ ⟨rfl, .inr ⟨_, rfl, rfl, Rens.cons (Ren.lst _ _ _) (Rens.cons (Ren.int _ _) (Rens.cons (Ren.int _ _) (Rens.cons (Ren.lst _ _ _) (Rens.cons (Ren.lst _ _ _) (Rens.nil)))))⟩, trivial⟩) hp ?_
 clear hp
 intro v13 hI
 replace hv := hv v13 hI
 clear hI
 refine W.seq' ?_
 refine W.rL ?_
 iterate 2 refine mI rfl rfl ?_
 refine cL rfl (o_lss rfl rfl ?_)
 refine eL ?_
 refine W.tr [(3, .ptr _ _), (4, .int _ _), (5, .lst _ _ _), (6, .lst _ _ _), (12, .int _ _), (13, .int _ _), (65, .bool _)] [.dead, .box _ [.lst _ _ _, .int _ _, .int _ _, .lst _ _ _, .lst _ _ _]] ⟨rfl, rfl, rfl, rfl, rfl, rfl, rfl, trivial⟩ rfl ?_
 refine W.cn rfl (fun hc => ?_) (fun hc => ?_)
 have hv := hv.1 hc
 refine W.skip ?_
 refine th_nrm ?_
 refine W.tr [(3, .ptr _ _), (4, .int _ _), (5, .lst _ _ _), (6, .lst _ _ _), (12, .int _ _), (13, .int _ _)] [.dead, .box _ [.lst _ _ _, .int _ _, .int _ _, .lst _ _ _, .lst _ _ _]] ⟨rfl, rfl, rfl, rfl, rfl, rfl, trivial⟩ rfl ?_
 refine W.seq' ?_
 refine W.block ?_
 refine W.rL ?_
 refine cL rfl (o_ldA (cs := [.lst _ _ _, .int _ _, .int _ _, .lst _ _ _, .lst _ _ _]) tt27 rfl rfl ⟨_, rfl⟩ rfl ?_)
 refine mI rfl rfl ?_
 refine mL rfl rfl ?_
 iterate 2 refine mI rfl rfl ?_
 obtain ⟨s524, s525, s526, s527, hv⟩ := hv
 refine cL rfl (o_callP1 (k := 22) (fst := []) (caps := []) (ys := [.agg _, .int _ _, .lst _ _ _, .int _ _, .int _ _]) rfl rfl (spec_brange ((mkM c).1) ((mkM c).2.1) ((mkM c).2.2.1) v12 v13 s524 s525 s526 s527) (Wks.cons (ag_agg 5 _ (Wks.cons (ag_lst _ _ _ _ _) (Wks.cons (ag_int _ _ _ _) (Wks.cons (ag_int _ _ _ _) (Wks.cons (ag_lst _ _ _ _ _) (Wks.cons (ag_lst _ _ _ _ _) (Wks.refl _))))))) (Wks.cons (ag_int _ _ _ _) (Wks.cons (ag_lst _ _ _ _ _) (Wks.cons (ag_int _ _ _ _) (Wks.cons (ag_int _ _ _ _) (Wks.refl _)))))) ?_)
 refine cL rfl (o_move (v := .tup _) rfl ?_)
 iterate 3 refine cL rfl (o_ext (v := .int _ _) rfl rfl ?_)
 iterate 3 refine aI rfl rfl ?_
 refine eL ?_
 refine W.tr [(3, .ptr _ _), (4, .int _ _), (5, .lst _ _ _), (6, .lst _ _ _), (12, .int _ _), (13, .int _ _), (14, .int _ _), (15, .int _ _), (16, .int _ _)] [.dead, .box _ [.lst _ _ _, .int _ _, .int _ _, .lst _ _ _, .lst _ _ _]] ⟨rfl, rfl, rfl, rfl, rfl, rfl, rfl, rfl, rfl, trivial⟩ rfl ?_
 obtain ⟨sd, hv⟩ := hv
 refine W.rDm ⟨106, look [(3, .ptr 1 0), (4, .int .i64 ((mkM c).2.1)), (5, .lst false ((mkM c).2.2.1).length (encL e66 ((mkM c).2.2.1))), (6, .lst false ((mkM c).2.2.2.1).length (encL eInt ((mkM c).2.2.2.1))), (12, .int .i64 v12), (13, .int .i64 v13), (105, .bool (decide ((¬ (brangeM ((mkM c).1) ((mkM c).2.1) ((mkM c).2.2.1) v12 v13).2.2 = (0 : Int)) ∨ ((((lat ((mkM c).2.2.2.1) v13) - (lat ((mkM c).2.2.2.1) v12)) < ((brangeM ((mkM c).1) ((mkM c).2.1) ((mkM c).2.2.1) v12 v13).1)) ∨ (((brangeM ((mkM c).1) ((mkM c).2.1) ((mkM c).2.2.1) v12 v13).2.1) < ((lat ((mkM c).2.2.2.1) v13) - (lat ((mkM c).2.2.2.1) v12)))))))], [.dead, .box 27 [.lst false (((mkM c).1).dr).length (encL eInt (((mkM c).1).dr)), .int .i64 (((mkM c).1).la), .int .i64 (((mkM c).1).li), .lst false (((mkM c).1).sv).length (encL eInt (((mkM c).1).sv)), .lst false (((mkM c).1).tm).length (encL eInt (((mkM c).1).tm))]], 0⟩ [0, 1, 2, 3, 4, 5, 6, 7, 8, 9, 10, 11, 12, 13, 14, 15, 16, 17, 18, 19, 20, 21, 22, 23, 24, 25, 26, 27] (by decide +kernel) rfl ?_ ?_
 refine mI rfl rfl ?_
 refine cL rfl (o_neI rfl rfl rfl ?_)
 refine mB rfl rfl ?_
 by_cases c1 : ¬ (brangeM ((mkM c).1) ((mkM c).2.1) ((mkM c).2.2.1) v12 v13).2.2 = (0 : Int)
 iterate 11 refine cLs rfl rfl rfl (decide_eq_true c1) ?_
 refine cL rfl (o_pickT (v := .bool _) rfl (decide_eq_true c1) rfl ?_)
 refine mB rfl rfl ?_
 iterate 11 refine cLs rfl rfl rfl (rfl) ?_
 refine cL rfl (o_pickT (v := .bool _) rfl rfl rfl ?_)
 refine eL ?_
 exact le_mk ⟨rfl, rfl, rfl, rfl, rfl, rfl, (congrArg AV.bool (dOrT c1)).symm, trivial⟩ rfl
 have sd := sd.2 c1
 refine cLg rfl rfl (decide_eq_false c1) ?_
 refine mL rfl rfl ?_
 refine cLg rfl rfl (decide_eq_false c1) ?_
 refine mI rfl rfl ?_
 refine cLg rfl rfl (decide_eq_false c1) ?_
 obtain ⟨s534, sd⟩ := sd
 refine cL rfl (o_iaL tt23 tt3 rfl rfl (encInt.wd true) rfl s534 ?_)
 intro rest534
 refine cLg rfl rfl (decide_eq_false c1) ?_
 refine cL rfl (o_ldS (v := .int _ _) tt3 rfl rfl ⟨_, rfl⟩ ?_)
 refine cLg rfl rfl (decide_eq_false c1) ?_
 refine mL rfl rfl ?_
 refine cLg rfl rfl (decide_eq_false c1) ?_
 refine mI rfl rfl ?_
 refine cLg rfl rfl (decide_eq_false c1) ?_
 obtain ⟨s535, sd⟩ := sd
 refine cL rfl (o_iaL tt23 tt3 rfl rfl (encInt.wd true) rfl s535 ?_)
 intro rest535
 refine cLg rfl rfl (decide_eq_false c1) ?_
 refine cL rfl (o_ldS (v := .int _ _) tt3 rfl rfl ⟨_, rfl⟩ ?_)
 refine cLg rfl rfl (decide_eq_false c1) ?_
 obtain ⟨s536, sd⟩ := sd
 refine cL rfl (o_sub rfl rfl s536 ?_)
 refine cLg rfl rfl (decide_eq_false c1) ?_
 refine mI rfl rfl ?_
 refine cLg rfl rfl (decide_eq_false c1) ?_
 refine cL rfl (o_lss rfl rfl ?_)
 refine cL rfl (o_pickF (v := .bool _) rfl (decide_eq_false c1) rfl ?_)
 refine mB rfl rfl ?_
 by_cases c2 : ((lat ((mkM c).2.2.2.1) v13) - (lat ((mkM c).2.2.2.1) v12)) < ((brangeM ((mkM c).1) ((mkM c).2.1) ((mkM c).2.2.1) v12 v13).1)
 iterate 11 refine cLs rfl rfl rfl (decide_eq_true c2) ?_
 refine cL rfl (o_pickT (v := .bool _) rfl (decide_eq_true c2) rfl ?_)
 refine eL ?_
 exact le_mk ⟨rfl, rfl, rfl, rfl, rfl, rfl, (congrArg AV.bool (dOrF c1 (dOrT c2))).symm, trivial⟩ rfl
 have sd := sd.2 c2
 refine cLg rfl rfl (decide_eq_false c2) ?_
 refine mL rfl rfl ?_
 refine cLg rfl rfl (decide_eq_false c2) ?_
 refine mI rfl rfl ?_
 refine cLg rfl rfl (decide_eq_false c2) ?_
 obtain ⟨s537, sd⟩ := sd
 refine cL rfl (o_iaL tt23 tt3 rfl rfl (encInt.wd true) rfl s537 ?_)
 intro rest537
 refine cLg rfl rfl (decide_eq_false c2) ?_
 refine cL rfl (o_ldS (v := .int _ _) tt3 rfl rfl ⟨_, rfl⟩ ?_)
 refine cLg rfl rfl (decide_eq_false c2) ?_
 refine mL rfl rfl ?_
 refine cLg rfl rfl (decide_eq_false c2) ?_
 refine mI rfl rfl ?_
 refine cLg rfl rfl (decide_eq_false c2) ?_
 obtain ⟨s538, sd⟩ := sd
 refine cL rfl (o_iaL tt23 tt3 rfl rfl (encInt.wd true) rfl s538 ?_)
 intro rest538
 refine cLg rfl rfl (decide_eq_false c2) ?_
 refine cL rfl (o_ldS (v := .int _ _) tt3 rfl rfl ⟨_, rfl⟩ ?_)
 refine cLg rfl rfl (decide_eq_false c2) ?_
 obtain ⟨s539, sd⟩ := sd
 refine cL rfl (o_sub rfl rfl s539 ?_)
 refine cLg rfl rfl (decide_eq_false c2) ?_
 refine mI rfl rfl ?_
 refine cLg rfl rfl (decide_eq_false c2) ?_
 refine cL rfl (o_gtr rfl rfl ?_)
 refine cL rfl (o_pickF (v := .bool _) rfl (decide_eq_false c2) rfl ?_)
 refine eL ?_
 exact le_mk ⟨rfl, rfl, rfl, rfl, rfl, rfl, (congrArg AV.bool (dOrF c1 (dOrF c2 (rfl)))).symm, trivial⟩ rfl
 refine W.cn rfl (fun hc => ?_) (fun hc => ?_)
 have hv := hv.1 hc
 refine W.rL ?_
 refine aB rfl rfl ?_
 refine eL ?_
 refine W.tr [(2, .bool _)] [.dead, .box _ [.lst _ _ _, .int _ _, .int _ _, .lst _ _ _, .lst _ _ _]] ⟨rfl, trivial⟩ rfl ?_
 refine W.ret ?_
 refine bl_ret (th_ret (th_ret (bl_ret (bl_ret (th_ret (th_ret (bl_ret (th_ret (rt ?_)))))))))
 refine rt_t (v := .bool _) rfl ?_
 refine rt_n ?_
 exact ⟨_, rs_bool _ _ _, false, rfl, hv⟩
 have hv := hv.2 hc
 refine W.skip ?_
 refine bl_nrm (th_nrm ?_)
 refine W.tr [(3, .ptr _ _), (4, .int _ _), (5, .lst _ _ _), (6, .lst _ _ _), (12, .int _ _), (13, .int _ _)] [.dead, .box _ [.lst _ _ _, .int _ _, .int _ _, .lst _ _ _, .lst _ _ _]] ⟨rfl, rfl, rfl, rfl, rfl, rfl, trivial⟩ rfl ?_
 refine W.rL1 ?_
 refine mI rfl rfl ?_
 obtain ⟨s540, hv⟩ := hv
 refine cL rfl (o_add rfl rfl s540 ?_)
 refine aI rfl rfl ?_
 refine eL ?_
 exact th_nrm (⟨(), (v13 + (1 : Int)), hv, St.to_mk (φ := [none, some 1]) rfl (rfl) ⟨Ren.ptr rfl, Ren.int _ _, Ren.lst _ _ _, Ren.lst _ _ _, Ren.int _ _, Ren.int _ _, trivial⟩ ⟨rfl, .inr ⟨_, rfl, rfl, Rens.cons (Ren.lst _ _ _) (Rens.cons (Ren.int _ _) (Rens.cons (Ren.int _ _) (Rens.cons (Ren.lst _ _ _) (Rens.cons (Ren.lst _ _ _) (Rens.nil)))))⟩, trivial⟩⟩)
 have hv := hv.2 hc
 refine W.exit ?_
 refine th_exit (th_exit (bl_hit (bl_nrm (th_nrm ?_))))
 refine W.tr [(3, .ptr _ _), (4, .int _ _), (5, .lst _ _ _), (6, .lst _ _ _), (12, .int _ _)] [.dead, .box _ [.lst _ _ _, .int _ _, .int _ _, .lst _ _ _, .lst _ _ _]] ⟨rfl, rfl, rfl, rfl, rfl, trivial⟩ rfl ?_
 refine W.rL1 ?_
 refine mI rfl rfl ?_
 obtain ⟨s541, hv⟩ := hv
 refine cL rfl (o_add rfl rfl s541 ?_)
 refine aI rfl rfl ?_
 refine eL ?_
 exact th_nrm (⟨(), (v12 + (1 : Int)), hv, St.to_mk (φ := [none, some 1]) rfl (rfl) ⟨Ren.ptr rfl, Ren.int _ _, Ren.lst _ _ _, Ren.lst _ _ _, Ren.int _ _, trivial⟩ ⟨rfl, .inr ⟨_, rfl, rfl, Rens.cons (Ren.lst _ _ _) (Rens.cons (Ren.int _ _) (Rens.cons (Ren.int _ _) (Rens.cons (Ren.lst _ _ _) (Rens.cons (Ren.lst _ _ _) (Rens.nil)))))⟩, trivial⟩⟩)
 have hv := hv.2 hc
 refine W.exit ?_
 refine th_exit (th_exit (bl_hit (th_nrm ?_)))
 refine W.tr [] [.dead, .box _ [.lst _ _ _, .int _ _, .int _ _, .lst _ _ _, .lst _ _ _]] trivial rfl ?_
 refine W.rL ?_
 refine aB rfl rfl ?_
 refine eL ?_
 refine W.tr [(2, .bool _)] [.dead, .box _ [.lst _ _ _, .int _ _, .int _ _, .lst _ _ _, .lst _ _ _]] ⟨rfl, trivial⟩ rfl ?_
 refine W.ret ?_
 refine rt ?_
 refine rt_t (v := .bool _) rfl ?_
 refine rt_n ?_
 exact ⟨_, rs_bool _ _ _, true, rfl, hv⟩
theorem vcp_bTruth (c : Cas) (h0 : CasOk c) : vc_bTruth c (fun q0 => q0 = (true)) := by
  unfold vc_bTruth
  obtain ⟨ho, eho, hl24, hF, hn6, hB⟩ := mk_bel c
  generalize mkM c = p at *
  obtain ⟨F, N, L, TR, HO⟩ := p
  dsimp only at *
  subst eho
  obtain ⟨q1, q2, q3⟩ := hF.lens
  have hch := ch_ok hB.bv hB.ne
  obtain ⟨z, ez, hz⟩ := hB.honest
  have hno := hB.no
  refine ⟨h0, q1, q2, q3, by omega, q1, q2, q3, by omega, fun h => ?_, fun _ => ⟨fun v => ∃ i : Nat, v = i ∧ (i : Int) ≤ N, fun v => N.toNat - v.toNat, ⟨0, rfl, by omega⟩, ?_⟩⟩
  · exfalso
    rw [hch, ez] at h
    rcases h with h | h | h | h
    · exact h rfl
    · exact h rfl
    · have : (choicesM F N L).length = 0 := by simpa using h
      exact hB.ne (List.length_eq_zero_iff.1 this)
    · exact h hz
  · rintro _ ⟨i, rfl, hi⟩
    refine ⟨fun h1 => ⟨fun v => ∃ j : Nat, v = j ∧ (j : Int) ≤ N, fun v => N.toNat - v.toNat, ⟨0, rfl, by omega⟩, ?_⟩, fun _ => rfl⟩
    rintro _ ⟨j, rfl, hj⟩
    refine ⟨fun h2 => ?_, fun h2 => ⟨by unfold inI; omega, ⟨i + 1, by omega, by omega⟩, by dsimp only; omega⟩⟩
    have hl := hB.tl
    obtain ⟨lo, hi', hr⟩ := rg_ok hB.bv hB.ne h1 h2
    obtain ⟨p1, p2⟩ := hB.in_range h1 h2 hr
    have b1 := hB.tb _ (lat_mem (xs := TR) (i := (i : Int)) ⟨by omega, by omega⟩)
    have b2 := hB.tb _ (lat_mem (xs := TR) (i := (j : Int)) ⟨by omega, by omega⟩)
    rw [hr.eq]
    refine ⟨q1, q2, q3, by omega, ⟨fun _ => trivial, fun _ => ⟨by omega, by omega, by unfold inI; omega, fun _ => trivial, fun _ => ⟨by omega, by omega, by unfold inI; omega, trivial⟩⟩⟩, fun h3 => ?_, fun h3 => ⟨by unfold inI; omega, ⟨j + 1, by omega, by omega⟩, by dsimp only; omega⟩⟩
    exfalso
    rcases h3 with h3 | h3 | h3
    · exact h3 rfl
    · dsimp only at h3; omega
    · dsimp only at h3; omega
theorem spec_bTruth (c : Cas) (h0 : CasOk c) : FnP Try.prog 4 [.agg ((e25 true) c)] (fun xR => xR = .bool (true)) :=
  (walk_bTruth (vcp_bTruth c h0)).mono (by rintro _ ⟨_, rfl, rfl⟩; rfl)
end Go.Lat
