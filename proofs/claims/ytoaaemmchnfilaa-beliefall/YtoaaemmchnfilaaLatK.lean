/- The law latecomerlaw10.BeliefAll returns true for every input, and each argument reads afterwards as it read before. Part 11 of 12. No condition. -/
import Derived.Test.YtoaaemmchnfilaaLatD
import Derived.Test.YtoaaemmchnfilaaLatE
import Derived.Test.YtoaaemmchnfilaaLatI
import Derived.Test.YtoaaemmchnfilaaLatJ
import Derived.Test.YtoaaemmchnfilaaLatG
import Derived.Test.YtoaaemmchnfilaaLatF
import Derived.Test.YtoaaemmchnfilaaLatH
set_option linter.unusedVariables false
set_option linter.unusedSimpArgs false
set_option linter.unnecessarySimpa false
namespace Go.Lat
open Go.RowKit Go.Proofs
attribute [local irreducible] cvalidM bvalidM choicesM partM chM liM brangeM witM pcM inM allM inSet
attribute [local irreducible] closeM rangeM pointM addBM cycleM holdsM validBM sameM madeM pickM plusM validM possM firstM tableM longerM boundsM ofM addM freeM
def vc_bAll (c : Cas) (Post : Bool → Prop) : Prop :=
  (CasOk c) ∧ ((Flt.mk (((mkM c).1).dr) (((mkM c).1).la) (0 : Int) (((mkM c).1).sv) (((mkM c).1).tm)).dr.length ≤ 1073741824) ∧ ((Flt.mk (((mkM c).1).dr) (((mkM c).1).la) (0 : Int) (((mkM c).1).sv) (((mkM c).1).tm)).sv.length ≤ 1073741824) ∧ ((Flt.mk (((mkM c).1).dr) (((mkM c).1).la) (0 : Int) (((mkM c).1).sv) (((mkM c).1).tm)).tm.length ≤ 1073741824) ∧ (((mkM c).2.2.1).length ≤ 1073741824) ∧ (((mkM c).2.2.1).length ≤ 1073741824) ∧ (((closeM ((mkM c).2.1) ((mkM c).2.2.1)).2.2 = (70 : Int)) → Post (decide (((chM (Flt.mk (((mkM c).1).dr) (((mkM c).1).la) (0 : Int) (((mkM c).1).sv) (((mkM c).1).tm)) ((mkM c).2.1) ((mkM c).2.2.1)).2 = (100 : Int)) ∧ (((((chM (Flt.mk (((mkM c).1).dr) (((mkM c).1).la) (0 : Int) (((mkM c).1).sv) (((mkM c).1).tm)) ((mkM c).2.1) ((mkM c).2.2.1)).1).length : Nat) : Int) = (0 : Int))))) ∧ (¬ ((closeM ((mkM c).2.1) ((mkM c).2.2.1)).2.2 = (70 : Int)) → (((¬ (closeM ((mkM c).2.1) ((mkM c).2.2.1)).2.2 = (0 : Int)) → True) ∧ (¬ (¬ (closeM ((mkM c).2.1) ((mkM c).2.2.1)).2.2 = (0 : Int)) → ((¬ (chM (Flt.mk (((mkM c).1).dr) (((mkM c).1).la) (0 : Int) (((mkM c).1).sv) (((mkM c).1).tm)) ((mkM c).2.1) ((mkM c).2.2.1)).2 = (0 : Int)) → True) ∧ (¬ (¬ (chM (Flt.mk (((mkM c).1).dr) (((mkM c).1).la) (0 : Int) (((mkM c).1).sv) (((mkM c).1).tm)) ((mkM c).2.1) ((mkM c).2.2.1)).2 = (0 : Int)) → (0 ≤ (((((mkM c).1).dr).length : Nat) : Int)) ∧ (inI ((1 : Int) * 2 ^ (min (((((mkM c).1).dr).length : Nat) : Int).toNat 64))) ∧ (inI (((1 : Int) * 2 ^ (min (((((mkM c).1).dr).length : Nat) : Int).toNat 64)) - (1 : Int))) ∧ (((chM (Flt.mk (((mkM c).1).dr) (((mkM c).1).la) (0 : Int) (((mkM c).1).sv) (((mkM c).1).tm)) ((mkM c).2.1) ((mkM c).2.2.1)).1).length ≤ 1073741824) ∧ True))) ∧ ((((¬ (closeM ((mkM c).2.1) ((mkM c).2.2.1)).2.2 = (0 : Int)) ∨ ((¬ (chM (Flt.mk (((mkM c).1).dr) (((mkM c).1).la) (0 : Int) (((mkM c).1).sv) (((mkM c).1).tm)) ((mkM c).2.1) ((mkM c).2.2.1)).2 = (0 : Int)) ∨ (¬ (((chM (Flt.mk (((mkM c).1).dr) (((mkM c).1).la) (0 : Int) (((mkM c).1).sv) (((mkM c).1).tm)) ((mkM c).2.1) ((mkM c).2.2.1)).1) = [(((1 : Int) * 2 ^ (min (((((mkM c).1).dr).length : Nat) : Int).toNat 64)) - (1 : Int))])))) → Post false) ∧ (¬ ((¬ (closeM ((mkM c).2.1) ((mkM c).2.2.1)).2.2 = (0 : Int)) ∨ ((¬ (chM (Flt.mk (((mkM c).1).dr) (((mkM c).1).la) (0 : Int) (((mkM c).1).sv) (((mkM c).1).tm)) ((mkM c).2.1) ((mkM c).2.2.1)).2 = (0 : Int)) ∨ (¬ (((chM (Flt.mk (((mkM c).1).dr) (((mkM c).1).la) (0 : Int) (((mkM c).1).sv) (((mkM c).1).tm)) ((mkM c).2.1) ((mkM c).2.2.1)).1) = [(((1 : Int) * 2 ^ (min (((((mkM c).1).dr).length : Nat) : Int).toNat 64)) - (1 : Int))])))) → ∃ (I1 : Int → Prop) (μ1 : Int → Nat), I1 (0 : Int) ∧ ∀ (v13 : Int), I1 v13 → ((v13 < ((mkM c).2.1)) → ∃ (I2 : Int → Prop) (μ2 : Int → Nat), I2 (0 : Int) ∧ ∀ (v14 : Int), I2 v14 → ((v14 < ((mkM c).2.1)) → ((Flt.mk (((mkM c).1).dr) (((mkM c).1).la) (0 : Int) (((mkM c).1).sv) (((mkM c).1).tm)).dr.length ≤ 1073741824) ∧ ((Flt.mk (((mkM c).1).dr) (((mkM c).1).la) (0 : Int) (((mkM c).1).sv) (((mkM c).1).tm)).sv.length ≤ 1073741824) ∧ ((Flt.mk (((mkM c).1).dr) (((mkM c).1).la) (0 : Int) (((mkM c).1).sv) (((mkM c).1).tm)).tm.length ≤ 1073741824) ∧ (((mkM c).2.2.1).length ≤ 1073741824) ∧ (((closeM ((mkM c).2.1) ((mkM c).2.2.1)).1).most.length ≤ 1073741824) ∧ (∀ r ∈ ((closeM ((mkM c).2.1) ((mkM c).2.2.1)).1).most, r.length ≤ 1073741824) ∧ (((¬ (brangeM (Flt.mk (((mkM c).1).dr) (((mkM c).1).la) (0 : Int) (((mkM c).1).sv) (((mkM c).1).tm)) ((mkM c).2.1) ((mkM c).2.2.1) v13 v14).2.2 = (0 : Int)) ∨ ((¬ (rangeM ((closeM ((mkM c).2.1) ((mkM c).2.2.1)).1) v13 v14).2.2 = (0 : Int)) ∨ ((¬ (brangeM (Flt.mk (((mkM c).1).dr) (((mkM c).1).la) (0 : Int) (((mkM c).1).sv) (((mkM c).1).tm)) ((mkM c).2.1) ((mkM c).2.2.1) v13 v14).1 = (rangeM ((closeM ((mkM c).2.1) ((mkM c).2.2.1)).1) v13 v14).1) ∨ (¬ (brangeM (Flt.mk (((mkM c).1).dr) (((mkM c).1).la) (0 : Int) (((mkM c).1).sv) (((mkM c).1).tm)) ((mkM c).2.1) ((mkM c).2.2.1) v13 v14).2.1 = (rangeM ((closeM ((mkM c).2.1) ((mkM c).2.2.1)).1) v13 v14).2.1)))) → Post false) ∧ (¬ ((¬ (brangeM (Flt.mk (((mkM c).1).dr) (((mkM c).1).la) (0 : Int) (((mkM c).1).sv) (((mkM c).1).tm)) ((mkM c).2.1) ((mkM c).2.2.1) v13 v14).2.2 = (0 : Int)) ∨ ((¬ (rangeM ((closeM ((mkM c).2.1) ((mkM c).2.2.1)).1) v13 v14).2.2 = (0 : Int)) ∨ ((¬ (brangeM (Flt.mk (((mkM c).1).dr) (((mkM c).1).la) (0 : Int) (((mkM c).1).sv) (((mkM c).1).tm)) ((mkM c).2.1) ((mkM c).2.2.1) v13 v14).1 = (rangeM ((closeM ((mkM c).2.1) ((mkM c).2.2.1)).1) v13 v14).1) ∨ (¬ (brangeM (Flt.mk (((mkM c).1).dr) (((mkM c).1).la) (0 : Int) (((mkM c).1).sv) (((mkM c).1).tm)) ((mkM c).2.1) ((mkM c).2.2.1) v13 v14).2.1 = (rangeM ((closeM ((mkM c).2.1) ((mkM c).2.2.1)).1) v13 v14).2.1)))) → (inI (v14 + (1 : Int))) ∧ (I2 (v14 + (1 : Int)) ∧ μ2 (v14 + (1 : Int)) < μ2 v14))) ∧ (¬ (v14 < ((mkM c).2.1)) → (inI (v13 + (1 : Int))) ∧ (I1 (v13 + (1 : Int)) ∧ μ1 (v13 + (1 : Int)) < μ1 v13))) ∧ (¬ (v13 < ((mkM c).2.1)) → Post true))))
set_option maxRecDepth 100000 in
set_option maxHeartbeats 4000000 in
theorem walk_bAll {c : Cas} {Post : Bool → Prop} (hv : vc_bAll c Post) : FnP Try.prog 5 [.agg ((e25 true) c)] (fun x => ∃ q0, x = .bool q0 ∧ Post q0) := by
 refine FnP.of_walk (T := tt) (nt := 116) ttOk ttMix ⟨⟨Try.f5, Try.func5, rfl, rfl, rfl, rfl⟩⟩ (by simp) ?_
 unfold vc_bAll at hv
 change W _ _ _ ⟨116, look [(0, .agg [.int .i64 c.fl, .int .i64 c.n, .lst true c.x.length (encL e29 c.x), .lst true c.tr.length (encL eInt c.tr), .int .i64 c.ho])], [], 0⟩ _
 refine W.tr [(0, .agg _)] [] ⟨rfl, trivial⟩ rfl ?_
 refine W.rL ?_
 refine cL rfl (o_box (v := .agg _) (p := 0) rfl rfl rfl ?_)
 refine aB rfl rfl ?_
 refine eL ?_
 refine W.tr [(1, .ptr _ _)] [.box _ [.int _ _, .int _ _, .lst _ _ _, .lst _ _ _, .int _ _]] ⟨rfl, trivial⟩ rfl ?_
 refine W.seq' ?_
 refine W.rL ?_
 refine cL rfl (o_callP1 (k := 10) (fst := []) (caps := []) (ys := []) rfl rfl (spec_bsane) (Wks.refl _) ?_)
 refine cL rfl (o_notB rfl ?_)
 refine eL ?_
 refine W.tr [(1, .ptr _ _), (22, .bool _)] [.box _ [.int _ _, .int _ _, .lst _ _ _, .lst _ _ _, .int _ _]] ⟨rfl, rfl, trivial⟩ rfl ?_
 refine W.cF rfl ?_
 refine W.skip ?_
 refine th_nrm ?_
 refine W.tr [(1, .ptr _ _)] [.box _ [.int _ _, .int _ _, .lst _ _ _, .lst _ _ _, .int _ _]] ⟨rfl, trivial⟩ rfl ?_
 refine W.rL ?_
 refine cL rfl (o_ldA (cs := [.int _ _, .int _ _, .lst _ _ _, .lst _ _ _, .int _ _]) tt25 rfl rfl ⟨_, rfl⟩ rfl ?_)
 obtain ⟨s1, hv⟩ := hv
 refine cL rfl (o_callP1 (k := 11) (fst := []) (caps := []) (ys := [.agg _]) rfl rfl (spec_mk c s1) (Wks.cons (ag_agg 5 _ (Wks.cons (ag_int _ _ _ _) (Wks.cons (ag_int _ _ _ _) (Wks.cons (ag_lst _ _ _ _ _) (Wks.cons (ag_lst _ _ _ _ _) (Wks.cons (ag_int _ _ _ _) (Wks.refl _))))))) (Wks.refl _)) ?_)
 refine cL rfl (o_move (v := .tup _) rfl ?_)
 refine cL rfl (o_ext (v := .agg _) rfl rfl ?_)
 refine cL rfl (o_ext (v := .int _ _) rfl rfl ?_)
 iterate 2 refine cL rfl (o_ext (v := .lst _ _ _) rfl rfl ?_)
 refine cL rfl (o_ext (v := .int _ _) rfl rfl ?_)
 refine cL rfl (o_alloc (p := 1) tt27 rfl rfl ?_)
 refine cLn (o_stB (v := .agg _) (vs := [.lst _ _ _, .int _ _, .int _ _, .lst _ _ _, .lst _ _ _]) (cs2 := [.lst _ _ _, .int _ _, .int _ _, .lst _ _ _, .lst _ _ _]) tt27 rfl rfl rfl rfl rfl (Nat.le_of_ble_eq_true rfl) rfl ?_)
 refine aI rfl rfl ?_
 iterate 2 refine aL rfl rfl ?_
 refine aI rfl rfl ?_
 refine eL ?_
 refine W.tr [(3, .ptr _ _), (4, .int _ _), (5, .lst _ _ _)] [.box _ [.int _ _, .int _ _, .lst _ _ _, .lst _ _ _, .int _ _], .box _ [.lst _ _ _, .int _ _, .int _ _, .lst _ _ _, .lst _ _ _]] ⟨rfl, rfl, rfl, trivial⟩ rfl ?_
 refine W.rL ?_
 refine cL rfl (o_fa tt27 rfl tt3 rfl ?_)
 refine cLn (o_stB (v := .int _ _) (vs := [.int _ _]) (cs2 := [.lst _ _ _, .int _ _, .int _ _, .lst _ _ _, .lst _ _ _]) tt3 rfl rfl rfl rfl rfl (Nat.le_of_ble_eq_true rfl) rfl ?_)
 refine eL ?_
 refine W.tr [(3, .ptr _ _), (4, .int _ _), (5, .lst _ _ _)] [.box _ [.int _ _, .int _ _, .lst _ _ _, .lst _ _ _, .int _ _], .box _ [.lst _ _ _, .int _ _, .int _ _, .lst _ _ _, .lst _ _ _]] ⟨rfl, rfl, rfl, trivial⟩ rfl ?_
 refine W.rL ?_
 refine cL rfl (o_ldA (cs := [.lst _ _ _, .int _ _, .int _ _, .lst _ _ _, .lst _ _ _]) tt27 rfl rfl ⟨_, rfl⟩ rfl ?_)
 refine mI rfl rfl ?_
 refine mL rfl rfl ?_
 obtain ⟨s2, s3, s4, s5, hv⟩ := hv
 refine cL rfl (o_callP1 (k := 13) (fst := []) (caps := []) (ys := [.agg _, .int _ _, .lst _ _ _]) rfl rfl (spec_choices (Flt.mk (((mkM c).1).dr) (((mkM c).1).la) (0 : Int) (((mkM c).1).sv) (((mkM c).1).tm)) ((mkM c).2.1) ((mkM c).2.2.1) s2 s3 s4 s5) (Wks.cons (ag_agg 5 _ (Wks.cons (ag_lst _ _ _ _ _) (Wks.cons (ag_int _ _ _ _) (Wks.cons (ag_int _ _ _ _) (Wks.cons (ag_lst _ _ _ _ _) (Wks.cons (ag_lst _ _ _ _ _) (Wks.refl _))))))) (Wks.cons (ag_int _ _ _ _) (Wks.cons (ag_lst _ _ _ _ _) (Wks.refl _)))) ?_)
 refine cL rfl (o_move (v := .tup _) rfl ?_)
 refine cL rfl (o_ext (v := .lst _ _ _) rfl rfl ?_)
 refine cL rfl (o_ext (v := .int _ _) rfl rfl ?_)
 refine aL rfl rfl ?_
 refine aI rfl rfl ?_
 refine eL ?_
 refine W.tr [(3, .ptr _ _), (4, .int _ _), (5, .lst _ _ _), (8, .lst _ _ _), (9, .int _ _)] [.box _ [.int _ _, .int _ _, .lst _ _ _, .lst _ _ _, .int _ _], .box _ [.lst _ _ _, .int _ _, .int _ _, .lst _ _ _, .lst _ _ _]] ⟨rfl, rfl, rfl, rfl, rfl, trivial⟩ rfl ?_
 refine W.rL ?_
 refine mI rfl rfl ?_
 refine mL rfl rfl ?_
 obtain ⟨s6, hv⟩ := hv
 refine cL rfl (o_callP1 (k := 26) (fst := []) (caps := []) (ys := [.int _ _, .lst _ _ _]) rfl rfl (spec_close ((mkM c).2.1) ((mkM c).2.2.1) s6) (Wks.cons (ag_int _ _ _ _) (Wks.cons (ag_lst _ _ _ _ _) (Wks.refl _))) ?_)
 refine cL rfl (o_move (v := .tup _) rfl ?_)
 refine cL rfl (o_ext (v := .agg _) rfl rfl ?_)
 refine cL rfl (o_ext (v := .lst _ _ _) rfl rfl ?_)
 refine cL rfl (o_ext (v := .int _ _) rfl rfl ?_)
 refine cL rfl (o_alloc (p := 2) tt53 rfl rfl ?_)
 refine cLn (o_stB (v := .agg _) (vs := [.int _ _, .lst _ _ _]) (cs2 := [.int _ _, .lst _ _ _]) tt53 rfl rfl rfl rfl rfl (Nat.le_of_ble_eq_true rfl) rfl ?_)
 refine aL rfl rfl ?_
 refine aI rfl rfl ?_
 refine eL ?_
 refine W.tr [(3, .ptr _ _), (4, .int _ _), (5, .lst _ _ _), (8, .lst _ _ _), (9, .int _ _), (10, .ptr _ _), (12, .int _ _)] [.box _ [.int _ _, .int _ _, .lst _ _ _, .lst _ _ _, .int _ _], .box _ [.lst _ _ _, .int _ _, .int _ _, .lst _ _ _, .lst _ _ _], .box _ [.int _ _, .lst _ _ _]] ⟨rfl, rfl, rfl, rfl, rfl, rfl, rfl, trivial⟩ rfl ?_
 refine W.seq' ?_
 refine W.rL ?_
 refine mI rfl rfl ?_
 refine cL rfl (o_eqI rfl rfl rfl ?_)
 refine eL ?_
 refine W.tr [(3, .ptr _ _), (4, .int _ _), (5, .lst _ _ _), (8, .lst _ _ _), (9, .int _ _), (10, .ptr _ _), (12, .int _ _), (47, .bool _)] [.box _ [.int _ _, .int _ _, .lst _ _ _, .lst _ _ _, .int _ _], .box _ [.lst _ _ _, .int _ _, .int _ _, .lst _ _ _, .lst _ _ _], .box _ [.int _ _, .lst _ _ _]] ⟨rfl, rfl, rfl, rfl, rfl, rfl, rfl, rfl, trivial⟩ rfl ?_
 refine W.cn rfl (fun hc => ?_) (fun hc => ?_)
 have hv := hv.1 hc
 refine W.rLm ⟨116, look [(2, .bool (decide (((chM (Flt.mk (((mkM c).1).dr) (((mkM c).1).la) (0 : Int) (((mkM c).1).sv) (((mkM c).1).tm)) ((mkM c).2.1) ((mkM c).2.2.1)).2 = (100 : Int)) ∧ (((((chM (Flt.mk (((mkM c).1).dr) (((mkM c).1).la) (0 : Int) (((mkM c).1).sv) (((mkM c).1).tm)) ((mkM c).2.1) ((mkM c).2.2.1)).1).length : Nat) : Int) = (0 : Int)))))], [.box 25 [.int .i64 c.fl, .int .i64 c.n, .lst true c.x.length (encL e29 c.x), .lst true c.tr.length (encL eInt c.tr), .int .i64 c.ho], .box 27 [.lst false (((mkM c).1).dr).length (encL eInt (((mkM c).1).dr)), .int .i64 (((mkM c).1).la), .int .i64 (0 : Int), .lst false (((mkM c).1).sv).length (encL eInt (((mkM c).1).sv)), .lst false (((mkM c).1).tm).length (encL eInt (((mkM c).1).tm))], .box 53 [.int .i64 (((closeM ((mkM c).2.1) ((mkM c).2.2.1)).1).n), .lst false (((closeM ((mkM c).2.1) ((mkM c).2.2.1)).1).most).length (encL (eSl eInt true) (((closeM ((mkM c).2.1) ((mkM c).2.2.1)).1).most))]], 0⟩ ?_ ?_
 refine mI rfl rfl ?_
 refine cL rfl (o_eqI rfl rfl rfl ?_)
 refine mB rfl rfl ?_
 by_cases c1 : (chM (Flt.mk (((mkM c).1).dr) (((mkM c).1).la) (0 : Int) (((mkM c).1).sv) (((mkM c).1).tm)) ((mkM c).2.1) ((mkM c).2.2.1)).2 = (100 : Int)
 refine cLg rfl rfl (decide_eq_true c1) ?_
 refine mL rfl rfl ?_
 refine cLg rfl rfl (decide_eq_true c1) ?_
 refine cL rfl (o_len (v := .lst _ _ _) tt23 rfl rfl ?_)
 refine cLg rfl rfl (decide_eq_true c1) ?_
 refine cL rfl (o_eqI rfl rfl rfl ?_)
 refine cL rfl (o_pickT (v := .bool _) rfl (decide_eq_true c1) rfl ?_)
 refine aB rfl rfl ?_
 refine eL ?_
 exact le_mk ⟨(congrArg AV.bool (dAndT c1 (rfl))).symm, trivial⟩ rfl
 iterate 3 refine cLs rfl rfl rfl (decide_eq_false c1) ?_
 refine cL rfl (o_pickF (v := .bool _) rfl (decide_eq_false c1) rfl ?_)
 refine aB rfl rfl ?_
 refine eL ?_
 exact le_mk ⟨(congrArg AV.bool (dAndF c1)).symm, trivial⟩ rfl
 refine W.ret ?_
 refine th_ret (rt ?_)
 refine rt_t (v := .bool _) rfl ?_
 refine rt_n ?_
 exact ⟨_, rs_bool _ _ _, (decide (((chM (Flt.mk (((mkM c).1).dr) (((mkM c).1).la) (0 : Int) (((mkM c).1).sv) (((mkM c).1).tm)) ((mkM c).2.1) ((mkM c).2.2.1)).2 = (100 : Int)) ∧ (((((chM (Flt.mk (((mkM c).1).dr) (((mkM c).1).la) (0 : Int) (((mkM c).1).sv) (((mkM c).1).tm)) ((mkM c).2.1) ((mkM c).2.2.1)).1).length : Nat) : Int) = (0 : Int)))), rfl, hv⟩
 have hv := hv.2 hc
 refine W.skip ?_
 refine th_nrm ?_
 refine W.tr [(3, .ptr _ _), (4, .int _ _), (5, .lst _ _ _), (8, .lst _ _ _), (9, .int _ _), (10, .ptr _ _), (12, .int _ _)] [.box _ [.int _ _, .int _ _, .lst _ _ _, .lst _ _ _, .int _ _], .box _ [.lst _ _ _, .int _ _, .int _ _, .lst _ _ _, .lst _ _ _], .box _ [.int _ _, .lst _ _ _]] ⟨rfl, rfl, rfl, rfl, rfl, rfl, rfl, trivial⟩ rfl ?_
 refine W.seq' ?_
 obtain ⟨sd, hv⟩ := hv
 refine W.rLmT ⟨116, look [(3, .ptr 1 0), (4, .int .i64 ((mkM c).2.1)), (5, .lst false ((mkM c).2.2.1).length (encL e66 ((mkM c).2.2.1))), (10, .ptr 2 0), (71, .bool (decide ((¬ (closeM ((mkM c).2.1) ((mkM c).2.2.1)).2.2 = (0 : Int)) ∨ ((¬ (chM (Flt.mk (((mkM c).1).dr) (((mkM c).1).la) (0 : Int) (((mkM c).1).sv) (((mkM c).1).tm)) ((mkM c).2.1) ((mkM c).2.2.1)).2 = (0 : Int)) ∨ (¬ (((chM (Flt.mk (((mkM c).1).dr) (((mkM c).1).la) (0 : Int) (((mkM c).1).sv) (((mkM c).1).tm)) ((mkM c).2.1) ((mkM c).2.2.1)).1) = [(((1 : Int) * 2 ^ (min (((((mkM c).1).dr).length : Nat) : Int).toNat 64)) - (1 : Int))]))))))], [.dead, .box 27 [.lst false (((mkM c).1).dr).length (encL eInt (((mkM c).1).dr)), .int .i64 (((mkM c).1).la), .int .i64 (0 : Int), .lst false (((mkM c).1).sv).length (encL eInt (((mkM c).1).sv)), .lst false (((mkM c).1).tm).length (encL eInt (((mkM c).1).tm))], .box 53 [.int .i64 (((closeM ((mkM c).2.1) ((mkM c).2.2.1)).1).n), .lst false (((closeM ((mkM c).2.1) ((mkM c).2.2.1)).1).most).length (encL (eSl eInt true) (((closeM ((mkM c).2.1) ((mkM c).2.2.1)).1).most))]], 0⟩ ?_ ?_
 refine mI rfl rfl ?_
 refine cL rfl (o_neI rfl rfl rfl ?_)
 refine mB rfl rfl ?_
 by_cases c1 : ¬ (closeM ((mkM c).2.1) ((mkM c).2.2.1)).2.2 = (0 : Int)
 iterate 2 refine cLs rfl rfl rfl (decide_eq_true c1) ?_
 refine cL rfl (o_pickT (v := .bool _) rfl (decide_eq_true c1) rfl ?_)
 refine mB rfl rfl ?_
 iterate 9 refine cLs rfl rfl rfl (rfl) ?_
 refine cL rfl (o_pickT (v := .bool _) rfl rfl rfl ?_)
 refine eL ?_
 exact St.to_mk (φ := [none, some 1, some 2]) rfl (rfl) ⟨Ren.ptr rfl, Ren.int _ _, Ren.lst _ _ _, Ren.ptr rfl, Ren.boolE (dOrT c1), trivial⟩ ⟨rfl, .inr ⟨_, rfl, rfl, Rens.cons (Ren.lst _ _ _) (Rens.cons (Ren.int _ _) (Rens.cons (Ren.int _ _) (Rens.cons (Ren.lst _ _ _) (Rens.cons (Ren.lst _ _ _) (Rens.nil)))))⟩, .inr ⟨_, rfl, rfl, Rens.cons (Ren.int _ _) (Rens.cons (Ren.lst _ _ _) (Rens.nil))⟩, trivial⟩
 have sd := sd.2 c1
 refine cLg rfl rfl (decide_eq_false c1) ?_
 refine mI rfl rfl ?_
 refine cLg rfl rfl (decide_eq_false c1) ?_
 refine cL rfl (o_neI rfl rfl rfl ?_)
 refine cL rfl (o_pickF (v := .bool _) rfl (decide_eq_false c1) rfl ?_)
 refine mB rfl rfl ?_
 by_cases c2 : ¬ (chM (Flt.mk (((mkM c).1).dr) (((mkM c).1).la) (0 : Int) (((mkM c).1).sv) (((mkM c).1).tm)) ((mkM c).2.1) ((mkM c).2.2.1)).2 = (0 : Int)
 iterate 9 refine cLs rfl rfl rfl (decide_eq_true c2) ?_
 refine cL rfl (o_pickT (v := .bool _) rfl (decide_eq_true c2) rfl ?_)
 refine eL ?_
 exact St.to_mk (φ := [none, some 1, some 2]) rfl (rfl) ⟨Ren.ptr rfl, Ren.int _ _, Ren.lst _ _ _, Ren.ptr rfl, Ren.boolE (dOrF c1 (dOrT c2)), trivial⟩ ⟨rfl, .inr ⟨_, rfl, rfl, Rens.cons (Ren.lst _ _ _) (Rens.cons (Ren.int _ _) (Rens.cons (Ren.int _ _) (Rens.cons (Ren.lst _ _ _) (Rens.cons (Ren.lst _ _ _) (Rens.nil)))))⟩, .inr ⟨_, rfl, rfl, Rens.cons (Ren.int _ _) (Rens.cons (Ren.lst _ _ _) (Rens.nil))⟩, trivial⟩
 have sd := sd.2 c2
 refine cLg rfl rfl (decide_eq_false c2) ?_
 refine mL rfl rfl ?_
 refine cLg rfl rfl (decide_eq_false c2) ?_
 refine cL rfl (o_fa tt27 rfl tt23 rfl ?_)
 refine cLg rfl rfl (decide_eq_false c2) ?_
 refine cL rfl (o_ldS (v := .lst _ _ _) tt23 rfl rfl ⟨_, rfl⟩ ?_)
 refine cLg rfl rfl (decide_eq_false c2) ?_
 refine cL rfl (o_len (v := .lst _ _ _) tt23 rfl rfl ?_)
 refine cLg rfl rfl (decide_eq_false c2) ?_
 obtain ⟨s19, s20, sd⟩ := sd
 refine cL rfl (o_shl rfl rfl s19 s20 ?_)
 refine cLg rfl rfl (decide_eq_false c2) ?_
 obtain ⟨s21, sd⟩ := sd
 refine cL rfl (o_sub rfl rfl s21 ?_)
 refine cLg rfl rfl (decide_eq_false c2) ?_
 refine cL rfl (o_bs1 (v := .int _ _) (q := 3) tt23 tt3 rfl rfl rfl rfl rfl rfl rfl rfl ?_)
 refine cLg rfl rfl (decide_eq_false c2) ?_
 obtain ⟨s22, sd⟩ := sd
 refine cL rfl (o_callP1 (k := 17) (fst := []) (caps := []) (ys := [.lst _ _ _, .ref _ _ _]) rfl rfl (spec_ints ((chM (Flt.mk (((mkM c).1).dr) (((mkM c).1).la) (0 : Int) (((mkM c).1).sv) (((mkM c).1).tm)) ((mkM c).2.1) ((mkM c).2.2.1)).1) [(((1 : Int) * 2 ^ (min (((((mkM c).1).dr).length : Nat) : Int).toNat 64)) - (1 : Int))] s22) (Wks.cons (ag_lst _ _ _ _ _) (Wks.cons (ag_ref (fl := false) (xs := [(((1 : Int) * 2 ^ (min (((((mkM c).1).dr).length : Nat) : Int).toNat 64)) - (1 : Int))]) encInt 4 _ rfl rfl) (Wks.refl _))) ?_)
 refine cLg rfl rfl (decide_eq_false c2) ?_
 refine cL rfl (o_not rfl ?_)
 refine cL rfl (o_pickF (v := .bool _) rfl (decide_eq_false c2) rfl ?_)
 refine eL ?_
 exact St.to_mk (φ := [none, some 1, some 2]) rfl (rfl) ⟨Ren.ptr rfl, Ren.int _ _, Ren.lst _ _ _, Ren.ptr rfl, Ren.boolE (dOrF c1 (dOrF c2 (rfl))), trivial⟩ ⟨rfl, .inr ⟨_, rfl, rfl, Rens.cons (Ren.lst _ _ _) (Rens.cons (Ren.int _ _) (Rens.cons (Ren.int _ _) (Rens.cons (Ren.lst _ _ _) (Rens.cons (Ren.lst _ _ _) (Rens.nil)))))⟩, .inr ⟨_, rfl, rfl, Rens.cons (Ren.int _ _) (Rens.cons (Ren.lst _ _ _) (Rens.nil))⟩, trivial⟩
 refine W.cn rfl (fun hc => ?_) (fun hc => ?_)
 have hv := hv.1 hc
 refine W.rL ?_
 refine aB rfl rfl ?_
 refine eL ?_
 refine W.tr [(2, .bool _)] [.dead, .box _ [.lst _ _ _, .int _ _, .int _ _, .lst _ _ _, .lst _ _ _], .box _ [.int _ _, .lst _ _ _]] ⟨rfl, trivial⟩ rfl ?_
 refine W.ret ?_
 refine th_ret (rt ?_)
 refine rt_t (v := .bool _) rfl ?_
 refine rt_n ?_
 exact ⟨_, rs_bool _ _ _, false, rfl, hv⟩
 have hv := hv.2 hc
 refine W.skip ?_
 refine th_nrm ?_
 refine W.tr [(3, .ptr _ _), (4, .int _ _), (5, .lst _ _ _), (10, .ptr _ _)] [.dead, .box _ [.lst _ _ _, .int _ _, .int _ _, .lst _ _ _, .lst _ _ _], .box _ [.int _ _, .lst _ _ _]] ⟨rfl, rfl, rfl, rfl, trivial⟩ rfl ?_
 refine W.seq' ?_
 refine W.rL ?_
 refine aI rfl rfl ?_
 refine eL ?_
 refine W.tr [(3, .ptr _ _), (4, .int _ _), (5, .lst _ _ _), (10, .ptr _ _), (13, .int _ _)] [.dead, .box _ [.lst _ _ _, .int _ _, .int _ _, .lst _ _ _, .lst _ _ _], .box _ [.int _ _, .lst _ _ _]] ⟨rfl, rfl, rfl, rfl, rfl, trivial⟩ rfl ?_
 refine W.block ?_
 obtain ⟨I1, μ1, hp, hv⟩ := hv
 refine W.loop1 (fun v13 => ⟨116, look [(3, .ptr 1 0), (4, .int .i64 ((mkM c).2.1)), (5, .lst false ((mkM c).2.2.1).length (encL e66 ((mkM c).2.2.1))), (10, .ptr 2 0), (13, .int .i64 v13)], [.dead, .box 27 [.lst false (((mkM c).1).dr).length (encL eInt (((mkM c).1).dr)), .int .i64 (((mkM c).1).la), .int .i64 (0 : Int), .lst false (((mkM c).1).sv).length (encL eInt (((mkM c).1).sv)), .lst false (((mkM c).1).tm).length (encL eInt (((mkM c).1).tm))], .box 53 [.int .i64 (((closeM ((mkM c).2.1) ((mkM c).2.2.1)).1).n), .lst false (((closeM ((mkM c).2.1) ((mkM c).2.2.1)).1).most).length (encL (eSl eInt true) (((closeM ((mkM c).2.1) ((mkM c).2.2.1)).1).most))]], 0⟩) I1 μ1 (0 : Int) (St.to_mk (φ := [none, some 1, some 2]) rfl (rfl) ⟨Ren.ptr rfl, Ren.int _ _, Ren.lst _ _ _, Ren.ptr rfl, Ren.int _ _, trivial⟩ ⟨rfl, .inr ⟨_, rfl, rfl, Rens.cons (Ren.lst _ _ _) (Rens.cons (Ren.int _ _) (Rens.cons (Ren.int _ _) (Rens.cons (Ren.lst _ _ _) (Rens.cons (Ren.lst _ _ _) (Rens.nil)))))⟩, .inr ⟨_, rfl, rfl, Rens.cons (Ren.int _ _) (Rens.cons (Ren.lst _ _ _) (Rens.nil))⟩, trivial⟩) hp ?_
 clear hp
 intro v13 hI
 replace hv := hv v13 hI
 clear hI
 refine W.seq' ?_
 refine W.rL ?_
 iterate 2 refine mI rfl rfl ?_
 refine cL rfl (o_lss rfl rfl ?_)
 refine eL ?_
 refine W.tr [(3, .ptr _ _), (4, .int _ _), (5, .lst _ _ _), (10, .ptr _ _), (13, .int _ _), (74, .bool _)] [.dead, .box _ [.lst _ _ _, .int _ _, .int _ _, .lst _ _ _, .lst _ _ _], .box _ [.int _ _, .lst _ _ _]] ⟨rfl, rfl, rfl, rfl, rfl, rfl, trivial⟩ rfl ?_
 refine W.cn rfl (fun hc => ?_) (fun hc => ?_)
 have hv := hv.1 hc
 refine W.skip ?_
 refine th_nrm ?_
 refine W.tr [(3, .ptr _ _), (4, .int _ _), (5, .lst _ _ _), (10, .ptr _ _), (13, .int _ _)] [.dead, .box _ [.lst _ _ _, .int _ _, .int _ _, .lst _ _ _, .lst _ _ _], .box _ [.int _ _, .lst _ _ _]] ⟨rfl, rfl, rfl, rfl, rfl, trivial⟩ rfl ?_
 refine W.seq' ?_
 refine W.block ?_
 refine W.rL ?_
 refine aI rfl rfl ?_
 refine eL ?_
 refine W.tr [(3, .ptr _ _), (4, .int _ _), (5, .lst _ _ _), (10, .ptr _ _), (13, .int _ _), (14, .int _ _)] [.dead, .box _ [.lst _ _ _, .int _ _, .int _ _, .lst _ _ _, .lst _ _ _], .box _ [.int _ _, .lst _ _ _]] ⟨rfl, rfl, rfl, rfl, rfl, rfl, trivial⟩ rfl ?_
 refine W.block ?_
 obtain ⟨I2, μ2, hp, hv⟩ := hv
 refine W.loop1 (fun v14 => ⟨116, look [(3, .ptr 1 0), (4, .int .i64 ((mkM c).2.1)), (5, .lst false ((mkM c).2.2.1).length (encL e66 ((mkM c).2.2.1))), (10, .ptr 2 0), (13, .int .i64 v13), (14, .int .i64 v14)], [.dead, .box 27 [.lst false (((mkM c).1).dr).length (encL eInt (((mkM c).1).dr)), .int .i64 (((mkM c).1).la), .int .i64 (0 : Int), .lst false (((mkM c).1).sv).length (encL eInt (((mkM c).1).sv)), .lst false (((mkM c).1).tm).length (encL eInt (((mkM c).1).tm))], .box 53 [.int .i64 (((closeM ((mkM c).2.1) ((mkM c).2.2.1)).1).n), .lst false (((closeM ((mkM c).2.1) ((mkM c).2.2.1)).1).most).length (encL (eSl eInt true) (((closeM ((mkM c).2.1) ((mkM c).2.2.1)).1).most))]], 0⟩) I2 μ2 (0 : Int) (St.to_mk (φ := [none, some 1, some 2]) rfl (rfl) ⟨Ren.ptr rfl, Ren.int _ _, Ren.lst _ _ _, Ren.ptr rfl, Ren.int _ _, Ren.int _ _, trivial⟩ ⟨rfl, .inr ⟨_, rfl, rfl, Rens.cons (Ren.lst _ _ _) (Rens.cons (Ren.int _ _) (Rens.cons (Ren.int _ _) (Rens.cons (Ren.lst _ _ _) (Rens.cons (Ren.lst _ _ _) (Rens.nil)))))⟩, .inr ⟨_, rfl, rfl, Rens.cons (Ren.int _ _) (Rens.cons (Ren.lst _ _ _) (Rens.nil))⟩, trivial⟩) hp ?_
 clear hp
 intro v14 hI
 replace hv := hv v14 hI
 clear hI
 refine W.seq' ?_
 refine W.rL ?_
 iterate 2 refine mI rfl rfl ?_
 refine cL rfl (o_lss rfl rfl ?_)
 refine eL ?_
 refine W.tr [(3, .ptr _ _), (4, .int _ _), (5, .lst _ _ _), (10, .ptr _ _), (13, .int _ _), (14, .int _ _), (79, .bool _)] [.dead, .box _ [.lst _ _ _, .int _ _, .int _ _, .lst _ _ _, .lst _ _ _], .box _ [.int _ _, .lst _ _ _]] ⟨rfl, rfl, rfl, rfl, rfl, rfl, rfl, trivial⟩ rfl ?_
 refine W.cn rfl (fun hc => ?_) (fun hc => ?_)
 have hv := hv.1 hc
 refine W.skip ?_
 refine th_nrm ?_
 refine W.tr [(3, .ptr _ _), (4, .int _ _), (5, .lst _ _ _), (10, .ptr _ _), (13, .int _ _), (14, .int _ _)] [.dead, .box _ [.lst _ _ _, .int _ _, .int _ _, .lst _ _ _, .lst _ _ _], .box _ [.int _ _, .lst _ _ _]] ⟨rfl, rfl, rfl, rfl, rfl, rfl, trivial⟩ rfl ?_
 refine W.seq' ?_
 refine W.block ?_
 refine W.rL ?_
 refine cL rfl (o_ldA (cs := [.lst _ _ _, .int _ _, .int _ _, .lst _ _ _, .lst _ _ _]) tt27 rfl rfl ⟨_, rfl⟩ rfl ?_)
 refine mI rfl rfl ?_
 refine mL rfl rfl ?_
 iterate 2 refine mI rfl rfl ?_
 obtain ⟨s227, s228, s229, s230, hv⟩ := hv
 refine cL rfl (o_callP1 (k := 22) (fst := []) (caps := []) (ys := [.agg _, .int _ _, .lst _ _ _, .int _ _, .int _ _]) rfl rfl (spec_brange (Flt.mk (((mkM c).1).dr) (((mkM c).1).la) (0 : Int) (((mkM c).1).sv) (((mkM c).1).tm)) ((mkM c).2.1) ((mkM c).2.2.1) v13 v14 s227 s228 s229 s230) (Wks.cons (ag_agg 5 _ (Wks.cons (ag_lst _ _ _ _ _) (Wks.cons (ag_int _ _ _ _) (Wks.cons (ag_int _ _ _ _) (Wks.cons (ag_lst _ _ _ _ _) (Wks.cons (ag_lst _ _ _ _ _) (Wks.refl _))))))) (Wks.cons (ag_int _ _ _ _) (Wks.cons (ag_lst _ _ _ _ _) (Wks.cons (ag_int _ _ _ _) (Wks.cons (ag_int _ _ _ _) (Wks.refl _)))))) ?_)
 refine cL rfl (o_move (v := .tup _) rfl ?_)
 iterate 3 refine cL rfl (o_ext (v := .int _ _) rfl rfl ?_)
 iterate 3 refine aI rfl rfl ?_
 refine eL ?_
 refine W.tr [(3, .ptr _ _), (4, .int _ _), (5, .lst _ _ _), (10, .ptr _ _), (13, .int _ _), (14, .int _ _), (15, .int _ _), (16, .int _ _), (17, .int _ _)] [.dead, .box _ [.lst _ _ _, .int _ _, .int _ _, .lst _ _ _, .lst _ _ _], .box _ [.int _ _, .lst _ _ _]] ⟨rfl, rfl, rfl, rfl, rfl, rfl, rfl, rfl, rfl, trivial⟩ rfl ?_
 refine W.rL ?_
 refine cL rfl (o_ldA (cs := [.int _ _, .lst _ _ _]) tt53 rfl rfl ⟨_, rfl⟩ rfl ?_)
 iterate 2 refine mI rfl rfl ?_
 obtain ⟨s231, s232, hv⟩ := hv
 refine cL rfl (o_callP1 (k := 27) (fst := []) (caps := []) (ys := [.agg _, .int _ _, .int _ _]) rfl rfl (spec_range ((closeM ((mkM c).2.1) ((mkM c).2.2.1)).1) v13 v14 s231 s232) (Wks.cons (ag_agg 5 _ (Wks.cons (ag_int _ _ _ _) (Wks.cons (ag_lst _ _ _ _ _) (Wks.refl _)))) (Wks.cons (ag_int _ _ _ _) (Wks.cons (ag_int _ _ _ _) (Wks.refl _)))) ?_)
 refine cL rfl (o_move (v := .tup _) rfl ?_)
 iterate 3 refine cL rfl (o_ext (v := .int _ _) rfl rfl ?_)
 iterate 3 refine aI rfl rfl ?_
 refine eL ?_
 refine W.tr [(3, .ptr _ _), (4, .int _ _), (5, .lst _ _ _), (10, .ptr _ _), (13, .int _ _), (14, .int _ _), (15, .int _ _), (16, .int _ _), (17, .int _ _), (18, .int _ _), (19, .int _ _), (20, .int _ _)] [.dead, .box _ [.lst _ _ _, .int _ _, .int _ _, .lst _ _ _, .lst _ _ _], .box _ [.int _ _, .lst _ _ _]] ⟨rfl, rfl, rfl, rfl, rfl, rfl, rfl, rfl, rfl, rfl, rfl, rfl, trivial⟩ rfl ?_
 refine W.rLm ⟨116, look [(3, .ptr 1 0), (4, .int .i64 ((mkM c).2.1)), (5, .lst false ((mkM c).2.2.1).length (encL e66 ((mkM c).2.2.1))), (10, .ptr 2 0), (13, .int .i64 v13), (14, .int .i64 v14), (115, .bool (decide ((¬ (brangeM (Flt.mk (((mkM c).1).dr) (((mkM c).1).la) (0 : Int) (((mkM c).1).sv) (((mkM c).1).tm)) ((mkM c).2.1) ((mkM c).2.2.1) v13 v14).2.2 = (0 : Int)) ∨ ((¬ (rangeM ((closeM ((mkM c).2.1) ((mkM c).2.2.1)).1) v13 v14).2.2 = (0 : Int)) ∨ ((¬ (brangeM (Flt.mk (((mkM c).1).dr) (((mkM c).1).la) (0 : Int) (((mkM c).1).sv) (((mkM c).1).tm)) ((mkM c).2.1) ((mkM c).2.2.1) v13 v14).1 = (rangeM ((closeM ((mkM c).2.1) ((mkM c).2.2.1)).1) v13 v14).1) ∨ (¬ (brangeM (Flt.mk (((mkM c).1).dr) (((mkM c).1).la) (0 : Int) (((mkM c).1).sv) (((mkM c).1).tm)) ((mkM c).2.1) ((mkM c).2.2.1) v13 v14).2.1 = (rangeM ((closeM ((mkM c).2.1) ((mkM c).2.2.1)).1) v13 v14).2.1))))))], [.dead, .box 27 [.lst false (((mkM c).1).dr).length (encL eInt (((mkM c).1).dr)), .int .i64 (((mkM c).1).la), .int .i64 (0 : Int), .lst false (((mkM c).1).sv).length (encL eInt (((mkM c).1).sv)), .lst false (((mkM c).1).tm).length (encL eInt (((mkM c).1).tm))], .box 53 [.int .i64 (((closeM ((mkM c).2.1) ((mkM c).2.2.1)).1).n), .lst false (((closeM ((mkM c).2.1) ((mkM c).2.2.1)).1).most).length (encL (eSl eInt true) (((closeM ((mkM c).2.1) ((mkM c).2.2.1)).1).most))]], 0⟩ ?_ ?_
 refine mI rfl rfl ?_
 refine cL rfl (o_neI rfl rfl rfl ?_)
 refine mB rfl rfl ?_
 by_cases c1 : ¬ (brangeM (Flt.mk (((mkM c).1).dr) (((mkM c).1).la) (0 : Int) (((mkM c).1).sv) (((mkM c).1).tm)) ((mkM c).2.1) ((mkM c).2.2.1) v13 v14).2.2 = (0 : Int)
 iterate 2 refine cLs rfl rfl rfl (decide_eq_true c1) ?_
 refine cL rfl (o_pickT (v := .bool _) rfl (decide_eq_true c1) rfl ?_)
 refine mB rfl rfl ?_
 iterate 3 refine cLs rfl rfl rfl (rfl) ?_
 refine cL rfl (o_pickT (v := .bool _) rfl rfl rfl ?_)
 refine mB rfl rfl ?_
 iterate 3 refine cLs rfl rfl rfl (rfl) ?_
 refine cL rfl (o_pickT (v := .bool _) rfl rfl rfl ?_)
 refine eL ?_
 exact le_mk ⟨rfl, rfl, rfl, rfl, rfl, rfl, (congrArg AV.bool (dOrT c1)).symm, trivial⟩ rfl
 refine cLg rfl rfl (decide_eq_false c1) ?_
 refine mI rfl rfl ?_
 refine cLg rfl rfl (decide_eq_false c1) ?_
 refine cL rfl (o_neI rfl rfl rfl ?_)
 refine cL rfl (o_pickF (v := .bool _) rfl (decide_eq_false c1) rfl ?_)
 refine mB rfl rfl ?_
 by_cases c2 : ¬ (rangeM ((closeM ((mkM c).2.1) ((mkM c).2.2.1)).1) v13 v14).2.2 = (0 : Int)
 iterate 3 refine cLs rfl rfl rfl (decide_eq_true c2) ?_
 refine cL rfl (o_pickT (v := .bool _) rfl (decide_eq_true c2) rfl ?_)
 refine mB rfl rfl ?_
 iterate 3 refine cLs rfl rfl rfl (rfl) ?_
 refine cL rfl (o_pickT (v := .bool _) rfl rfl rfl ?_)
 refine eL ?_
 exact le_mk ⟨rfl, rfl, rfl, rfl, rfl, rfl, (congrArg AV.bool (dOrF c1 (dOrT c2))).symm, trivial⟩ rfl
 refine cLg rfl rfl (decide_eq_false c2) ?_
 refine mI rfl rfl ?_
 refine cLg rfl rfl (decide_eq_false c2) ?_
 refine mI rfl rfl ?_
 refine cLg rfl rfl (decide_eq_false c2) ?_
 refine cL rfl (o_neI rfl rfl rfl ?_)
 refine cL rfl (o_pickF (v := .bool _) rfl (decide_eq_false c2) rfl ?_)
 refine mB rfl rfl ?_
 by_cases c3 : ¬ (brangeM (Flt.mk (((mkM c).1).dr) (((mkM c).1).la) (0 : Int) (((mkM c).1).sv) (((mkM c).1).tm)) ((mkM c).2.1) ((mkM c).2.2.1) v13 v14).1 = (rangeM ((closeM ((mkM c).2.1) ((mkM c).2.2.1)).1) v13 v14).1
 iterate 3 refine cLs rfl rfl rfl (decide_eq_true c3) ?_
 refine cL rfl (o_pickT (v := .bool _) rfl (decide_eq_true c3) rfl ?_)
 refine eL ?_
 exact le_mk ⟨rfl, rfl, rfl, rfl, rfl, rfl, (congrArg AV.bool (dOrF c1 (dOrF c2 (dOrT c3)))).symm, trivial⟩ rfl
 refine cLg rfl rfl (decide_eq_false c3) ?_
 refine mI rfl rfl ?_
 refine cLg rfl rfl (decide_eq_false c3) ?_
 refine mI rfl rfl ?_
 refine cLg rfl rfl (decide_eq_false c3) ?_
 refine cL rfl (o_neI rfl rfl rfl ?_)
 refine cL rfl (o_pickF (v := .bool _) rfl (decide_eq_false c3) rfl ?_)
 refine eL ?_
 exact le_mk ⟨rfl, rfl, rfl, rfl, rfl, rfl, (congrArg AV.bool (dOrF c1 (dOrF c2 (dOrF c3 (rfl))))).symm, trivial⟩ rfl
 refine W.cn rfl (fun hc => ?_) (fun hc => ?_)
 have hv := hv.1 hc
 refine W.rL ?_
 refine aB rfl rfl ?_
 refine eL ?_
 refine W.tr [(2, .bool _)] [.dead, .box _ [.lst _ _ _, .int _ _, .int _ _, .lst _ _ _, .lst _ _ _], .box _ [.int _ _, .lst _ _ _]] ⟨rfl, trivial⟩ rfl ?_
 refine W.ret ?_
 refine bl_ret (th_ret (th_ret (bl_ret (bl_ret (th_ret (th_ret (bl_ret (th_ret (rt ?_)))))))))
 refine rt_t (v := .bool _) rfl ?_
 refine rt_n ?_
 exact ⟨_, rs_bool _ _ _, false, rfl, hv⟩
 have hv := hv.2 hc
 refine W.skip ?_
 refine bl_nrm (th_nrm ?_)
 refine W.tr [(3, .ptr _ _), (4, .int _ _), (5, .lst _ _ _), (10, .ptr _ _), (13, .int _ _), (14, .int _ _)] [.dead, .box _ [.lst _ _ _, .int _ _, .int _ _, .lst _ _ _, .lst _ _ _], .box _ [.int _ _, .lst _ _ _]] ⟨rfl, rfl, rfl, rfl, rfl, rfl, trivial⟩ rfl ?_
 refine W.rL1 ?_
 refine mI rfl rfl ?_
 obtain ⟨s233, hv⟩ := hv
 refine cL rfl (o_add rfl rfl s233 ?_)
 refine aI rfl rfl ?_
 refine eL ?_
 exact th_nrm (⟨(), (v14 + (1 : Int)), hv, St.to_mk (φ := [none, some 1, some 2]) rfl (rfl) ⟨Ren.ptr rfl, Ren.int _ _, Ren.lst _ _ _, Ren.ptr rfl, Ren.int _ _, Ren.int _ _, trivial⟩ ⟨rfl, .inr ⟨_, rfl, rfl, Rens.cons (Ren.lst _ _ _) (Rens.cons (Ren.int _ _) (Rens.cons (Ren.int _ _) (Rens.cons (Ren.lst _ _ _) (Rens.cons (Ren.lst _ _ _) (Rens.nil)))))⟩, .inr ⟨_, rfl, rfl, Rens.cons (Ren.int _ _) (Rens.cons (Ren.lst _ _ _) (Rens.nil))⟩, trivial⟩⟩)
 have hv := hv.2 hc
 refine W.exit ?_
 refine th_exit (th_exit (bl_hit (bl_nrm (th_nrm ?_))))
 refine W.tr [(3, .ptr _ _), (4, .int _ _), (5, .lst _ _ _), (10, .ptr _ _), (13, .int _ _)] [.dead, .box _ [.lst _ _ _, .int _ _, .int _ _, .lst _ _ _, .lst _ _ _], .box _ [.int _ _, .lst _ _ _]] ⟨rfl, rfl, rfl, rfl, rfl, trivial⟩ rfl ?_
 refine W.rL1 ?_
 refine mI rfl rfl ?_
 obtain ⟨s234, hv⟩ := hv
 refine cL rfl (o_add rfl rfl s234 ?_)
 refine aI rfl rfl ?_
 refine eL ?_
 exact th_nrm (⟨(), (v13 + (1 : Int)), hv, St.to_mk (φ := [none, some 1, some 2]) rfl (rfl) ⟨Ren.ptr rfl, Ren.int _ _, Ren.lst _ _ _, Ren.ptr rfl, Ren.int _ _, trivial⟩ ⟨rfl, .inr ⟨_, rfl, rfl, Rens.cons (Ren.lst _ _ _) (Rens.cons (Ren.int _ _) (Rens.cons (Ren.int _ _) (Rens.cons (Ren.lst _ _ _) (Rens.cons (Ren.lst _ _ _) (Rens.nil)))))⟩, .inr ⟨_, rfl, rfl, Rens.cons (Ren.int _ _) (Rens.cons (Ren.lst _ _ _) (Rens.nil))⟩, trivial⟩⟩)
 have hv := hv.2 hc
 refine W.exit ?_
 refine th_exit (th_exit (bl_hit (th_nrm ?_)))
 refine W.tr [] [.dead, .box _ [.lst _ _ _, .int _ _, .int _ _, .lst _ _ _, .lst _ _ _], .box _ [.int _ _, .lst _ _ _]] trivial rfl ?_
 refine W.rL ?_
 refine aB rfl rfl ?_
 refine eL ?_
 refine W.tr [(2, .bool _)] [.dead, .box _ [.lst _ _ _, .int _ _, .int _ _, .lst _ _ _, .lst _ _ _], .box _ [.int _ _, .lst _ _ _]] ⟨rfl, trivial⟩ rfl ?_
 refine W.ret ?_
 refine rt ?_
 refine rt_t (v := .bool _) rfl ?_
 refine rt_n ?_
 exact ⟨_, rs_bool _ _ _, true, rfl, hv⟩
theorem vcp_bAll (c : Cas) (h0 : CasOk c) : vc_bAll c (fun q0 => q0 = (true)) := by
  unfold vc_bAll
  obtain ⟨ho, eho, hl24, hF, hn6, hB⟩ := mk_bel c
  generalize mkM c = p at *
  obtain ⟨F, N, L, TR, HO⟩ := p
  dsimp only at *
  obtain ⟨q1, q2, q3⟩ := hF.lens
  have hno := hB.no
  have h32 := pow_le32 hB.five
  have h5 := hB.five
  have hle : L.length ≤ 1073741824 := by omega
  have hb0 := hB.bv0
  have hc0 := hB.choices0
  rw [pow_eq (show F.dr.length ≤ 6 by omega)]
  have hpos : 0 < 2 ^ F.dr.length := Nat.pow_pos (by omega)
  obtain ⟨M, hM⟩ : ∃ M : Nat, 2 ^ F.dr.length = M := ⟨_, rfl⟩
  rw [hM] at hpos h32 hc0 ⊢
  have eM : ((M : Nat) : Int) - 1 = ((M - 1 : Nat) : Int) := by omega
  rw [eM]
  rcases close_cases hB.valid' with ⟨m, hm, e⟩ | ⟨_, e⟩
  · have hz : (closeM N L).2.2 = 0 := by rw [e]
    rw [if_pos hz] at hc0
    have hne : ¬ choicesM ⟨F.dr, F.la, 0, F.sv, F.tm⟩ N L = [] := by rw [hc0]; simp
    have hch := ch_ok hb0 hne
    rw [hc0] at hch
    have hml := bounds_most_len (m := m) (n := N) hno.2
    have e1 : (closeM N L).1 = boundsM m N := by rw [e]
    rw [hz, hch, e1]
    refine ⟨h0, q1, q2, q3, hle, hle, fun h => absurd h (by decide), fun _ => ⟨⟨fun _ => trivial, fun _ => ⟨fun _ => trivial, fun _ => ⟨by omega, by unfold inI; omega, by unfold inI; omega, by simp, trivial⟩⟩⟩, fun h => ?_, fun _ => ⟨fun v => ∃ i : Nat, v = i ∧ (i : Int) ≤ N, fun v => N.toNat - v.toNat, ⟨0, rfl, by omega⟩, ?_⟩⟩⟩
    · exfalso
      rcases h with h | h | h
      · exact h rfl
      · exact h rfl
      · exact h rfl
    · rintro _ ⟨i, rfl, hi⟩
      refine ⟨fun h1 => ⟨fun v => ∃ j : Nat, v = j ∧ (j : Int) ≤ N, fun v => N.toNat - v.toNat, ⟨0, rfl, by omega⟩, ?_⟩, fun _ => rfl⟩
      rintro _ ⟨j, rfl, hj⟩
      refine ⟨fun h2 => ?_, fun h2 => ⟨by unfold inI; omega, ⟨i + 1, by omega, by omega⟩, by dsimp only; omega⟩⟩
      obtain ⟨lo, hi', hr⟩ := rg_ok hb0 hne h1 h2
      have hlo : lo = -mm m j i := by
        obtain ⟨c1, hc1, ec1⟩ := hr.loA
        rw [hc0, List.mem_singleton] at hc1
        subst hc1
        rw [ec1]; dsimp only
        rw [e1, bm_bounds (by omega) (by omega)]
      have hhi : hi' = mm m i j := by
        obtain ⟨c1, hc1, ec1⟩ := hr.hiA
        rw [hc0, List.mem_singleton] at hc1
        subst hc1
        rw [ec1]; dsimp only
        rw [e1, bm_bounds (by omega) (by omega)]
      have hrr := hm.range hno h1 h2
      rw [hr.eq, hrr, hlo, hhi]
      refine ⟨q1, q2, q3, hle, hml.1, hml.2, fun h3 => ?_, fun _ => ⟨by unfold inI; omega, ⟨j + 1, by omega, by omega⟩, by dsimp only; omega⟩⟩
      exfalso
      rcases h3 with h3 | h3 | h3 | h3 <;> exact h3 rfl
  · have hz : (closeM N L).2.2 = 70 := by rw [e]
    rw [if_neg (by rw [hz]; decide)] at hc0
    have hch : chM ⟨F.dr, F.la, 0, F.sv, F.tm⟩ N L = ([], 100) := by unfold chM; rw [if_pos hb0, if_pos hc0]
    rw [hz, hch]
    exact ⟨h0, q1, q2, q3, hle, hle, fun _ => rfl, fun h => absurd rfl h⟩
theorem spec_bAll (c : Cas) (h0 : CasOk c) : FnP Try.prog 5 [.agg ((e25 true) c)] (fun xR => xR = .bool (true)) :=
  (walk_bAll (vcp_bAll c h0)).mono (by rintro _ ⟨_, rfl, rfl⟩; rfl)
end Go.Lat
