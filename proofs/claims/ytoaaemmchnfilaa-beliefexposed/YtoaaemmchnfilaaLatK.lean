/- The law latecomerlaw10.BeliefExposed returns true for every input, and each argument reads afterwards as it read before. Part 11 of 12. No condition. -/
import Derived.Test.YtoaaemmchnfilaaLatD
import Derived.Test.YtoaaemmchnfilaaLatE
import Derived.Test.YtoaaemmchnfilaaLatI
import Derived.Test.YtoaaemmchnfilaaLatJ
import Derived.Test.YtoaaemmchnfilaaLatG
import Derived.Test.YtoaaemmchnfilaaLatF
set_option linter.unusedVariables false
set_option linter.unusedSimpArgs false
set_option linter.unnecessarySimpa false
namespace Go.Lat
open Go.RowKit Go.Proofs
attribute [local irreducible] cvalidM bvalidM choicesM partM chM liM brangeM witM pcM inM allM inSet
attribute [local irreducible] closeM rangeM pointM addBM cycleM holdsM validBM sameM madeM pickM plusM validM possM firstM tableM longerM boundsM ofM addM freeM
def vc_bExposed (c : Cas) (Post : Bool → Prop) : Prop :=
  (CasOk c) ∧ (((mkM c).1).dr.length ≤ 1073741824) ∧ (((mkM c).1).sv.length ≤ 1073741824) ∧ (((mkM c).1).tm.length ≤ 1073741824) ∧ (((mkM c).2.2.1).length ≤ 1073741824) ∧ (((¬ (liM ((mkM c).1) ((mkM c).2.1) ((mkM c).2.2.1)).2 = (0 : Int)) → True) ∧ (¬ (¬ (liM ((mkM c).1) ((mkM c).2.1) ((mkM c).2.2.1)).2 = (0 : Int)) → ((((liM ((mkM c).1) ((mkM c).2.1) ((mkM c).2.2.1)).1) < (0 : Int)) → True) ∧ (¬ (((liM ((mkM c).1) ((mkM c).2.1) ((mkM c).2.2.1)).1) < (0 : Int)) → (0 ≤ (((((mkM c).1).dr).length : Nat) : Int)) ∧ (inI ((1 : Int) * 2 ^ (min (((((mkM c).1).dr).length : Nat) : Int).toNat 64))) ∧ True))) ∧ ((((¬ (liM ((mkM c).1) ((mkM c).2.1) ((mkM c).2.2.1)).2 = (0 : Int)) ∨ ((((liM ((mkM c).1) ((mkM c).2.1) ((mkM c).2.2.1)).1) < (0 : Int)) ∨ (((1 : Int) * 2 ^ (min (((((mkM c).1).dr).length : Nat) : Int).toNat 64)) ≤ ((liM ((mkM c).1) ((mkM c).2.1) ((mkM c).2.2.1)).1)))) → Post false) ∧ (¬ ((¬ (liM ((mkM c).1) ((mkM c).2.1) ((mkM c).2.2.1)).2 = (0 : Int)) ∨ ((((liM ((mkM c).1) ((mkM c).2.1) ((mkM c).2.2.1)).1) < (0 : Int)) ∨ (((1 : Int) * 2 ^ (min (((((mkM c).1).dr).length : Nat) : Int).toNat 64)) ≤ ((liM ((mkM c).1) ((mkM c).2.1) ((mkM c).2.2.1)).1)))) → ∃ (I1 : Int → Prop) (μ1 : Int → Nat), I1 (0 : Int) ∧ ∀ (v10 : Int), I1 v10 → ((v10 < (((((mkM c).1).dr).length : Nat) : Int)) → ∃ (I2 : Bool → Int → Prop) (μ2 : Bool → Int → Nat), I2 false (0 : Int) ∧ ∀ (v11 : Bool) (v12 : Int), I2 v11 v12 → (0 ≤ (((((mkM c).1).dr).length : Nat) : Int)) ∧ (inI ((1 : Int) * 2 ^ (min (((((mkM c).1).dr).length : Nat) : Int).toNat 64))) ∧ ((v12 < ((1 : Int) * 2 ^ (min (((((mkM c).1).dr).length : Nat) : Int).toNat 64))) → ∃ J3 : Bool → Prop, (∀ (v11_1 : Bool), J3 v11_1 → (inI (v12 + (1 : Int))) ∧ (I2 v11_1 (v12 + (1 : Int)) ∧ μ2 v11_1 (v12 + (1 : Int)) < μ2 v11 v12)) ∧ (((0 ≤ v10) ∧ (((v12.fdiv (2 ^ (min v10.toNat 64))).tmod (2 : Int) = (0 : Int)) → True) ∧ (¬ ((v12.fdiv (2 ^ (min v10.toNat 64))).tmod (2 : Int) = (0 : Int)) → (inI ((((((mkM c).1).dr).length : Nat) : Int) - (((mkM c).1).li))) ∧ (0 ≤ v12 ∧ v12 < 64) ∧ True)) ∧ (((((v12.fdiv (2 ^ (min v10.toNat 64))).tmod (2 : Int) = (0 : Int)) ∨ ((pcM v12) < ((((((mkM c).1).dr).length : Nat) : Int) - (((mkM c).1).li)))) → J3 v11) ∧ (¬ (((v12.fdiv (2 ^ (min v10.toNat 64))).tmod (2 : Int) = (0 : Int)) ∨ ((pcM v12) < ((((((mkM c).1).dr).length : Nat) : Int) - (((mkM c).1).li)))) → (((mkM c).2.2.1).length ≤ 1073741824) ∧ ((partM ((mkM c).2.2.1) v12).length ≤ 1073741824) ∧ J3 (decide ((v11 = true) ∨ ((closeM ((mkM c).2.1) (partM ((mkM c).2.2.1) v12)).2.2 = (0 : Int)))))))) ∧ (¬ (v12 < ((1 : Int) * 2 ^ (min (((((mkM c).1).dr).length : Nat) : Int).toNat 64))) → (0 ≤ v10) ∧ ((v11 = (decide ((((liM ((mkM c).1) ((mkM c).2.1) ((mkM c).2.2.1)).1).fdiv (2 ^ (min v10.toNat 64))).tmod (2 : Int) = (1 : Int)))) → Post false) ∧ (¬ (v11 = (decide ((((liM ((mkM c).1) ((mkM c).2.1) ((mkM c).2.2.1)).1).fdiv (2 ^ (min v10.toNat 64))).tmod (2 : Int) = (1 : Int)))) → (inI (v10 + (1 : Int))) ∧ (I1 (v10 + (1 : Int)) ∧ μ1 (v10 + (1 : Int)) < μ1 v10)))) ∧ (¬ (v10 < (((((mkM c).1).dr).length : Nat) : Int)) → Post true)))
set_option maxRecDepth 100000 in
set_option maxHeartbeats 4000000 in
theorem walk_bExposed {c : Cas} {Post : Bool → Prop} (hv : vc_bExposed c Post) : FnP Try.prog 8 [.agg ((e25 true) c)] (fun x => ∃ q0, x = .bool q0 ∧ Post q0) := by
 refine FnP.of_walk (T := tt) (nt := 99) ttOk ttMix ⟨⟨Try.f8, Try.func8, rfl, rfl, rfl, rfl⟩⟩ (by simp) ?_
 unfold vc_bExposed at hv
 change W _ _ _ ⟨99, look [(0, .agg [.int .i64 c.fl, .int .i64 c.n, .lst true c.x.length (encL e29 c.x), .lst true c.tr.length (encL eInt c.tr), .int .i64 c.ho])], [], 0⟩ _
 refine W.tr [(0, .agg _)] [] ⟨rfl, trivial⟩ rfl ?_
 refine W.rL ?_
 refine cL rfl (o_box (v := .agg _) (p := 0) rfl rfl rfl ?_)
 refine aB rfl rfl ?_
 refine eL ?_
 refine W.tr [(1, .ptr _ _)] [.box _ [.int _ _, .int _ _, .lst _ _ _, .lst _ _ _, .int _ _]] ⟨rfl, trivial⟩ rfl ?_
 refine W.seq' ?_
 refine W.rL ?_
 refine cL rfl (o_callP1 (k := 10) (fst := []) (caps := []) (ys := []) rfl rfl (spec_bsane) (Wks.refl _) ?_)
 refine cL rfl (o_notB rfl ?_)
 refine eL ?_
 refine W.tr [(1, .ptr _ _), (17, .bool _)] [.box _ [.int _ _, .int _ _, .lst _ _ _, .lst _ _ _, .int _ _]] ⟨rfl, rfl, trivial⟩ rfl ?_
 refine W.cF rfl ?_
 refine W.skip ?_
 refine th_nrm ?_
 refine W.tr [(1, .ptr _ _)] [.box _ [.int _ _, .int _ _, .lst _ _ _, .lst _ _ _, .int _ _]] ⟨rfl, trivial⟩ rfl ?_
 refine W.rL ?_
 refine cL rfl (o_ldA (cs := [.int _ _, .int _ _, .lst _ _ _, .lst _ _ _, .int _ _]) tt25 rfl rfl ⟨_, rfl⟩ rfl ?_)
 obtain ⟨s1, hv⟩ := hv
 refine cL rfl (o_callP1 (k := 11) (fst := []) (caps := []) (ys := [.agg _]) rfl rfl (spec_mk c s1) (Wks.cons (ag_agg 5 _ (Wks.cons (ag_int _ _ _ _) (Wks.cons (ag_int _ _ _ _) (Wks.cons (ag_lst _ _ _ _ _) (Wks.cons (ag_lst _ _ _ _ _) (Wks.cons (ag_int _ _ _ _) (Wks.refl _))))))) (Wks.refl _)) ?_)
 refine cL rfl (o_move (v := .tup _) rfl ?_)
 refine cL rfl (o_ext (v := .agg _) rfl rfl ?_)
 refine cL rfl (o_ext (v := .int _ _) rfl rfl ?_)
 iterate 2 refine cL rfl (o_ext (v := .lst _ _ _) rfl rfl ?_)
 refine cL rfl (o_ext (v := .int _ _) rfl rfl ?_)
 refine cL rfl (o_alloc (p := 1) tt27 rfl rfl ?_)
 refine cLn (o_stB (v := .agg _) (vs := [.lst _ _ _, .int _ _, .int _ _, .lst _ _ _, .lst _ _ _]) (cs2 := [.lst _ _ _, .int _ _, .int _ _, .lst _ _ _, .lst _ _ _]) tt27 rfl rfl rfl rfl rfl (Nat.le_of_ble_eq_true rfl) rfl ?_)
 refine aI rfl rfl ?_
 iterate 2 refine aL rfl rfl ?_
 refine aI rfl rfl ?_
 refine eL ?_
 refine W.tr [(3, .ptr _ _), (4, .int _ _), (5, .lst _ _ _)] [.box _ [.int _ _, .int _ _, .lst _ _ _, .lst _ _ _, .int _ _], .box _ [.lst _ _ _, .int _ _, .int _ _, .lst _ _ _, .lst _ _ _]] ⟨rfl, rfl, rfl, trivial⟩ rfl ?_
 refine W.rL ?_
 refine cL rfl (o_ldA (cs := [.lst _ _ _, .int _ _, .int _ _, .lst _ _ _, .lst _ _ _]) tt27 rfl rfl ⟨_, rfl⟩ rfl ?_)
 refine mI rfl rfl ?_
 refine mL rfl rfl ?_
 obtain ⟨s2, s3, s4, s5, hv⟩ := hv
 refine cL rfl (o_callP1 (k := 15) (fst := []) (caps := []) (ys := [.agg _, .int _ _, .lst _ _ _]) rfl rfl (spec_liars ((mkM c).1) ((mkM c).2.1) ((mkM c).2.2.1) s2 s3 s4 s5) (Wks.cons (ag_agg 5 _ (Wks.cons (ag_lst _ _ _ _ _) (Wks.cons (ag_int _ _ _ _) (Wks.cons (ag_int _ _ _ _) (Wks.cons (ag_lst _ _ _ _ _) (Wks.cons (ag_lst _ _ _ _ _) (Wks.refl _))))))) (Wks.cons (ag_int _ _ _ _) (Wks.cons (ag_lst _ _ _ _ _) (Wks.refl _)))) ?_)
 refine cL rfl (o_move (v := .tup _) rfl ?_)
 iterate 2 refine cL rfl (o_ext (v := .int _ _) rfl rfl ?_)
 iterate 2 refine aI rfl rfl ?_
 refine eL ?_
 refine W.tr [(3, .ptr _ _), (4, .int _ _), (5, .lst _ _ _), (8, .int _ _), (9, .int _ _)] [.box _ [.int _ _, .int _ _, .lst _ _ _, .lst _ _ _, .int _ _], .box _ [.lst _ _ _, .int _ _, .int _ _, .lst _ _ _, .lst _ _ _]] ⟨rfl, rfl, rfl, rfl, rfl, trivial⟩ rfl ?_
 refine W.seq' ?_
 obtain ⟨sd, hv⟩ := hv
 refine W.rLm ⟨99, look [(3, .ptr 1 0), (4, .int .i64 ((mkM c).2.1)), (5, .lst false ((mkM c).2.2.1).length (encL e66 ((mkM c).2.2.1))), (8, .int .i64 ((liM ((mkM c).1) ((mkM c).2.1) ((mkM c).2.2.1)).1)), (46, .bool (decide ((¬ (liM ((mkM c).1) ((mkM c).2.1) ((mkM c).2.2.1)).2 = (0 : Int)) ∨ ((((liM ((mkM c).1) ((mkM c).2.1) ((mkM c).2.2.1)).1) < (0 : Int)) ∨ (((1 : Int) * 2 ^ (min (((((mkM c).1).dr).length : Nat) : Int).toNat 64)) ≤ ((liM ((mkM c).1) ((mkM c).2.1) ((mkM c).2.2.1)).1))))))], [.box 25 [.int .i64 c.fl, .int .i64 c.n, .lst true c.x.length (encL e29 c.x), .lst true c.tr.length (encL eInt c.tr), .int .i64 c.ho], .box 27 [.lst false (((mkM c).1).dr).length (encL eInt (((mkM c).1).dr)), .int .i64 (((mkM c).1).la), .int .i64 (((mkM c).1).li), .lst false (((mkM c).1).sv).length (encL eInt (((mkM c).1).sv)), .lst false (((mkM c).1).tm).length (encL eInt (((mkM c).1).tm))]], 0⟩ ?_ ?_
 refine mI rfl rfl ?_
 refine cL rfl (o_neI rfl rfl rfl ?_)
 refine mB rfl rfl ?_
 by_cases c1 : ¬ (liM ((mkM c).1) ((mkM c).2.1) ((mkM c).2.2.1)).2 = (0 : Int)
 iterate 2 refine cLs rfl rfl rfl (decide_eq_true c1) ?_
 refine cL rfl (o_pickT (v := .bool _) rfl (decide_eq_true c1) rfl ?_)
 refine mB rfl rfl ?_
 iterate 6 refine cLs rfl rfl rfl (rfl) ?_
 refine cL rfl (o_pickT (v := .bool _) rfl rfl rfl ?_)
 refine eL ?_
 exact le_mk ⟨rfl, rfl, rfl, rfl, (congrArg AV.bool (dOrT c1)).symm, trivial⟩ rfl
 have sd := sd.2 c1
 refine cLg rfl rfl (decide_eq_false c1) ?_
 refine mI rfl rfl ?_
 refine cLg rfl rfl (decide_eq_false c1) ?_
 refine cL rfl (o_lss rfl rfl ?_)
 refine cL rfl (o_pickF (v := .bool _) rfl (decide_eq_false c1) rfl ?_)
 refine mB rfl rfl ?_
 by_cases c2 : ((liM ((mkM c).1) ((mkM c).2.1) ((mkM c).2.2.1)).1) < (0 : Int)
 iterate 6 refine cLs rfl rfl rfl (decide_eq_true c2) ?_
 refine cL rfl (o_pickT (v := .bool _) rfl (decide_eq_true c2) rfl ?_)
 refine eL ?_
 exact le_mk ⟨rfl, rfl, rfl, rfl, (congrArg AV.bool (dOrF c1 (dOrT c2))).symm, trivial⟩ rfl
 have sd := sd.2 c2
 refine cLg rfl rfl (decide_eq_false c2) ?_
 refine mI rfl rfl ?_
 refine cLg rfl rfl (decide_eq_false c2) ?_
 refine cL rfl (o_fa tt27 rfl tt23 rfl ?_)
 refine cLg rfl rfl (decide_eq_false c2) ?_
 refine cL rfl (o_ldS (v := .lst _ _ _) tt23 rfl rfl ⟨_, rfl⟩ ?_)
 refine cLg rfl rfl (decide_eq_false c2) ?_
 refine cL rfl (o_len (v := .lst _ _ _) tt23 rfl rfl ?_)
 refine cLg rfl rfl (decide_eq_false c2) ?_
 obtain ⟨s12, s13, sd⟩ := sd
 refine cL rfl (o_shl rfl rfl s12 s13 ?_)
 refine cLg rfl rfl (decide_eq_false c2) ?_
 refine cL rfl (o_geq rfl rfl ?_)
 refine cL rfl (o_pickF (v := .bool _) rfl (decide_eq_false c2) rfl ?_)
 refine eL ?_
 exact le_mk ⟨rfl, rfl, rfl, rfl, (congrArg AV.bool (dOrF c1 (dOrF c2 (rfl)))).symm, trivial⟩ rfl
 refine W.cn rfl (fun hc => ?_) (fun hc => ?_)
 have hv := hv.1 hc
 refine W.rL ?_
 refine aB rfl rfl ?_
 refine eL ?_
 refine W.tr [(2, .bool _)] [.box _ [.int _ _, .int _ _, .lst _ _ _, .lst _ _ _, .int _ _], .box _ [.lst _ _ _, .int _ _, .int _ _, .lst _ _ _, .lst _ _ _]] ⟨rfl, trivial⟩ rfl ?_
 refine W.ret ?_
 refine th_ret (rt ?_)
 refine rt_t (v := .bool _) rfl ?_
 refine rt_n ?_
 exact ⟨_, rs_bool _ _ _, false, rfl, hv⟩
 have hv := hv.2 hc
 refine W.skip ?_
 refine th_nrm ?_
 refine W.tr [(3, .ptr _ _), (4, .int _ _), (5, .lst _ _ _), (8, .int _ _)] [.box _ [.int _ _, .int _ _, .lst _ _ _, .lst _ _ _, .int _ _], .box _ [.lst _ _ _, .int _ _, .int _ _, .lst _ _ _, .lst _ _ _]] ⟨rfl, rfl, rfl, rfl, trivial⟩ rfl ?_
 refine W.seq' ?_
 refine W.rL ?_
 refine aI rfl rfl ?_
 refine eL ?_
 refine W.tr [(3, .ptr _ _), (4, .int _ _), (5, .lst _ _ _), (8, .int _ _), (10, .int _ _)] [.box _ [.int _ _, .int _ _, .lst _ _ _, .lst _ _ _, .int _ _], .box _ [.lst _ _ _, .int _ _, .int _ _, .lst _ _ _, .lst _ _ _]] ⟨rfl, rfl, rfl, rfl, rfl, trivial⟩ rfl ?_
 refine W.block ?_
 obtain ⟨I1, μ1, hp, hv⟩ := hv
 refine W.loop1 (fun v10 => ⟨99, look [(3, .ptr 1 0), (4, .int .i64 ((mkM c).2.1)), (5, .lst false ((mkM c).2.2.1).length (encL e66 ((mkM c).2.2.1))), (8, .int .i64 ((liM ((mkM c).1) ((mkM c).2.1) ((mkM c).2.2.1)).1)), (10, .int .i64 v10)], [.dead, .box 27 [.lst false (((mkM c).1).dr).length (encL eInt (((mkM c).1).dr)), .int .i64 (((mkM c).1).la), .int .i64 (((mkM c).1).li), .lst false (((mkM c).1).sv).length (encL eInt (((mkM c).1).sv)), .lst false (((mkM c).1).tm).length (encL eInt (((mkM c).1).tm))]], 0⟩) I1 μ1 (0 : Int) (St.to_mk (φ := [none, some 1]) rfl (rfl) ⟨Ren.ptr rfl, Ren.int _ _, Ren.lst _ _ _, Ren.int _ _, Ren.int _ _, trivial⟩ ⟨rfl, .inr ⟨_, rfl, rfl, Rens.cons (Ren.lst _ _ _) (Rens.cons (Ren.int _ _) (Rens.cons (Ren.int _ _) (Rens.cons (Ren.lst _ _ _) (Rens.cons (Ren.lst _ _ _) (Rens.nil)))))⟩, trivial⟩) hp ?_
 clear hp
 intro v10 hI
 replace hv := hv v10 hI
 clear hI
 refine W.seq' ?_
 refine W.rL ?_
 refine mI rfl rfl ?_
 refine cL rfl (o_fa tt27 rfl tt23 rfl ?_)
 refine cL rfl (o_ldS (v := .lst _ _ _) tt23 rfl rfl ⟨_, rfl⟩ ?_)
 refine cL rfl (o_len (v := .lst _ _ _) tt23 rfl rfl ?_)
 refine cL rfl (o_lss rfl rfl ?_)
 refine eL ?_
 refine W.tr [(3, .ptr _ _), (4, .int _ _), (5, .lst _ _ _), (8, .int _ _), (10, .int _ _), (51, .bool _)] [.dead, .box _ [.lst _ _ _, .int _ _, .int _ _, .lst _ _ _, .lst _ _ _]] ⟨rfl, rfl, rfl, rfl, rfl, rfl, trivial⟩ rfl ?_
 refine W.cn rfl (fun hc => ?_) (fun hc => ?_)
 have hv := hv.1 hc
 refine W.skip ?_
 refine th_nrm ?_
 refine W.tr [(3, .ptr _ _), (4, .int _ _), (5, .lst _ _ _), (8, .int _ _), (10, .int _ _)] [.dead, .box _ [.lst _ _ _, .int _ _, .int _ _, .lst _ _ _, .lst _ _ _]] ⟨rfl, rfl, rfl, rfl, rfl, trivial⟩ rfl ?_
 refine W.seq' ?_
 refine W.block ?_
 refine W.rL ?_
 refine aB rfl rfl ?_
 refine eL ?_
 refine W.tr [(3, .ptr _ _), (4, .int _ _), (5, .lst _ _ _), (8, .int _ _), (10, .int _ _), (11, .bool _)] [.dead, .box _ [.lst _ _ _, .int _ _, .int _ _, .lst _ _ _, .lst _ _ _]] ⟨rfl, rfl, rfl, rfl, rfl, rfl, trivial⟩ rfl ?_
 refine W.seq' ?_
 refine W.rL ?_
 refine aI rfl rfl ?_
 refine eL ?_
 refine W.tr [(3, .ptr _ _), (4, .int _ _), (5, .lst _ _ _), (8, .int _ _), (10, .int _ _), (11, .bool _), (12, .int _ _)] [.dead, .box _ [.lst _ _ _, .int _ _, .int _ _, .lst _ _ _, .lst _ _ _]] ⟨rfl, rfl, rfl, rfl, rfl, rfl, rfl, trivial⟩ rfl ?_
 refine W.block ?_
 obtain ⟨I2, μ2, hp, hv⟩ := hv
 refine W.loop2 (fun v11 v12 => ⟨99, look [(3, .ptr 1 0), (4, .int .i64 ((mkM c).2.1)), (5, .lst false ((mkM c).2.2.1).length (encL e66 ((mkM c).2.2.1))), (8, .int .i64 ((liM ((mkM c).1) ((mkM c).2.1) ((mkM c).2.2.1)).1)), (10, .int .i64 v10), (11, .bool v11), (12, .int .i64 v12)], [.dead, .box 27 [.lst false (((mkM c).1).dr).length (encL eInt (((mkM c).1).dr)), .int .i64 (((mkM c).1).la), .int .i64 (((mkM c).1).li), .lst false (((mkM c).1).sv).length (encL eInt (((mkM c).1).sv)), .lst false (((mkM c).1).tm).length (encL eInt (((mkM c).1).tm))]], 0⟩) I2 μ2 false (0 : Int) (St.to_mk (φ := [none, some 1]) rfl (rfl) ⟨Ren.ptr rfl, Ren.int _ _, Ren.lst _ _ _, Ren.int _ _, Ren.int _ _, Ren.bool _, Ren.int _ _, trivial⟩ ⟨rfl, .inr ⟨_, rfl, rfl, Rens.cons (Ren.lst _ _ _) (Rens.cons (Ren.int _ _) (Rens.cons (Ren.int _ _) (Rens.cons (Ren.lst _ _ _) (Rens.cons (Ren.lst _ _ _) (Rens.nil)))))⟩, trivial⟩) hp ?_
 clear hp
 intro v11 v12 hI
 replace hv := hv v11 v12 hI
 clear hI
 refine W.seq' ?_
 refine W.rL ?_
 refine mI rfl rfl ?_
 refine cL rfl (o_fa tt27 rfl tt23 rfl ?_)
 refine cL rfl (o_ldS (v := .lst _ _ _) tt23 rfl rfl ⟨_, rfl⟩ ?_)
 refine cL rfl (o_len (v := .lst _ _ _) tt23 rfl rfl ?_)
 obtain ⟨s1049, s1050, hv⟩ := hv
 refine cL rfl (o_shl rfl rfl s1049 s1050 ?_)
 refine cL rfl (o_lss rfl rfl ?_)
 refine eL ?_
 refine W.tr [(3, .ptr _ _), (4, .int _ _), (5, .lst _ _ _), (8, .int _ _), (10, .int _ _), (11, .bool _), (12, .int _ _), (59, .bool _)] [.dead, .box _ [.lst _ _ _, .int _ _, .int _ _, .lst _ _ _, .lst _ _ _]] ⟨rfl, rfl, rfl, rfl, rfl, rfl, rfl, rfl, trivial⟩ rfl ?_
 refine W.cn rfl (fun hc => ?_) (fun hc => ?_)
 have hv := hv.1 hc
 refine W.skip ?_
 refine th_nrm ?_
 refine W.tr [(3, .ptr _ _), (4, .int _ _), (5, .lst _ _ _), (8, .int _ _), (10, .int _ _), (11, .bool _), (12, .int _ _)] [.dead, .box _ [.lst _ _ _, .int _ _, .int _ _, .lst _ _ _, .lst _ _ _]] ⟨rfl, rfl, rfl, rfl, rfl, rfl, rfl, trivial⟩ rfl ?_
 obtain ⟨J3, hj, hv⟩ := hv
 refine W.mid1 (fun v11_1 => ⟨99, look [(3, .ptr 1 0), (4, .int .i64 ((mkM c).2.1)), (5, .lst false ((mkM c).2.2.1).length (encL e66 ((mkM c).2.2.1))), (8, .int .i64 ((liM ((mkM c).1) ((mkM c).2.1) ((mkM c).2.2.1)).1)), (10, .int .i64 v10), (11, .bool v11_1), (12, .int .i64 v12)], [.dead, .box 27 [.lst false (((mkM c).1).dr).length (encL eInt (((mkM c).1).dr)), .int .i64 (((mkM c).1).la), .int .i64 (((mkM c).1).li), .lst false (((mkM c).1).sv).length (encL eInt (((mkM c).1).sv)), .lst false (((mkM c).1).tm).length (encL eInt (((mkM c).1).tm))]], 0⟩) J3 ?_ ?_
 intro v11_1
 intro hv
 replace hv := hj v11_1 hv
 refine W.rL1 ?_
 refine mI rfl rfl ?_
 obtain ⟨s1065, hv⟩ := hv
 refine cL rfl (o_add rfl rfl s1065 ?_)
 refine aI rfl rfl ?_
 refine eL ?_
 exact th_nrm (⟨(), v11_1, (v12 + (1 : Int)), hv, St.to_mk (φ := [none, some 1]) rfl (rfl) ⟨Ren.ptr rfl, Ren.int _ _, Ren.lst _ _ _, Ren.int _ _, Ren.int _ _, Ren.bool _, Ren.int _ _, trivial⟩ ⟨rfl, .inr ⟨_, rfl, rfl, Rens.cons (Ren.lst _ _ _) (Rens.cons (Ren.int _ _) (Rens.cons (Ren.int _ _) (Rens.cons (Ren.lst _ _ _) (Rens.cons (Ren.lst _ _ _) (Rens.nil)))))⟩, trivial⟩⟩)
 clear hj
 refine W.block ?_
 refine W.seq' ?_
 obtain ⟨sd, hv⟩ := hv
 refine W.rPm ⟨99, look [(3, .ptr 1 0), (4, .int .i64 ((mkM c).2.1)), (5, .lst false ((mkM c).2.2.1).length (encL e66 ((mkM c).2.2.1))), (8, .int .i64 ((liM ((mkM c).1) ((mkM c).2.1) ((mkM c).2.2.1)).1)), (10, .int .i64 v10), (11, .bool v11), (12, .int .i64 v12), (77, .bool (decide (((v12.fdiv (2 ^ (min v10.toNat 64))).tmod (2 : Int) = (0 : Int)) ∨ ((pcM v12) < ((((((mkM c).1).dr).length : Nat) : Int) - (((mkM c).1).li))))))], [.dead, .box 27 [.lst false (((mkM c).1).dr).length (encL eInt (((mkM c).1).dr)), .int .i64 (((mkM c).1).la), .int .i64 (((mkM c).1).li), .lst false (((mkM c).1).sv).length (encL eInt (((mkM c).1).sv)), .lst false (((mkM c).1).tm).length (encL eInt (((mkM c).1).tm))]], 0⟩ [0, 1, 2, 3, 4, 5, 6, 8, 9, 10, 11, 12, 13, 7, 14, 15] (by decide +kernel) rfl ?_ ?_
 iterate 2 refine mI rfl rfl ?_
 obtain ⟨s1075, sd⟩ := sd
 refine cL rfl (o_shr rfl rfl s1075 ?_)
 refine cL rfl (o_rem rfl rfl (by decide) ?_)
 refine cL rfl (o_eqI rfl rfl rfl ?_)
 refine mB rfl rfl ?_
 by_cases c1 : (v12.fdiv (2 ^ (min v10.toNat 64))).tmod (2 : Int) = (0 : Int)
 iterate 9 refine cLs rfl rfl rfl (decide_eq_true c1) ?_
 refine cL rfl (o_pickT (v := .bool _) rfl (decide_eq_true c1) rfl ?_)
 refine eL ?_
 exact le_mk ⟨rfl, rfl, rfl, rfl, rfl, rfl, rfl, (congrArg AV.bool (dOrT c1)).symm, trivial⟩ rfl
 have sd := sd.2 c1
 refine cLg rfl rfl (decide_eq_false c1) ?_
 refine mI rfl rfl ?_
 refine cLg rfl rfl (decide_eq_false c1) ?_
 refine cL rfl (o_fa tt27 rfl tt23 rfl ?_)
 refine cLg rfl rfl (decide_eq_false c1) ?_
 refine cL rfl (o_ldS (v := .lst _ _ _) tt23 rfl rfl ⟨_, rfl⟩ ?_)
 refine cLg rfl rfl (decide_eq_false c1) ?_
 refine cL rfl (o_len (v := .lst _ _ _) tt23 rfl rfl ?_)
 refine cLg rfl rfl (decide_eq_false c1) ?_
 refine cL rfl (o_fa tt27 rfl tt3 rfl ?_)
 refine cLg rfl rfl (decide_eq_false c1) ?_
 refine cL rfl (o_ldS (v := .int _ _) tt3 rfl rfl ⟨_, rfl⟩ ?_)
 refine cLg rfl rfl (decide_eq_false c1) ?_
 obtain ⟨s1076, sd⟩ := sd
 refine cL rfl (o_sub rfl rfl s1076 ?_)
 refine cLg rfl rfl (decide_eq_false c1) ?_
 obtain ⟨s1077, sd⟩ := sd
 refine cL rfl (o_callP1 (k := 30) (fst := []) (caps := []) (ys := [.int _ _]) rfl rfl (spec_members v12 s1077) (Wks.cons (ag_int _ _ _ _) (Wks.refl _)) ?_)
 refine cLg rfl rfl (decide_eq_false c1) ?_
 refine cL rfl (o_lss rfl rfl ?_)
 refine cL rfl (o_pickF (v := .bool _) rfl (decide_eq_false c1) rfl ?_)
 refine eL ?_
 exact le_mk ⟨rfl, rfl, rfl, rfl, rfl, rfl, rfl, (congrArg AV.bool (dOrF c1 (rfl))).symm, trivial⟩ rfl
 refine W.cn rfl (fun hc => ?_) (fun hc => ?_)
 have hv := hv.1 hc
 refine W.exit ?_
 exact th_exit (bl_hit (th_nrm (⟨(), v11, hv, St.to_mk (φ := [none, some 1]) rfl (rfl) ⟨Ren.ptr rfl, Ren.int _ _, Ren.lst _ _ _, Ren.int _ _, Ren.int _ _, Ren.bool _, Ren.int _ _, trivial⟩ ⟨rfl, .inr ⟨_, rfl, rfl, Rens.cons (Ren.lst _ _ _) (Rens.cons (Ren.int _ _) (Rens.cons (Ren.int _ _) (Rens.cons (Ren.lst _ _ _) (Rens.cons (Ren.lst _ _ _) (Rens.nil)))))⟩, trivial⟩⟩)))
 have hv := hv.2 hc
 refine W.skip ?_
 refine th_nrm ?_
 refine W.tr [(3, .ptr _ _), (4, .int _ _), (5, .lst _ _ _), (8, .int _ _), (10, .int _ _), (11, .bool _), (12, .int _ _)] [.dead, .box _ [.lst _ _ _, .int _ _, .int _ _, .lst _ _ _, .lst _ _ _]] ⟨rfl, rfl, rfl, rfl, rfl, rfl, rfl, trivial⟩ rfl ?_
 refine W.rL ?_
 refine mI rfl rfl ?_
 refine mL rfl rfl ?_
 refine mI rfl rfl ?_
 obtain ⟨s1078, hv⟩ := hv
 refine cL rfl (o_callP1 (k := 19) (fst := []) (caps := []) (ys := [.lst _ _ _, .int _ _]) rfl rfl (spec_part ((mkM c).2.2.1) v12 s1078) (Wks.cons (ag_lst _ _ _ _ _) (Wks.cons (ag_int _ _ _ _) (Wks.refl _))) ?_)
 obtain ⟨s1079, hv⟩ := hv
 refine cL rfl (o_callP1 (k := 26) (fst := []) (caps := []) (ys := [.int _ _, .lst _ _ _]) rfl rfl (spec_close ((mkM c).2.1) (partM ((mkM c).2.2.1) v12) s1079) (Wks.cons (ag_int _ _ _ _) (Wks.cons (ag_lst _ _ _ _ _) (Wks.refl _))) ?_)
 refine cL rfl (o_move (v := .tup _) rfl ?_)
 refine cL rfl (o_ext (v := .agg _) rfl rfl ?_)
 refine cL rfl (o_ext (v := .lst _ _ _) rfl rfl ?_)
 refine cL rfl (o_ext (v := .int _ _) rfl rfl ?_)
 refine cL rfl (o_alloc (p := 2) tt53 rfl rfl ?_)
 refine cLn (o_stB (v := .agg _) (vs := [.int _ _, .lst _ _ _]) (cs2 := [.int _ _, .lst _ _ _]) tt53 rfl rfl rfl rfl rfl (Nat.le_of_ble_eq_true rfl) rfl ?_)
 refine aL rfl rfl ?_
 refine aI rfl rfl ?_
 refine eL ?_
 refine W.tr [(3, .ptr _ _), (4, .int _ _), (5, .lst _ _ _), (8, .int _ _), (10, .int _ _), (11, .bool _), (12, .int _ _), (15, .int _ _)] [.dead, .box _ [.lst _ _ _, .int _ _, .int _ _, .lst _ _ _, .lst _ _ _], .box _ [.int _ _, .lst _ _ _]] ⟨rfl, rfl, rfl, rfl, rfl, rfl, rfl, rfl, trivial⟩ rfl ?_
 refine W.rLm1 ⟨99, look [(3, .ptr 1 0), (4, .int .i64 ((mkM c).2.1)), (5, .lst false ((mkM c).2.2.1).length (encL e66 ((mkM c).2.2.1))), (8, .int .i64 ((liM ((mkM c).1) ((mkM c).2.1) ((mkM c).2.2.1)).1)), (10, .int .i64 v10), (11, .bool (decide ((v11 = true) ∨ ((closeM ((mkM c).2.1) (partM ((mkM c).2.2.1) v12)).2.2 = (0 : Int))))), (12, .int .i64 v12)], [.dead, .box 27 [.lst false (((mkM c).1).dr).length (encL eInt (((mkM c).1).dr)), .int .i64 (((mkM c).1).la), .int .i64 (((mkM c).1).li), .lst false (((mkM c).1).sv).length (encL eInt (((mkM c).1).sv)), .lst false (((mkM c).1).tm).length (encL eInt (((mkM c).1).tm))], .box 53 [.int .i64 (((closeM ((mkM c).2.1) (partM ((mkM c).2.2.1) v12)).1).n), .lst false (((closeM ((mkM c).2.1) (partM ((mkM c).2.2.1) v12)).1).most).length (encL (eSl eInt true) (((closeM ((mkM c).2.1) (partM ((mkM c).2.2.1) v12)).1).most))]], 0⟩ (fun s hl ⟨u, x0, h1, h2⟩ => ⟨u, x0, h1, St.le_to hl h2⟩) ?_ ?_
 iterate 2 refine mB rfl rfl ?_
 by_cases c1 : v11 = true
 iterate 2 refine cLs rfl rfl rfl (c1) ?_
 refine cL rfl (o_pickT (v := .bool _) rfl c1 rfl ?_)
 refine aB rfl rfl ?_
 refine eL ?_
 exact le_mk ⟨rfl, rfl, rfl, rfl, rfl, (congrArg AV.bool (dOrT c1)).symm, rfl, trivial⟩ rfl
 refine cLg rfl rfl ((Bool.eq_false_iff.2 c1)) ?_
 refine mI rfl rfl ?_
 refine cLg rfl rfl ((Bool.eq_false_iff.2 c1)) ?_
 refine cL rfl (o_eqI rfl rfl rfl ?_)
 refine cL rfl (o_pickF (v := .bool _) rfl (Bool.eq_false_iff.2 c1) rfl ?_)
 refine aB rfl rfl ?_
 refine eL ?_
 exact le_mk ⟨rfl, rfl, rfl, rfl, rfl, (congrArg AV.bool (dOrF c1 (rfl))).symm, rfl, trivial⟩ rfl
 exact bl_nrm (th_nrm (⟨(), (decide ((v11 = true) ∨ ((closeM ((mkM c).2.1) (partM ((mkM c).2.2.1) v12)).2.2 = (0 : Int)))), hv, St.to_mk (φ := [none, some 1]) rfl (rfl) ⟨Ren.ptr rfl, Ren.int _ _, Ren.lst _ _ _, Ren.int _ _, Ren.int _ _, Ren.bool _, Ren.int _ _, trivial⟩ ⟨rfl, .inr ⟨_, rfl, rfl, Rens.cons (Ren.lst _ _ _) (Rens.cons (Ren.int _ _) (Rens.cons (Ren.int _ _) (Rens.cons (Ren.lst _ _ _) (Rens.cons (Ren.lst _ _ _) (Rens.nil)))))⟩, trivial⟩⟩))
 have hv := hv.2 hc
 refine W.exit ?_
 refine th_exit (th_exit (bl_hit (th_nrm ?_)))
 refine W.tr [(3, .ptr _ _), (4, .int _ _), (5, .lst _ _ _), (8, .int _ _), (10, .int _ _), (11, .bool _)] [.dead, .box _ [.lst _ _ _, .int _ _, .int _ _, .lst _ _ _, .lst _ _ _]] ⟨rfl, rfl, rfl, rfl, rfl, rfl, trivial⟩ rfl ?_
 refine W.rL ?_
 refine mB rfl rfl ?_
 iterate 2 refine mI rfl rfl ?_
 obtain ⟨s1080, hv⟩ := hv
 refine cL rfl (o_shr rfl rfl s1080 ?_)
 refine cL rfl (o_rem rfl rfl (by decide) ?_)
 refine cL rfl (o_eqI rfl rfl rfl ?_)
 refine cL rfl (o_eqB rfl tt4 rfl rfl ?_)
 refine eL ?_
 refine W.tr [(3, .ptr _ _), (4, .int _ _), (5, .lst _ _ _), (8, .int _ _), (10, .int _ _), (98, .bool _)] [.dead, .box _ [.lst _ _ _, .int _ _, .int _ _, .lst _ _ _, .lst _ _ _]] ⟨rfl, rfl, rfl, rfl, rfl, rfl, trivial⟩ rfl ?_
 refine W.cn rfl (fun hc => ?_) (fun hc => ?_)
 have hv := hv.1 hc
 refine W.rL ?_
 refine aB rfl rfl ?_
 refine eL ?_
 refine W.tr [(2, .bool _)] [.dead, .box _ [.lst _ _ _, .int _ _, .int _ _, .lst _ _ _, .lst _ _ _]] ⟨rfl, trivial⟩ rfl ?_
 refine W.ret ?_
 refine bl_ret (th_ret (th_ret (bl_ret (th_ret (rt ?_)))))
 refine rt_t (v := .bool _) rfl ?_
 refine rt_n ?_
 exact ⟨_, rs_bool _ _ _, false, rfl, hv⟩
 have hv := hv.2 hc
 refine W.skip ?_
 refine bl_nrm (th_nrm ?_)
 refine W.tr [(3, .ptr _ _), (4, .int _ _), (5, .lst _ _ _), (8, .int _ _), (10, .int _ _)] [.dead, .box _ [.lst _ _ _, .int _ _, .int _ _, .lst _ _ _, .lst _ _ _]] ⟨rfl, rfl, rfl, rfl, rfl, trivial⟩ rfl ?_
 refine W.rL1 ?_
 refine mI rfl rfl ?_
 obtain ⟨s1081, hv⟩ := hv
 refine cL rfl (o_add rfl rfl s1081 ?_)
 refine aI rfl rfl ?_
 refine eL ?_
 exact th_nrm (⟨(), (v10 + (1 : Int)), hv, St.to_mk (φ := [none, some 1]) rfl (rfl) ⟨Ren.ptr rfl, Ren.int _ _, Ren.lst _ _ _, Ren.int _ _, Ren.int _ _, trivial⟩ ⟨rfl, .inr ⟨_, rfl, rfl, Rens.cons (Ren.lst _ _ _) (Rens.cons (Ren.int _ _) (Rens.cons (Ren.int _ _) (Rens.cons (Ren.lst _ _ _) (Rens.cons (Ren.lst _ _ _) (Rens.nil)))))⟩, trivial⟩⟩)
 have hv := hv.2 hc
 refine W.exit ?_
 refine th_exit (th_exit (bl_hit (th_nrm ?_)))
 refine W.tr [] [.dead, .box _ [.lst _ _ _, .int _ _, .int _ _, .lst _ _ _, .lst _ _ _]] trivial rfl ?_
 refine W.rL ?_
 refine aB rfl rfl ?_
 refine eL ?_
 refine W.tr [(2, .bool _)] [.dead, .box _ [.lst _ _ _, .int _ _, .int _ _, .lst _ _ _, .lst _ _ _]] ⟨rfl, trivial⟩ rfl ?_
 refine W.ret ?_
 refine rt ?_
 refine rt_t (v := .bool _) rfl ?_
 refine rt_n ?_
 exact ⟨_, rs_bool _ _ _, true, rfl, hv⟩
theorem vcp_bExposed (c : Cas) (h0 : CasOk c) : vc_bExposed c (fun q0 => q0 = (true)) := by
  unfold vc_bExposed
  obtain ⟨ho, eho, hl24, hF, hn6, hB⟩ := mk_bel c
  generalize mkM c = p at *
  obtain ⟨F, N, L, TR, HO⟩ := p
  dsimp only at *
  obtain ⟨q1, q2, q3⟩ := hF.lens
  have hno := hB.no
  have hli := hB.fo.li
  have h5 := hB.five
  have hkk := kk_eq hB.fo
  have h32 := pow_le32 hB.five
  obtain ⟨z, ez, hz, hzb⟩ := hB.exposed
  rw [ez, pow_eq hB.fo.len.2]
  have hle : L.length ≤ 1073741824 := by omega
  have hpl : ∀ s : Int, (partM L s).length ≤ 1073741824 := fun s => Nat.le_trans partM_len hle
  obtain ⟨M, hM⟩ : ∃ M : Nat, 2 ^ F.dr.length = M := ⟨_, rfl⟩
  have hM32 : M ≤ 32 := by omega
  have hzM : z < M := by omega
  have hbM : ∀ a, a < F.dr.length → (bt z a = true ↔ ∀ x : Nat, x < M → bt x a = true → kk F ≤ pcN x → ¬ (closeM N (partM L x)).2.2 = 0) := fun a ha => by rw [hzb a ha, hM]
  rw [hM]
  clear hzb hz
  refine ⟨h0, q1, q2, q3, hle, ⟨fun _ => trivial, fun _ => ⟨fun _ => trivial, fun _ => ⟨by omega, by unfold inI; omega, trivial⟩⟩⟩, fun h => ?_, fun _ => ⟨fun v => ∃ a : Nat, v = a ∧ a ≤ F.dr.length, fun v => F.dr.length - v.toNat, ⟨0, rfl, by omega⟩, ?_⟩⟩
  · exfalso
    dsimp only at h
    rcases h with h | h | h
    · exact h rfl
    · omega
    · omega
  · rintro _ ⟨a, rfl, ha⟩
    refine ⟨fun h1 => ?_, fun _ => rfl⟩
    have halt : a < F.dr.length := by omega
    refine ⟨fun b v => ∃ x : Nat, v = x ∧ x ≤ M ∧ (b = true ↔ ∃ y, y < x ∧ bt y a = true ∧ kk F ≤ pcN y ∧ (closeM N (partM L y)).2.2 = 0), fun _ v => M - v.toNat, ⟨0, rfl, by omega, by simp⟩, ?_⟩
    rintro b _ ⟨x, rfl, hx, hb⟩
    refine ⟨by omega, by unfold inI; omega, fun h2 => ?_, fun h2 => ⟨by omega, fun h3 => ?_, fun h3 => ⟨by unfold inI; omega, ⟨a + 1, by omega, by omega⟩, by dsimp only; omega⟩⟩⟩
    · have hxlt : x < M := by omega
      have hx64 : x < 64 := by omega
      rw [bit_int hx64 (by omega), pcM_nat hx64]
      refine ⟨fun b' => (b' = true ↔ ∃ y, y < x + 1 ∧ bt y a = true ∧ kk F ≤ pcN y ∧ (closeM N (partM L y)).2.2 = 0), ?_, ⟨by omega, fun _ => trivial, fun _ => ⟨by unfold inI; omega, by omega, trivial⟩⟩, fun h4 => ?_, fun h4 => ⟨hle, hpl _, ?_⟩⟩
      · intro b' hb'
        exact ⟨by unfold inI; omega, ⟨x + 1, by omega, by omega, hb'⟩, by dsimp only; omega⟩
      · dsimp only
        rw [hb]
        constructor
        · rintro ⟨y, k1, k2⟩; exact ⟨y, by omega, k2⟩
        · rintro ⟨y, k1, k2, k3, k4⟩
          refine ⟨y, ?_, k2, k3, k4⟩
          rcases Nat.lt_or_ge y x with h | h
          · exact h
          · exfalso
            have : y = x := by omega
            subst this
            rw [if_pos k2] at h4
            rcases h4 with h4 | h4
            · cases h4
            · omega
      · have k2 : bt x a = true := by
          cases hq : bt x a
          · exact absurd (.inl (by rw [hq]; rfl)) h4
          · rfl
        have k3 : kk F ≤ pcN x := by
          have : ¬ ((pcN x : Nat) : Int) < ((F.dr.length : Nat) : Int) - F.li := fun e => h4 (.inr e)
          omega
        dsimp only
        rw [decide_eq_true_eq, hb]
        constructor
        · rintro (⟨y, k1, k4⟩ | k4)
          · exact ⟨y, by omega, k4⟩
          · exact ⟨x, by omega, k2, k3, k4⟩
        · rintro ⟨y, k1, k4, k5, k6⟩
          rcases Nat.lt_or_ge y x with h | h
          · exact .inl ⟨y, h, k4, k5, k6⟩
          · have : y = x := by omega
            subst this
            exact .inr k6
    · exfalso
      have hxM : x = M := by omega
      subst hxM
      rw [bit_int (by omega) (by omega)] at h3
      have hz' := hbM a halt
      by_cases hq : bt z a = true
      · rw [if_pos hq] at h3
        have hbt : b = true := by rw [h3]; rfl
        obtain ⟨y, k1, k2, k3, k4⟩ := hb.1 hbt
        exact hz'.1 hq y k1 k2 k3 k4
      · rw [if_neg hq] at h3
        have hbf : b = false := by rw [h3]; rfl
        refine hq (hz'.2 fun y k1 k2 k3 k4 => ?_)
        have := hb.2 ⟨y, k1, k2, k3, k4⟩
        rw [hbf] at this; cases this
theorem spec_bExposed (c : Cas) (h0 : CasOk c) : FnP Try.prog 8 [.agg ((e25 true) c)] (fun xR => xR = .bool (true)) :=
  (walk_bExposed (vcp_bExposed c h0)).mono (by rintro _ ⟨_, rfl, rfl⟩; rfl)
end Go.Lat
