/- The law latecomerlaw10.BeliefNarrower returns true for every input, and each argument reads afterwards as it read before. Part 11 of 12. No condition. -/
import Derived.Test.YtoaaemmchnfilaaLatD
import Derived.Test.YtoaaemmchnfilaaLatE
import Derived.Test.YtoaaemmchnfilaaLatI
import Derived.Test.YtoaaemmchnfilaaLatJ
import Derived.Test.YtoaaemmchnfilaaLatG
set_option linter.unusedVariables false
set_option linter.unusedSimpArgs false
set_option linter.unnecessarySimpa false
namespace Go.Lat
open Go.RowKit Go.Proofs
attribute [local irreducible] cvalidM bvalidM choicesM partM chM liM brangeM witM pcM inM allM inSet
attribute [local irreducible] closeM rangeM pointM addBM cycleM holdsM validBM sameM madeM pickM plusM validM possM firstM tableM longerM boundsM ofM addM freeM
def vc_bNarrower (c : Cas) (Post : Bool → Prop) : Prop :=
  (CasOk c) ∧ ((((((mkM c).2.2.1).length : Nat) : Int) = (0 : Int)) → Post true) ∧ (¬ (((((mkM c).2.2.1).length : Nat) : Int) = (0 : Int)) → (inI (((((mkM c).2.2.1).length : Nat) : Int) - (1 : Int))) ∧ (0 ≤ ((0 : Nat) : Int) ∧ ((0 : Nat) : Int) ≤ (((((mkM c).2.2.1).length : Nat) : Int) - (1 : Int)) ∧ (((((mkM c).2.2.1).length : Nat) : Int) - (1 : Int)) ≤ (((mkM c).2.2.1).length : Int)) ∧ (RgsOk ((mkM c).1) ((mkM c).2.1) (((mkM c).2.2.1).take (((((mkM c).2.2.1).length : Nat) : Int) - (1 : Int)).toNat)) ∧ (RgsOk ((mkM c).1) ((mkM c).2.1) ((mkM c).2.2.1)) ∧ (inI (((((mkM c).2.2.1).length : Nat) : Int) - (1 : Int))) ∧ (0 ≤ ((0 : Nat) : Int) ∧ ((0 : Nat) : Int) ≤ (((((mkM c).2.2.1).length : Nat) : Int) - (1 : Int)) ∧ (((((mkM c).2.2.1).length : Nat) : Int) - (1 : Int)) ≤ (((mkM c).2.2.1).length : Int)) ∧ (((mkM c).1).dr.length ≤ 1073741824) ∧ (((mkM c).1).sv.length ≤ 1073741824) ∧ (((mkM c).1).tm.length ≤ 1073741824) ∧ ((((mkM c).2.2.1).take (((((mkM c).2.2.1).length : Nat) : Int) - (1 : Int)).toNat).length ≤ 1073741824) ∧ (((mkM c).1).dr.length ≤ 1073741824) ∧ (((mkM c).1).sv.length ≤ 1073741824) ∧ (((mkM c).1).tm.length ≤ 1073741824) ∧ (((mkM c).2.2.1).length ≤ 1073741824) ∧ (((¬ (rangesM ((mkM c).1) ((mkM c).2.1) (((mkM c).2.2.1).take (((((mkM c).2.2.1).length : Nat) : Int) - (1 : Int)).toNat)).2 = (0 : Int)) ∨ ((¬ (rangesM ((mkM c).1) ((mkM c).2.1) ((mkM c).2.2.1)).2 = (0 : Int)) ∨ ((¬ (chM ((mkM c).1) ((mkM c).2.1) (((mkM c).2.2.1).take (((((mkM c).2.2.1).length : Nat) : Int) - (1 : Int)).toNat)).2 = (0 : Int)) ∨ ((¬ (chM ((mkM c).1) ((mkM c).2.1) ((mkM c).2.2.1)).2 = (0 : Int)) ∨ (¬ ((((rangesM ((mkM c).1) ((mkM c).2.1) (((mkM c).2.2.1).take (((((mkM c).2.2.1).length : Nat) : Int) - (1 : Int)).toNat)).1).length : Nat) : Int) = ((((rangesM ((mkM c).1) ((mkM c).2.1) ((mkM c).2.2.1)).1).length : Nat) : Int)))))) → Post false) ∧ (¬ ((¬ (rangesM ((mkM c).1) ((mkM c).2.1) (((mkM c).2.2.1).take (((((mkM c).2.2.1).length : Nat) : Int) - (1 : Int)).toNat)).2 = (0 : Int)) ∨ ((¬ (rangesM ((mkM c).1) ((mkM c).2.1) ((mkM c).2.2.1)).2 = (0 : Int)) ∨ ((¬ (chM ((mkM c).1) ((mkM c).2.1) (((mkM c).2.2.1).take (((((mkM c).2.2.1).length : Nat) : Int) - (1 : Int)).toNat)).2 = (0 : Int)) ∨ ((¬ (chM ((mkM c).1) ((mkM c).2.1) ((mkM c).2.2.1)).2 = (0 : Int)) ∨ (¬ ((((rangesM ((mkM c).1) ((mkM c).2.1) (((mkM c).2.2.1).take (((((mkM c).2.2.1).length : Nat) : Int) - (1 : Int)).toNat)).1).length : Nat) : Int) = ((((rangesM ((mkM c).1) ((mkM c).2.1) ((mkM c).2.2.1)).1).length : Nat) : Int)))))) → ∃ (I1 : Int → Prop) (μ1 : Int → Nat), I1 (0 : Int) ∧ ∀ (v16 : Int), I1 v16 → ((v16 < ((((rangesM ((mkM c).1) ((mkM c).2.1) ((mkM c).2.2.1)).1).length : Nat) : Int)) → (0 ≤ v16 ∧ v16 < (((rangesM ((mkM c).1) ((mkM c).2.1) (((mkM c).2.2.1).take (((((mkM c).2.2.1).length : Nat) : Int) - (1 : Int)).toNat)).1).length : Int)) ∧ (0 ≤ v16 ∧ v16 < (((rangesM ((mkM c).1) ((mkM c).2.1) ((mkM c).2.2.1)).1).length : Int)) ∧ ((¬ ((lat ((rangesM ((mkM c).1) ((mkM c).2.1) (((mkM c).2.2.1).take (((((mkM c).2.2.1).length : Nat) : Int) - (1 : Int)).toNat)).1) v16).y0 ≤ (lat ((rangesM ((mkM c).1) ((mkM c).2.1) ((mkM c).2.2.1)).1) v16).y0 ∧ (lat ((rangesM ((mkM c).1) ((mkM c).2.1) ((mkM c).2.2.1)).1) v16).y1 ≤ (lat ((rangesM ((mkM c).1) ((mkM c).2.1) (((mkM c).2.2.1).take (((((mkM c).2.2.1).length : Nat) : Int) - (1 : Int)).toNat)).1) v16).y1)) → Post false) ∧ (¬ (¬ ((lat ((rangesM ((mkM c).1) ((mkM c).2.1) (((mkM c).2.2.1).take (((((mkM c).2.2.1).length : Nat) : Int) - (1 : Int)).toNat)).1) v16).y0 ≤ (lat ((rangesM ((mkM c).1) ((mkM c).2.1) ((mkM c).2.2.1)).1) v16).y0 ∧ (lat ((rangesM ((mkM c).1) ((mkM c).2.1) ((mkM c).2.2.1)).1) v16).y1 ≤ (lat ((rangesM ((mkM c).1) ((mkM c).2.1) (((mkM c).2.2.1).take (((((mkM c).2.2.1).length : Nat) : Int) - (1 : Int)).toNat)).1) v16).y1)) → (inI (v16 + (1 : Int))) ∧ (I1 (v16 + (1 : Int)) ∧ μ1 (v16 + (1 : Int)) < μ1 v16))) ∧ (¬ (v16 < ((((rangesM ((mkM c).1) ((mkM c).2.1) ((mkM c).2.2.1)).1).length : Nat) : Int)) → ∃ (I2 : Int → Prop) (μ2 : Int → Nat), I2 (0 : Int) ∧ ∀ (v17 : Int), I2 v17 → ((v17 < ((((chM ((mkM c).1) ((mkM c).2.1) ((mkM c).2.2.1)).1).length : Nat) : Int)) → ∃ (I3 : Bool → Int → Prop) (μ3 : Bool → Int → Nat), I3 false (0 : Int) ∧ ∀ (v18 : Bool) (v19 : Int), I3 v18 v19 → ((v19 < ((((chM ((mkM c).1) ((mkM c).2.1) (((mkM c).2.2.1).take (((((mkM c).2.2.1).length : Nat) : Int) - (1 : Int)).toNat)).1).length : Nat) : Int)) → (((v18 = true) → True) ∧ (¬ (v18 = true) → (0 ≤ v19 ∧ v19 < (((chM ((mkM c).1) ((mkM c).2.1) (((mkM c).2.2.1).take (((((mkM c).2.2.1).length : Nat) : Int) - (1 : Int)).toNat)).1).length : Int)) ∧ (0 ≤ v17 ∧ v17 < (((chM ((mkM c).1) ((mkM c).2.1) ((mkM c).2.2.1)).1).length : Int)) ∧ True)) ∧ ((inI (v19 + (1 : Int))) ∧ (I3 (decide ((v18 = true) ∨ (lat ((chM ((mkM c).1) ((mkM c).2.1) (((mkM c).2.2.1).take (((((mkM c).2.2.1).length : Nat) : Int) - (1 : Int)).toNat)).1) v19 = lat ((chM ((mkM c).1) ((mkM c).2.1) ((mkM c).2.2.1)).1) v17))) (v19 + (1 : Int)) ∧ μ3 (decide ((v18 = true) ∨ (lat ((chM ((mkM c).1) ((mkM c).2.1) (((mkM c).2.2.1).take (((((mkM c).2.2.1).length : Nat) : Int) - (1 : Int)).toNat)).1) v19 = lat ((chM ((mkM c).1) ((mkM c).2.1) ((mkM c).2.2.1)).1) v17))) (v19 + (1 : Int)) < μ3 v18 v19))) ∧ (¬ (v19 < ((((chM ((mkM c).1) ((mkM c).2.1) (((mkM c).2.2.1).take (((((mkM c).2.2.1).length : Nat) : Int) - (1 : Int)).toNat)).1).length : Nat) : Int)) → ((¬ (v18 = true)) → Post false) ∧ (¬ (¬ (v18 = true)) → (inI (v17 + (1 : Int))) ∧ (I2 (v17 + (1 : Int)) ∧ μ2 (v17 + (1 : Int)) < μ2 v17)))) ∧ (¬ (v17 < ((((chM ((mkM c).1) ((mkM c).2.1) ((mkM c).2.2.1)).1).length : Nat) : Int)) → Post true))))
set_option maxRecDepth 100000 in
set_option maxHeartbeats 4000000 in
theorem walk_bNarrower {c : Cas} {Post : Bool → Prop} (hv : vc_bNarrower c Post) : FnP Try.prog 6 [.agg ((e25 true) c)] (fun x => ∃ q0, x = .bool q0 ∧ Post q0) := by
 refine FnP.of_walk (T := tt) (nt := 132) ttOk ttMix ⟨⟨Try.f6, Try.func6, rfl, rfl, rfl, rfl⟩⟩ (by simp) ?_
 unfold vc_bNarrower at hv
 change W _ _ _ ⟨132, look [(0, .agg [.int .i64 c.fl, .int .i64 c.n, .lst true c.x.length (encL e29 c.x), .lst true c.tr.length (encL eInt c.tr), .int .i64 c.ho])], [], 0⟩ _
 refine W.tr [(0, .agg _)] [] ⟨rfl, trivial⟩ rfl ?_
 refine W.rL ?_
 refine cL rfl (o_box (v := .agg _) (p := 0) rfl rfl rfl ?_)
 refine aB rfl rfl ?_
 refine eL ?_
 refine W.tr [(1, .ptr _ _)] [.box _ [.int _ _, .int _ _, .lst _ _ _, .lst _ _ _, .int _ _]] ⟨rfl, trivial⟩ rfl ?_
 refine W.seq' ?_
 refine W.rL ?_
 refine cL rfl (o_callP1 (k := 10) (fst := []) (caps := []) (ys := []) rfl rfl (spec_bsane) (Wks.refl _) ?_)
 refine cL rfl (o_notB rfl ?_)
 refine eL ?_
 refine W.tr [(1, .ptr _ _), (21, .bool _)] [.box _ [.int _ _, .int _ _, .lst _ _ _, .lst _ _ _, .int _ _]] ⟨rfl, rfl, trivial⟩ rfl ?_
 refine W.cF rfl ?_
 refine W.skip ?_
 refine th_nrm ?_
 refine W.tr [(1, .ptr _ _)] [.box _ [.int _ _, .int _ _, .lst _ _ _, .lst _ _ _, .int _ _]] ⟨rfl, trivial⟩ rfl ?_
 refine W.rL ?_
 refine cL rfl (o_ldA (cs := [.int _ _, .int _ _, .lst _ _ _, .lst _ _ _, .int _ _]) tt25 rfl rfl ⟨_, rfl⟩ rfl ?_)
 obtain ⟨s1, hv⟩ := hv
 refine cL rfl (o_callP1 (k := 11) (fst := []) (caps := []) (ys := [.agg _]) rfl rfl (spec_mk c s1) (Wks.cons (ag_agg 5 _ (Wks.cons (ag_int _ _ _ _) (Wks.cons (ag_int _ _ _ _) (Wks.cons (ag_lst _ _ _ _ _) (Wks.cons (ag_lst _ _ _ _ _) (Wks.cons (ag_int _ _ _ _) (Wks.refl _))))))) (Wks.refl _)) ?_)
 refine cL rfl (o_move (v := .tup _) rfl ?_)
 refine cL rfl (o_ext (v := .agg _) rfl rfl ?_)
 refine cL rfl (o_ext (v := .int _ _) rfl rfl ?_)
 iterate 2 refine cL rfl (o_ext (v := .lst _ _ _) rfl rfl ?_)
 refine cL rfl (o_ext (v := .int _ _) rfl rfl ?_)
 refine cL rfl (o_alloc (p := 1) tt27 rfl rfl ?_)
 refine cLn (o_stB (v := .agg _) (vs := [.lst _ _ _, .int _ _, .int _ _, .lst _ _ _, .lst _ _ _]) (cs2 := [.lst _ _ _, .int _ _, .int _ _, .lst _ _ _, .lst _ _ _]) tt27 rfl rfl rfl rfl rfl (Nat.le_of_ble_eq_true rfl) rfl ?_)
 refine aI rfl rfl ?_
 iterate 2 refine aL rfl rfl ?_
 refine aI rfl rfl ?_
 refine eL ?_
 refine W.tr [(3, .ptr _ _), (4, .int _ _), (5, .lst _ _ _)] [.box _ [.int _ _, .int _ _, .lst _ _ _, .lst _ _ _, .int _ _], .box _ [.lst _ _ _, .int _ _, .int _ _, .lst _ _ _, .lst _ _ _]] ⟨rfl, rfl, rfl, trivial⟩ rfl ?_
 refine W.seq' ?_
 refine W.rL ?_
 refine mL rfl rfl ?_
 refine cL rfl (o_len (v := .lst _ _ _) tt28 rfl rfl ?_)
 refine cL rfl (o_eqI rfl rfl rfl ?_)
 refine eL ?_
 refine W.tr [(3, .ptr _ _), (4, .int _ _), (5, .lst _ _ _), (32, .bool _)] [.box _ [.int _ _, .int _ _, .lst _ _ _, .lst _ _ _, .int _ _], .box _ [.lst _ _ _, .int _ _, .int _ _, .lst _ _ _, .lst _ _ _]] ⟨rfl, rfl, rfl, rfl, trivial⟩ rfl ?_
 refine W.cn rfl (fun hc => ?_) (fun hc => ?_)
 have hv := hv.1 hc
 refine W.rL ?_
 refine aB rfl rfl ?_
 refine eL ?_
 refine W.tr [(2, .bool _)] [.box _ [.int _ _, .int _ _, .lst _ _ _, .lst _ _ _, .int _ _], .box _ [.lst _ _ _, .int _ _, .int _ _, .lst _ _ _, .lst _ _ _]] ⟨rfl, trivial⟩ rfl ?_
 refine W.ret ?_
 refine th_ret (rt ?_)
 refine rt_t (v := .bool _) rfl ?_
 refine rt_n ?_
 exact ⟨_, rs_bool _ _ _, true, rfl, hv⟩
 have hv := hv.2 hc
 refine W.skip ?_
 refine th_nrm ?_
 refine W.tr [(3, .ptr _ _), (4, .int _ _), (5, .lst _ _ _)] [.box _ [.int _ _, .int _ _, .lst _ _ _, .lst _ _ _, .int _ _], .box _ [.lst _ _ _, .int _ _, .int _ _, .lst _ _ _, .lst _ _ _]] ⟨rfl, rfl, rfl, trivial⟩ rfl ?_
 refine W.rD [0, 1, 2, 3, 4, 5, 6, 7, 8, 9, 10, 11, 12] (by decide +kernel) rfl ?_
 refine cL rfl (o_ldA (cs := [.lst _ _ _, .int _ _, .int _ _, .lst _ _ _, .lst _ _ _]) tt27 rfl rfl ⟨_, rfl⟩ rfl ?_)
 refine mI rfl rfl ?_
 iterate 2 refine mL rfl rfl ?_
 refine cL rfl (o_len (v := .lst _ _ _) tt28 rfl rfl ?_)
 obtain ⟨s2, hv⟩ := hv
 refine cL rfl (o_sub rfl rfl s2 ?_)
 obtain ⟨s3, hv⟩ := hv
 refine cL rfl (o_slL tt28 tt66 rfl (enc66.wd true) rfl rfl rfl s3 (ys := ((mkM c).2.2.1).take (((((mkM c).2.2.1).length : Nat) : Int) - (1 : Int)).toNat) (by simp) ?_)
 obtain ⟨s4, hv⟩ := hv
 refine cL rfl (o_callP1 (k := 28) (fst := []) (caps := []) (ys := [.agg _, .int _ _, .lst _ _ _]) rfl rfl (spec_ranges ((mkM c).1) ((mkM c).2.1) (((mkM c).2.2.1).take (((((mkM c).2.2.1).length : Nat) : Int) - (1 : Int)).toNat) s4) (Wks.cons (ag_agg 5 _ (Wks.cons (ag_lst _ _ _ _ _) (Wks.cons (ag_int _ _ _ _) (Wks.cons (ag_int _ _ _ _) (Wks.cons (ag_lst _ _ _ _ _) (Wks.cons (ag_lst _ _ _ _ _) (Wks.refl _))))))) (Wks.cons (ag_int _ _ _ _) (Wks.cons (ag_lst _ _ _ _ _) (Wks.refl _)))) ?_)
 refine cL rfl (o_move (v := .tup _) rfl ?_)
 refine cL rfl (o_ext (v := .lst _ _ _) rfl rfl ?_)
 refine cL rfl (o_ext (v := .int _ _) rfl rfl ?_)
 refine aL rfl rfl ?_
 refine aI rfl rfl ?_
 refine eL ?_
 refine W.tr [(3, .ptr _ _), (4, .int _ _), (5, .lst _ _ _), (8, .lst _ _ _), (9, .int _ _)] [.box _ [.int _ _, .int _ _, .lst _ _ _, .lst _ _ _, .int _ _], .box _ [.lst _ _ _, .int _ _, .int _ _, .lst _ _ _, .lst _ _ _]] ⟨rfl, rfl, rfl, rfl, rfl, trivial⟩ rfl ?_
 refine W.rL ?_
 refine cL rfl (o_ldA (cs := [.lst _ _ _, .int _ _, .int _ _, .lst _ _ _, .lst _ _ _]) tt27 rfl rfl ⟨_, rfl⟩ rfl ?_)
 refine mI rfl rfl ?_
 refine mL rfl rfl ?_
 obtain ⟨s5, hv⟩ := hv
 refine cL rfl (o_callP1 (k := 28) (fst := []) (caps := []) (ys := [.agg _, .int _ _, .lst _ _ _]) rfl rfl (spec_ranges ((mkM c).1) ((mkM c).2.1) ((mkM c).2.2.1) s5) (Wks.cons (ag_agg 5 _ (Wks.cons (ag_lst _ _ _ _ _) (Wks.cons (ag_int _ _ _ _) (Wks.cons (ag_int _ _ _ _) (Wks.cons (ag_lst _ _ _ _ _) (Wks.cons (ag_lst _ _ _ _ _) (Wks.refl _))))))) (Wks.cons (ag_int _ _ _ _) (Wks.cons (ag_lst _ _ _ _ _) (Wks.refl _)))) ?_)
 refine cL rfl (o_move (v := .tup _) rfl ?_)
 refine cL rfl (o_ext (v := .lst _ _ _) rfl rfl ?_)
 refine cL rfl (o_ext (v := .int _ _) rfl rfl ?_)
 refine aL rfl rfl ?_
 refine aI rfl rfl ?_
 refine eL ?_
 refine W.tr [(3, .ptr _ _), (4, .int _ _), (5, .lst _ _ _), (8, .lst _ _ _), (9, .int _ _), (10, .lst _ _ _), (11, .int _ _)] [.box _ [.int _ _, .int _ _, .lst _ _ _, .lst _ _ _, .int _ _], .box _ [.lst _ _ _, .int _ _, .int _ _, .lst _ _ _, .lst _ _ _]] ⟨rfl, rfl, rfl, rfl, rfl, rfl, rfl, trivial⟩ rfl ?_
 refine W.rD [0, 1, 2, 3, 4, 5, 6, 7, 8, 9, 10, 11, 12] (by decide +kernel) rfl ?_
 refine cL rfl (o_ldA (cs := [.lst _ _ _, .int _ _, .int _ _, .lst _ _ _, .lst _ _ _]) tt27 rfl rfl ⟨_, rfl⟩ rfl ?_)
 refine mI rfl rfl ?_
 iterate 2 refine mL rfl rfl ?_
 refine cL rfl (o_len (v := .lst _ _ _) tt28 rfl rfl ?_)
 obtain ⟨s6, hv⟩ := hv
 refine cL rfl (o_sub rfl rfl s6 ?_)
 obtain ⟨s7, hv⟩ := hv
 refine cL rfl (o_slL tt28 tt66 rfl (enc66.wd true) rfl rfl rfl s7 (ys := ((mkM c).2.2.1).take (((((mkM c).2.2.1).length : Nat) : Int) - (1 : Int)).toNat) (by simp) ?_)
 obtain ⟨s8, s9, s10, s11, hv⟩ := hv
 refine cL rfl (o_callP1 (k := 13) (fst := []) (caps := []) (ys := [.agg _, .int _ _, .lst _ _ _]) rfl rfl (spec_choices ((mkM c).1) ((mkM c).2.1) (((mkM c).2.2.1).take (((((mkM c).2.2.1).length : Nat) : Int) - (1 : Int)).toNat) s8 s9 s10 s11) (Wks.cons (ag_agg 5 _ (Wks.cons (ag_lst _ _ _ _ _) (Wks.cons (ag_int _ _ _ _) (Wks.cons (ag_int _ _ _ _) (Wks.cons (ag_lst _ _ _ _ _) (Wks.cons (ag_lst _ _ _ _ _) (Wks.refl _))))))) (Wks.cons (ag_int _ _ _ _) (Wks.cons (ag_lst _ _ _ _ _) (Wks.refl _)))) ?_)
 refine cL rfl (o_move (v := .tup _) rfl ?_)
 refine cL rfl (o_ext (v := .lst _ _ _) rfl rfl ?_)
 refine cL rfl (o_ext (v := .int _ _) rfl rfl ?_)
 refine aL rfl rfl ?_
 refine aI rfl rfl ?_
 refine eL ?_
 refine W.tr [(3, .ptr _ _), (4, .int _ _), (5, .lst _ _ _), (8, .lst _ _ _), (9, .int _ _), (10, .lst _ _ _), (11, .int _ _), (12, .lst _ _ _), (13, .int _ _)] [.box _ [.int _ _, .int _ _, .lst _ _ _, .lst _ _ _, .int _ _], .box _ [.lst _ _ _, .int _ _, .int _ _, .lst _ _ _, .lst _ _ _]] ⟨rfl, rfl, rfl, rfl, rfl, rfl, rfl, rfl, rfl, trivial⟩ rfl ?_
 refine W.rL ?_
 refine cL rfl (o_ldA (cs := [.lst _ _ _, .int _ _, .int _ _, .lst _ _ _, .lst _ _ _]) tt27 rfl rfl ⟨_, rfl⟩ rfl ?_)
 refine mI rfl rfl ?_
 refine mL rfl rfl ?_
 obtain ⟨s12, s13, s14, s15, hv⟩ := hv
 refine cL rfl (o_callP1 (k := 13) (fst := []) (caps := []) (ys := [.agg _, .int _ _, .lst _ _ _]) rfl rfl (spec_choices ((mkM c).1) ((mkM c).2.1) ((mkM c).2.2.1) s12 s13 s14 s15) (Wks.cons (ag_agg 5 _ (Wks.cons (ag_lst _ _ _ _ _) (Wks.cons (ag_int _ _ _ _) (Wks.cons (ag_int _ _ _ _) (Wks.cons (ag_lst _ _ _ _ _) (Wks.cons (ag_lst _ _ _ _ _) (Wks.refl _))))))) (Wks.cons (ag_int _ _ _ _) (Wks.cons (ag_lst _ _ _ _ _) (Wks.refl _)))) ?_)
 refine cL rfl (o_move (v := .tup _) rfl ?_)
 refine cL rfl (o_ext (v := .lst _ _ _) rfl rfl ?_)
 refine cL rfl (o_ext (v := .int _ _) rfl rfl ?_)
 refine aL rfl rfl ?_
 refine aI rfl rfl ?_
 refine eL ?_
 refine W.tr [(8, .lst _ _ _), (9, .int _ _), (10, .lst _ _ _), (11, .int _ _), (12, .lst _ _ _), (13, .int _ _), (14, .lst _ _ _), (15, .int _ _)] [.box _ [.int _ _, .int _ _, .lst _ _ _, .lst _ _ _, .int _ _], .box _ [.lst _ _ _, .int _ _, .int _ _, .lst _ _ _, .lst _ _ _]] ⟨rfl, rfl, rfl, rfl, rfl, rfl, rfl, rfl, trivial⟩ rfl ?_
 refine W.seq' ?_
 refine W.rLm ⟨132, look [(8, .lst false ((rangesM ((mkM c).1) ((mkM c).2.1) (((mkM c).2.2.1).take (((((mkM c).2.2.1).length : Nat) : Int) - (1 : Int)).toNat)).1).length (encL e61 ((rangesM ((mkM c).1) ((mkM c).2.1) (((mkM c).2.2.1).take (((((mkM c).2.2.1).length : Nat) : Int) - (1 : Int)).toNat)).1))), (10, .lst false ((rangesM ((mkM c).1) ((mkM c).2.1) ((mkM c).2.2.1)).1).length (encL e61 ((rangesM ((mkM c).1) ((mkM c).2.1) ((mkM c).2.2.1)).1))), (12, .lst false ((chM ((mkM c).1) ((mkM c).2.1) (((mkM c).2.2.1).take (((((mkM c).2.2.1).length : Nat) : Int) - (1 : Int)).toNat)).1).length (encL eInt ((chM ((mkM c).1) ((mkM c).2.1) (((mkM c).2.2.1).take (((((mkM c).2.2.1).length : Nat) : Int) - (1 : Int)).toNat)).1))), (14, .lst false ((chM ((mkM c).1) ((mkM c).2.1) ((mkM c).2.2.1)).1).length (encL eInt ((chM ((mkM c).1) ((mkM c).2.1) ((mkM c).2.2.1)).1))), (89, .bool (decide ((¬ (rangesM ((mkM c).1) ((mkM c).2.1) (((mkM c).2.2.1).take (((((mkM c).2.2.1).length : Nat) : Int) - (1 : Int)).toNat)).2 = (0 : Int)) ∨ ((¬ (rangesM ((mkM c).1) ((mkM c).2.1) ((mkM c).2.2.1)).2 = (0 : Int)) ∨ ((¬ (chM ((mkM c).1) ((mkM c).2.1) (((mkM c).2.2.1).take (((((mkM c).2.2.1).length : Nat) : Int) - (1 : Int)).toNat)).2 = (0 : Int)) ∨ ((¬ (chM ((mkM c).1) ((mkM c).2.1) ((mkM c).2.2.1)).2 = (0 : Int)) ∨ (¬ ((((rangesM ((mkM c).1) ((mkM c).2.1) (((mkM c).2.2.1).take (((((mkM c).2.2.1).length : Nat) : Int) - (1 : Int)).toNat)).1).length : Nat) : Int) = ((((rangesM ((mkM c).1) ((mkM c).2.1) ((mkM c).2.2.1)).1).length : Nat) : Int))))))))], [.box 25 [.int .i64 c.fl, .int .i64 c.n, .lst true c.x.length (encL e29 c.x), .lst true c.tr.length (encL eInt c.tr), .int .i64 c.ho], .box 27 [.lst false (((mkM c).1).dr).length (encL eInt (((mkM c).1).dr)), .int .i64 (((mkM c).1).la), .int .i64 (((mkM c).1).li), .lst false (((mkM c).1).sv).length (encL eInt (((mkM c).1).sv)), .lst false (((mkM c).1).tm).length (encL eInt (((mkM c).1).tm))]], 0⟩ ?_ ?_
 refine mI rfl rfl ?_
 refine cL rfl (o_neI rfl rfl rfl ?_)
 refine mB rfl rfl ?_
 by_cases c1 : ¬ (rangesM ((mkM c).1) ((mkM c).2.1) (((mkM c).2.2.1).take (((((mkM c).2.2.1).length : Nat) : Int) - (1 : Int)).toNat)).2 = (0 : Int)
 iterate 2 refine cLs rfl rfl rfl (decide_eq_true c1) ?_
 refine cL rfl (o_pickT (v := .bool _) rfl (decide_eq_true c1) rfl ?_)
 refine mB rfl rfl ?_
 iterate 2 refine cLs rfl rfl rfl (rfl) ?_
 refine cL rfl (o_pickT (v := .bool _) rfl rfl rfl ?_)
 refine mB rfl rfl ?_
 iterate 2 refine cLs rfl rfl rfl (rfl) ?_
 refine cL rfl (o_pickT (v := .bool _) rfl rfl rfl ?_)
 refine mB rfl rfl ?_
 iterate 5 refine cLs rfl rfl rfl (rfl) ?_
 refine cL rfl (o_pickT (v := .bool _) rfl rfl rfl ?_)
 refine eL ?_
 exact le_mk ⟨rfl, rfl, rfl, rfl, (congrArg AV.bool (dOrT c1)).symm, trivial⟩ rfl
 refine cLg rfl rfl (decide_eq_false c1) ?_
 refine mI rfl rfl ?_
 refine cLg rfl rfl (decide_eq_false c1) ?_
 refine cL rfl (o_neI rfl rfl rfl ?_)
 refine cL rfl (o_pickF (v := .bool _) rfl (decide_eq_false c1) rfl ?_)
 refine mB rfl rfl ?_
 by_cases c2 : ¬ (rangesM ((mkM c).1) ((mkM c).2.1) ((mkM c).2.2.1)).2 = (0 : Int)
 iterate 2 refine cLs rfl rfl rfl (decide_eq_true c2) ?_
 refine cL rfl (o_pickT (v := .bool _) rfl (decide_eq_true c2) rfl ?_)
 refine mB rfl rfl ?_
 iterate 2 refine cLs rfl rfl rfl (rfl) ?_
 refine cL rfl (o_pickT (v := .bool _) rfl rfl rfl ?_)
 refine mB rfl rfl ?_
 iterate 5 refine cLs rfl rfl rfl (rfl) ?_
 refine cL rfl (o_pickT (v := .bool _) rfl rfl rfl ?_)
 refine eL ?_
 exact le_mk ⟨rfl, rfl, rfl, rfl, (congrArg AV.bool (dOrF c1 (dOrT c2))).symm, trivial⟩ rfl
 refine cLg rfl rfl (decide_eq_false c2) ?_
 refine mI rfl rfl ?_
 refine cLg rfl rfl (decide_eq_false c2) ?_
 refine cL rfl (o_neI rfl rfl rfl ?_)
 refine cL rfl (o_pickF (v := .bool _) rfl (decide_eq_false c2) rfl ?_)
 refine mB rfl rfl ?_
 by_cases c3 : ¬ (chM ((mkM c).1) ((mkM c).2.1) (((mkM c).2.2.1).take (((((mkM c).2.2.1).length : Nat) : Int) - (1 : Int)).toNat)).2 = (0 : Int)
 iterate 2 refine cLs rfl rfl rfl (decide_eq_true c3) ?_
 refine cL rfl (o_pickT (v := .bool _) rfl (decide_eq_true c3) rfl ?_)
 refine mB rfl rfl ?_
 iterate 5 refine cLs rfl rfl rfl (rfl) ?_
 refine cL rfl (o_pickT (v := .bool _) rfl rfl rfl ?_)
 refine eL ?_
 exact le_mk ⟨rfl, rfl, rfl, rfl, (congrArg AV.bool (dOrF c1 (dOrF c2 (dOrT c3)))).symm, trivial⟩ rfl
 refine cLg rfl rfl (decide_eq_false c3) ?_
 refine mI rfl rfl ?_
 refine cLg rfl rfl (decide_eq_false c3) ?_
 refine cL rfl (o_neI rfl rfl rfl ?_)
 refine cL rfl (o_pickF (v := .bool _) rfl (decide_eq_false c3) rfl ?_)
 refine mB rfl rfl ?_
 by_cases c4 : ¬ (chM ((mkM c).1) ((mkM c).2.1) ((mkM c).2.2.1)).2 = (0 : Int)
 iterate 5 refine cLs rfl rfl rfl (decide_eq_true c4) ?_
 refine cL rfl (o_pickT (v := .bool _) rfl (decide_eq_true c4) rfl ?_)
 refine eL ?_
 exact le_mk ⟨rfl, rfl, rfl, rfl, (congrArg AV.bool (dOrF c1 (dOrF c2 (dOrF c3 (dOrT c4))))).symm, trivial⟩ rfl
 refine cLg rfl rfl (decide_eq_false c4) ?_
 refine mL rfl rfl ?_
 refine cLg rfl rfl (decide_eq_false c4) ?_
 refine cL rfl (o_len (v := .lst _ _ _) tt57 rfl rfl ?_)
 refine cLg rfl rfl (decide_eq_false c4) ?_
 refine mL rfl rfl ?_
 refine cLg rfl rfl (decide_eq_false c4) ?_
 refine cL rfl (o_len (v := .lst _ _ _) tt57 rfl rfl ?_)
 refine cLg rfl rfl (decide_eq_false c4) ?_
 refine cL rfl (o_neI rfl rfl rfl ?_)
 refine cL rfl (o_pickF (v := .bool _) rfl (decide_eq_false c4) rfl ?_)
 refine eL ?_
 exact le_mk ⟨rfl, rfl, rfl, rfl, (congrArg AV.bool (dOrF c1 (dOrF c2 (dOrF c3 (dOrF c4 (rfl)))))).symm, trivial⟩ rfl
 refine W.cn rfl (fun hc => ?_) (fun hc => ?_)
 have hv := hv.1 hc
 refine W.rL ?_
 refine aB rfl rfl ?_
 refine eL ?_
 refine W.tr [(2, .bool _)] [.box _ [.int _ _, .int _ _, .lst _ _ _, .lst _ _ _, .int _ _], .box _ [.lst _ _ _, .int _ _, .int _ _, .lst _ _ _, .lst _ _ _]] ⟨rfl, trivial⟩ rfl ?_
 refine W.ret ?_
 refine th_ret (rt ?_)
 refine rt_t (v := .bool _) rfl ?_
 refine rt_n ?_
 exact ⟨_, rs_bool _ _ _, false, rfl, hv⟩
 have hv := hv.2 hc
 refine W.skip ?_
 refine th_nrm ?_
 refine W.tr [(8, .lst _ _ _), (10, .lst _ _ _), (12, .lst _ _ _), (14, .lst _ _ _)] [.box _ [.int _ _, .int _ _, .lst _ _ _, .lst _ _ _, .int _ _], .box _ [.lst _ _ _, .int _ _, .int _ _, .lst _ _ _, .lst _ _ _]] ⟨rfl, rfl, rfl, rfl, trivial⟩ rfl ?_
 refine W.seq' ?_
 refine W.rL ?_
 refine aI rfl rfl ?_
 refine eL ?_
 refine W.tr [(8, .lst _ _ _), (10, .lst _ _ _), (12, .lst _ _ _), (14, .lst _ _ _), (16, .int _ _)] [.box _ [.int _ _, .int _ _, .lst _ _ _, .lst _ _ _, .int _ _], .box _ [.lst _ _ _, .int _ _, .int _ _, .lst _ _ _, .lst _ _ _]] ⟨rfl, rfl, rfl, rfl, rfl, trivial⟩ rfl ?_
 refine W.block ?_
 obtain ⟨I1, μ1, hp, hv⟩ := hv
 refine W.loop1 (fun v16 => ⟨132, look [(8, .lst false ((rangesM ((mkM c).1) ((mkM c).2.1) (((mkM c).2.2.1).take (((((mkM c).2.2.1).length : Nat) : Int) - (1 : Int)).toNat)).1).length (encL e61 ((rangesM ((mkM c).1) ((mkM c).2.1) (((mkM c).2.2.1).take (((((mkM c).2.2.1).length : Nat) : Int) - (1 : Int)).toNat)).1))), (10, .lst false ((rangesM ((mkM c).1) ((mkM c).2.1) ((mkM c).2.2.1)).1).length (encL e61 ((rangesM ((mkM c).1) ((mkM c).2.1) ((mkM c).2.2.1)).1))), (12, .lst false ((chM ((mkM c).1) ((mkM c).2.1) (((mkM c).2.2.1).take (((((mkM c).2.2.1).length : Nat) : Int) - (1 : Int)).toNat)).1).length (encL eInt ((chM ((mkM c).1) ((mkM c).2.1) (((mkM c).2.2.1).take (((((mkM c).2.2.1).length : Nat) : Int) - (1 : Int)).toNat)).1))), (14, .lst false ((chM ((mkM c).1) ((mkM c).2.1) ((mkM c).2.2.1)).1).length (encL eInt ((chM ((mkM c).1) ((mkM c).2.1) ((mkM c).2.2.1)).1))), (16, .int .i64 v16)], [.dead], 0⟩) I1 μ1 (0 : Int) (St.to_mk (φ := [none]) rfl (rfl) ⟨Ren.lst _ _ _, Ren.lst _ _ _, Ren.lst _ _ _, Ren.lst _ _ _, Ren.int _ _, trivial⟩ ⟨rfl, trivial⟩) hp ?_
 clear hp
 intro v16 hI
 replace hv := hv v16 hI
 clear hI
 refine W.seq' ?_
 refine W.rL ?_
 refine mI rfl rfl ?_
 refine mL rfl rfl ?_
 refine cL rfl (o_len (v := .lst _ _ _) tt57 rfl rfl ?_)
 refine cL rfl (o_lss rfl rfl ?_)
 refine eL ?_
 refine W.tr [(8, .lst _ _ _), (10, .lst _ _ _), (12, .lst _ _ _), (14, .lst _ _ _), (16, .int _ _), (93, .bool _)] [.dead] ⟨rfl, rfl, rfl, rfl, rfl, rfl, trivial⟩ rfl ?_
 refine W.cn rfl (fun hc => ?_) (fun hc => ?_)
 have hv := hv.1 hc
 refine W.skip ?_
 refine th_nrm ?_
 refine W.tr [(8, .lst _ _ _), (10, .lst _ _ _), (12, .lst _ _ _), (14, .lst _ _ _), (16, .int _ _)] [.dead] ⟨rfl, rfl, rfl, rfl, rfl, trivial⟩ rfl ?_
 refine W.seq' ?_
 refine W.block ?_
 refine W.rD [0, 1, 2, 3, 4, 5, 6, 7, 8, 9] (by decide +kernel) rfl ?_
 refine mL rfl rfl ?_
 refine mI rfl rfl ?_
 obtain ⟨s33, hv⟩ := hv
 refine cL rfl (o_iaL tt57 tt61 rfl rfl (enc61.wd true) rfl s33 ?_)
 intro rest33
 refine cL rfl (o_ldA (cs := [.int _ _, .int _ _]) tt61 rfl rfl ⟨_, rfl⟩ rfl ?_)
 refine mL rfl rfl ?_
 refine mI rfl rfl ?_
 obtain ⟨s34, hv⟩ := hv
 refine cL rfl (o_iaL tt57 tt61 rfl rfl (enc61.wd true) rfl s34 ?_)
 intro rest34
 refine cL rfl (o_ldA (cs := [.int _ _, .int _ _]) tt61 rfl rfl ⟨_, rfl⟩ rfl ?_)
 refine cL rfl (o_callP1 (k := 29) (fst := []) (caps := []) (ys := [.agg _, .agg _]) rfl rfl (spec_contains (lat ((rangesM ((mkM c).1) ((mkM c).2.1) (((mkM c).2.2.1).take (((((mkM c).2.2.1).length : Nat) : Int) - (1 : Int)).toNat)).1) v16) (lat ((rangesM ((mkM c).1) ((mkM c).2.1) ((mkM c).2.2.1)).1) v16)) (Wks.cons (ag_agg 5 _ (Wks.cons (ag_int _ _ _ _) (Wks.cons (ag_int _ _ _ _) (Wks.refl _)))) (Wks.cons (ag_agg 5 _ (Wks.cons (ag_int _ _ _ _) (Wks.cons (ag_int _ _ _ _) (Wks.refl _)))) (Wks.refl _))) ?_)
 refine cL rfl (o_not rfl ?_)
 refine eL ?_
 refine W.tr [(8, .lst _ _ _), (10, .lst _ _ _), (12, .lst _ _ _), (14, .lst _ _ _), (16, .int _ _), (105, .bool _)] [.dead] ⟨rfl, rfl, rfl, rfl, rfl, rfl, trivial⟩ rfl ?_
 refine W.cn rfl (fun hc => ?_) (fun hc => ?_)
 have hv := hv.1 hc
 refine W.rL ?_
 refine aB rfl rfl ?_
 refine eL ?_
 refine W.tr [(2, .bool _)] [.dead] ⟨rfl, trivial⟩ rfl ?_
 refine W.ret ?_
 refine bl_ret (th_ret (th_ret (bl_ret (th_ret (rt ?_)))))
 refine rt_t (v := .bool _) rfl ?_
 refine rt_n ?_
 exact ⟨_, rs_bool _ _ _, false, rfl, hv⟩
 have hv := hv.2 hc
 refine W.skip ?_
 refine bl_nrm (th_nrm ?_)
 refine W.tr [(8, .lst _ _ _), (10, .lst _ _ _), (12, .lst _ _ _), (14, .lst _ _ _), (16, .int _ _)] [.dead] ⟨rfl, rfl, rfl, rfl, rfl, trivial⟩ rfl ?_
 refine W.rL1 ?_
 refine mI rfl rfl ?_
 obtain ⟨s35, hv⟩ := hv
 refine cL rfl (o_add rfl rfl s35 ?_)
 refine aI rfl rfl ?_
 refine eL ?_
 exact th_nrm (⟨(), (v16 + (1 : Int)), hv, St.to_mk (φ := [none]) rfl (rfl) ⟨Ren.lst _ _ _, Ren.lst _ _ _, Ren.lst _ _ _, Ren.lst _ _ _, Ren.int _ _, trivial⟩ ⟨rfl, trivial⟩⟩)
 have hv := hv.2 hc
 refine W.exit ?_
 refine th_exit (th_exit (bl_hit (th_nrm ?_)))
 refine W.tr [(12, .lst _ _ _), (14, .lst _ _ _)] [.dead] ⟨rfl, rfl, trivial⟩ rfl ?_
 refine W.seq' ?_
 refine W.rL ?_
 refine aI rfl rfl ?_
 refine eL ?_
 refine W.tr [(12, .lst _ _ _), (14, .lst _ _ _), (17, .int _ _)] [.dead] ⟨rfl, rfl, rfl, trivial⟩ rfl ?_
 refine W.block ?_
 obtain ⟨I2, μ2, hp, hv⟩ := hv
 refine W.loop1 (fun v17 => ⟨132, look [(12, .lst false ((chM ((mkM c).1) ((mkM c).2.1) (((mkM c).2.2.1).take (((((mkM c).2.2.1).length : Nat) : Int) - (1 : Int)).toNat)).1).length (encL eInt ((chM ((mkM c).1) ((mkM c).2.1) (((mkM c).2.2.1).take (((((mkM c).2.2.1).length : Nat) : Int) - (1 : Int)).toNat)).1))), (14, .lst false ((chM ((mkM c).1) ((mkM c).2.1) ((mkM c).2.2.1)).1).length (encL eInt ((chM ((mkM c).1) ((mkM c).2.1) ((mkM c).2.2.1)).1))), (17, .int .i64 v17)], [.dead], 0⟩) I2 μ2 (0 : Int) (St.to_mk (φ := [none]) rfl (rfl) ⟨Ren.lst _ _ _, Ren.lst _ _ _, Ren.int _ _, trivial⟩ ⟨rfl, trivial⟩) hp ?_
 clear hp
 intro v17 hI
 replace hv := hv v17 hI
 clear hI
 refine W.seq' ?_
 refine W.rL ?_
 refine mI rfl rfl ?_
 refine mL rfl rfl ?_
 refine cL rfl (o_len (v := .lst _ _ _) tt23 rfl rfl ?_)
 refine cL rfl (o_lss rfl rfl ?_)
 refine eL ?_
 refine W.tr [(12, .lst _ _ _), (14, .lst _ _ _), (17, .int _ _), (109, .bool _)] [.dead] ⟨rfl, rfl, rfl, rfl, trivial⟩ rfl ?_
 refine W.cn rfl (fun hc => ?_) (fun hc => ?_)
 have hv := hv.1 hc
 refine W.skip ?_
 refine th_nrm ?_
 refine W.tr [(12, .lst _ _ _), (14, .lst _ _ _), (17, .int _ _)] [.dead] ⟨rfl, rfl, rfl, trivial⟩ rfl ?_
 refine W.seq' ?_
 refine W.block ?_
 refine W.rL ?_
 refine aB rfl rfl ?_
 refine eL ?_
 refine W.tr [(12, .lst _ _ _), (14, .lst _ _ _), (17, .int _ _), (18, .bool _)] [.dead] ⟨rfl, rfl, rfl, rfl, trivial⟩ rfl ?_
 refine W.seq' ?_
 refine W.rL ?_
 refine aI rfl rfl ?_
 refine eL ?_
 refine W.tr [(12, .lst _ _ _), (14, .lst _ _ _), (17, .int _ _), (18, .bool _), (19, .int _ _)] [.dead] ⟨rfl, rfl, rfl, rfl, rfl, trivial⟩ rfl ?_
 refine W.block ?_
 obtain ⟨I3, μ3, hp, hv⟩ := hv
 refine W.loop2 (fun v18 v19 => ⟨132, look [(12, .lst false ((chM ((mkM c).1) ((mkM c).2.1) (((mkM c).2.2.1).take (((((mkM c).2.2.1).length : Nat) : Int) - (1 : Int)).toNat)).1).length (encL eInt ((chM ((mkM c).1) ((mkM c).2.1) (((mkM c).2.2.1).take (((((mkM c).2.2.1).length : Nat) : Int) - (1 : Int)).toNat)).1))), (14, .lst false ((chM ((mkM c).1) ((mkM c).2.1) ((mkM c).2.2.1)).1).length (encL eInt ((chM ((mkM c).1) ((mkM c).2.1) ((mkM c).2.2.1)).1))), (17, .int .i64 v17), (18, .bool v18), (19, .int .i64 v19)], [.dead], 0⟩) I3 μ3 false (0 : Int) (St.to_mk (φ := [none]) rfl (rfl) ⟨Ren.lst _ _ _, Ren.lst _ _ _, Ren.int _ _, Ren.bool _, Ren.int _ _, trivial⟩ ⟨rfl, trivial⟩) hp ?_
 clear hp
 intro v18 v19 hI
 replace hv := hv v18 v19 hI
 clear hI
 refine W.seq' ?_
 refine W.rL ?_
 refine mI rfl rfl ?_
 refine mL rfl rfl ?_
 refine cL rfl (o_len (v := .lst _ _ _) tt23 rfl rfl ?_)
 refine cL rfl (o_lss rfl rfl ?_)
 refine eL ?_
 refine W.tr [(12, .lst _ _ _), (14, .lst _ _ _), (17, .int _ _), (18, .bool _), (19, .int _ _), (115, .bool _)] [.dead] ⟨rfl, rfl, rfl, rfl, rfl, rfl, trivial⟩ rfl ?_
 refine W.cn rfl (fun hc => ?_) (fun hc => ?_)
 have hv := hv.1 hc
 refine W.skip ?_
 refine th_nrm ?_
 refine W.tr [(12, .lst _ _ _), (14, .lst _ _ _), (17, .int _ _), (18, .bool _), (19, .int _ _)] [.dead] ⟨rfl, rfl, rfl, rfl, rfl, trivial⟩ rfl ?_
 refine W.seq' ?_
 refine W.block ?_
 obtain ⟨sd, hv⟩ := hv
 refine W.rDm1 ⟨132, look [(12, .lst false ((chM ((mkM c).1) ((mkM c).2.1) (((mkM c).2.2.1).take (((((mkM c).2.2.1).length : Nat) : Int) - (1 : Int)).toNat)).1).length (encL eInt ((chM ((mkM c).1) ((mkM c).2.1) (((mkM c).2.2.1).take (((((mkM c).2.2.1).length : Nat) : Int) - (1 : Int)).toNat)).1))), (14, .lst false ((chM ((mkM c).1) ((mkM c).2.1) ((mkM c).2.2.1)).1).length (encL eInt ((chM ((mkM c).1) ((mkM c).2.1) ((mkM c).2.2.1)).1))), (17, .int .i64 v17), (18, .bool (decide ((v18 = true) ∨ (lat ((chM ((mkM c).1) ((mkM c).2.1) (((mkM c).2.2.1).take (((((mkM c).2.2.1).length : Nat) : Int) - (1 : Int)).toNat)).1) v19 = lat ((chM ((mkM c).1) ((mkM c).2.1) ((mkM c).2.2.1)).1) v17)))), (19, .int .i64 v19)], [.dead], 0⟩ (fun s hl h => W.le hl h) [0, 1, 2, 3, 4, 5, 6, 7, 8, 9, 10, 11, 12] (by decide +kernel) rfl ?_ ?_
 iterate 2 refine mB rfl rfl ?_
 by_cases c1 : v18 = true
 iterate 9 refine cLs rfl rfl rfl (c1) ?_
 refine cL rfl (o_pickT (v := .bool _) rfl c1 rfl ?_)
 refine aB rfl rfl ?_
 refine eL ?_
 exact le_mk ⟨rfl, rfl, rfl, (congrArg AV.bool (dOrT c1)).symm, rfl, trivial⟩ rfl
 have sd := sd.2 c1
 refine cLg rfl rfl ((Bool.eq_false_iff.2 c1)) ?_
 refine mL rfl rfl ?_
 refine cLg rfl rfl ((Bool.eq_false_iff.2 c1)) ?_
 refine mI rfl rfl ?_
 refine cLg rfl rfl ((Bool.eq_false_iff.2 c1)) ?_
 obtain ⟨s324, sd⟩ := sd
 refine cL rfl (o_iaL tt23 tt3 rfl rfl (encInt.wd true) rfl s324 ?_)
 intro rest324
 refine cLg rfl rfl ((Bool.eq_false_iff.2 c1)) ?_
 refine cL rfl (o_ldS (v := .int _ _) tt3 rfl rfl ⟨_, rfl⟩ ?_)
 refine cLg rfl rfl ((Bool.eq_false_iff.2 c1)) ?_
 refine mL rfl rfl ?_
 refine cLg rfl rfl ((Bool.eq_false_iff.2 c1)) ?_
 refine mI rfl rfl ?_
 refine cLg rfl rfl ((Bool.eq_false_iff.2 c1)) ?_
 obtain ⟨s325, sd⟩ := sd
 refine cL rfl (o_iaL tt23 tt3 rfl rfl (encInt.wd true) rfl s325 ?_)
 intro rest325
 refine cLg rfl rfl ((Bool.eq_false_iff.2 c1)) ?_
 refine cL rfl (o_ldS (v := .int _ _) tt3 rfl rfl ⟨_, rfl⟩ ?_)
 refine cLg rfl rfl ((Bool.eq_false_iff.2 c1)) ?_
 refine cL rfl (o_eqI rfl rfl rfl ?_)
 refine cL rfl (o_pickF (v := .bool _) rfl (Bool.eq_false_iff.2 c1) rfl ?_)
 refine aB rfl rfl ?_
 refine eL ?_
 exact le_mk ⟨rfl, rfl, rfl, (congrArg AV.bool (dOrF c1 (rfl))).symm, rfl, trivial⟩ rfl
 refine bl_nrm (th_nrm ?_)
 refine W.tr [(12, .lst _ _ _), (14, .lst _ _ _), (17, .int _ _), (18, .bool _), (19, .int _ _)] [.dead] ⟨rfl, rfl, rfl, rfl, rfl, trivial⟩ rfl ?_
 refine W.rL1 ?_
 refine mI rfl rfl ?_
 obtain ⟨s326, hv⟩ := hv
 refine cL rfl (o_add rfl rfl s326 ?_)
 refine aI rfl rfl ?_
 refine eL ?_
 exact th_nrm (⟨(), (decide ((v18 = true) ∨ (lat ((chM ((mkM c).1) ((mkM c).2.1) (((mkM c).2.2.1).take (((((mkM c).2.2.1).length : Nat) : Int) - (1 : Int)).toNat)).1) v19 = lat ((chM ((mkM c).1) ((mkM c).2.1) ((mkM c).2.2.1)).1) v17))), (v19 + (1 : Int)), hv, St.to_mk (φ := [none]) rfl (rfl) ⟨Ren.lst _ _ _, Ren.lst _ _ _, Ren.int _ _, Ren.bool _, Ren.int _ _, trivial⟩ ⟨rfl, trivial⟩⟩)
 have hv := hv.2 hc
 refine W.exit ?_
 refine th_exit (th_exit (bl_hit (th_nrm ?_)))
 refine W.tr [(12, .lst _ _ _), (14, .lst _ _ _), (17, .int _ _), (18, .bool _)] [.dead] ⟨rfl, rfl, rfl, rfl, trivial⟩ rfl ?_
 refine W.rL ?_
 refine mB rfl rfl ?_
 refine cL rfl (o_notB rfl ?_)
 refine eL ?_
 refine W.tr [(12, .lst _ _ _), (14, .lst _ _ _), (17, .int _ _), (131, .bool _)] [.dead] ⟨rfl, rfl, rfl, rfl, trivial⟩ rfl ?_
 refine W.cn rfl (fun hc => ?_) (fun hc => ?_)
 have hv := hv.1 hc
 refine W.rL ?_
 refine aB rfl rfl ?_
 refine eL ?_
 refine W.tr [(2, .bool _)] [.dead] ⟨rfl, trivial⟩ rfl ?_
 refine W.ret ?_
 refine bl_ret (th_ret (th_ret (bl_ret (th_ret (rt ?_)))))
 refine rt_t (v := .bool _) rfl ?_
 refine rt_n ?_
 exact ⟨_, rs_bool _ _ _, false, rfl, hv⟩
 have hv := hv.2 hc
 refine W.skip ?_
 refine bl_nrm (th_nrm ?_)
 refine W.tr [(12, .lst _ _ _), (14, .lst _ _ _), (17, .int _ _)] [.dead] ⟨rfl, rfl, rfl, trivial⟩ rfl ?_
 refine W.rL1 ?_
 refine mI rfl rfl ?_
 obtain ⟨s327, hv⟩ := hv
 refine cL rfl (o_add rfl rfl s327 ?_)
 refine aI rfl rfl ?_
 refine eL ?_
 exact th_nrm (⟨(), (v17 + (1 : Int)), hv, St.to_mk (φ := [none]) rfl (rfl) ⟨Ren.lst _ _ _, Ren.lst _ _ _, Ren.int _ _, trivial⟩ ⟨rfl, trivial⟩⟩)
 have hv := hv.2 hc
 refine W.exit ?_
 refine th_exit (th_exit (bl_hit (th_nrm ?_)))
 refine W.tr [] [.dead] trivial rfl ?_
 refine W.rL ?_
 refine aB rfl rfl ?_
 refine eL ?_
 refine W.tr [(2, .bool _)] [.dead] ⟨rfl, trivial⟩ rfl ?_
 refine W.ret ?_
 refine rt ?_
 refine rt_t (v := .bool _) rfl ?_
 refine rt_n ?_
 exact ⟨_, rs_bool _ _ _, true, rfl, hv⟩
theorem vcp_bNarrower (c : Cas) (h0 : CasOk c) : vc_bNarrower c (fun q0 => q0 = (true)) := by
  unfold vc_bNarrower
  obtain ⟨ho, eho, hl24, hF, hn6, hB⟩ := mk_bel c
  generalize mkM c = p at *
  obtain ⟨F, N, L, TR, HO⟩ := p
  dsimp only at *
  obtain ⟨q1, q2, q3⟩ := hF.lens
  have hno := hB.no
  refine ⟨h0, fun _ => rfl, fun hne => ?_⟩
  generalize hk : (((L.length : Nat) : Int) - (1 : Int)).toNat = k
  have hB' := hB.take k
  have hch := ch_ok hB.bv hB.ne
  have hch' := ch_ok hB'.bv hB'.ne
  have hlt : (L.take k).length ≤ L.length := by rw [List.length_take]; omega
  have hcl : ((chM F N L).1).length ≤ 64 := by
    rw [hch, List.length_map]
    have h1 := List.length_filterMap_le (fun (s : Nat) => choice1 F N L (s : Int)) (List.range (2 ^ F.dr.length))
    rw [List.length_range] at h1
    have := pow_le64 hB.fo.len.2
    unfold choicesM
    omega
  have hcl' : ((chM F N (L.take k)).1).length ≤ 64 := by
    rw [hch', List.length_map]
    have h1 := List.length_filterMap_le (fun (s : Nat) => choice1 F N (L.take k) (s : Int)) (List.range (2 ^ F.dr.length))
    rw [List.length_range] at h1
    have := pow_le64 hB.fo.len.2
    unfold choicesM
    omega
  have hrl := ranges_len (f := F) (n := N) (l := L)
  have hrl' := ranges_len (f := F) (n := N) (l := L.take k)
  have hmul : N.toNat * N.toNat ≤ 36 := Nat.le_trans (Nat.mul_le_mul (show N.toNat ≤ 6 by omega) (show N.toNat ≤ 6 by omega)) (by omega)
  refine ⟨by unfold inI; omega, by omega, rgs_ok hB' hF.lens, rgs_ok hB hF.lens, by unfold inI; omega, by omega, q1, q2, q3, by omega, q1, q2, q3, by omega, fun h => ?_, fun _ => ⟨fun v => ∃ q : Nat, v = q ∧ q ≤ N.toNat * N.toNat, fun v => N.toNat * N.toNat - v.toNat, ⟨0, rfl, by omega⟩, ?_⟩⟩
  · exfalso
    rcases h with h | h | h | h | h
    · exact h rfl
    · exact h rfl
    · exact h (by rw [hch'])
    · exact h (by rw [hch])
    · exact h (by rw [hrl, hrl'])
  · rintro _ ⟨q, rfl, hq⟩
    refine ⟨fun h1 => ?_, fun h1 => ⟨fun v => ∃ q : Nat, v = q ∧ q ≤ ((chM F N L).1).length, fun v => ((chM F N L).1).length - v.toNat, ⟨0, rfl, by omega⟩, ?_⟩⟩
    · have hqlt : q < N.toNat * N.toNat := by omega
      obtain ⟨i, j, hi, hj, e1, e2⟩ := ranges_at (f := F) (g := F) (n := N) (k := L.take k) (l := L) hqlt
      obtain ⟨lo, hi', hr⟩ := rg_ok hB.bv hB.ne hi hj
      obtain ⟨lo2, hi2, hr2⟩ := rg_ok hB'.bv hB'.ne hi hj
      have hs := rg_sub hr hr2 hi hj (fun c hc => by
        obtain ⟨d, hd, _, s, m, t, q, x1, x2, x3⟩ := hB.take_choice k hc
        exact ⟨d, hd, s, m, t, q, x1, x2, x3⟩)
      rw [e1, e2, hr.eq, hr2.eq]
      refine ⟨by omega, by omega, fun h3 => absurd ⟨hs.1, hs.2⟩ h3, fun _ => ⟨by unfold inI; omega, ⟨q + 1, by omega, by omega⟩, by dsimp only; omega⟩⟩
    · rintro _ ⟨q, rfl, hq⟩
      refine ⟨fun h2 => ?_, fun _ => rfl⟩
      have hqlt : q < ((chM F N L).1).length := by omega
      rw [lat_get hqlt]
      obtain ⟨d, hd, ed⟩ := ch_mem hB.bv (List.getElem_mem hqlt)
      obtain ⟨d', hd', ed', _⟩ := hB.take_choice k hd
      have hin := mem_ch hB'.bv hd'
      rw [ed', ed] at hin
      generalize ((chM F N L).1)[q] = s at *
      refine ⟨fun b v => ∃ j : Nat, v = j ∧ j ≤ ((chM F N (L.take k)).1).length ∧ (b = true ↔ s ∈ ((chM F N (L.take k)).1).take j), fun _ v => ((chM F N (L.take k)).1).length - v.toNat, ⟨0, rfl, by omega, by simp⟩, ?_⟩
      rintro b _ ⟨j, rfl, hj, hb⟩
      refine ⟨fun h3 => ?_, fun h3 => ?_⟩
      · have hjlt : j < ((chM F N (L.take k)).1).length := by omega
        rw [lat_get hjlt]
        refine ⟨⟨fun _ => trivial, fun _ => ⟨by omega, by omega, trivial⟩⟩, by unfold inI; omega, ⟨j + 1, by omega, by omega, ?_⟩, by dsimp only; omega⟩
        rw [decide_eq_true_eq, take_succ_nat (List.getElem?_eq_getElem hjlt), List.mem_append, ← hb, List.mem_singleton, eq_comm (a := s)]
      · rw [List.take_of_length_le (by omega)] at hb
        exact ⟨fun h4 => absurd (hb.2 hin) h4, fun _ => ⟨by unfold inI; omega, ⟨q + 1, by omega, by omega⟩, by dsimp only; omega⟩⟩
theorem spec_bNarrower (c : Cas) (h0 : CasOk c) : FnP Try.prog 6 [.agg ((e25 true) c)] (fun xR => xR = .bool (true)) :=
  (walk_bNarrower (vcp_bNarrower c h0)).mono (by rintro _ ⟨_, rfl, rfl⟩; rfl)
end Go.Lat
