/- The law latecomerlaw07.BoundsMatchesReference returns true for every input, and each argument reads afterwards as it read before. Part 11 of 13. No condition. -/
import Derived.Test.YtikbpchifcjomaaLatD
import Derived.Test.YtikbpchifcjomaaLatJ
import Derived.Test.YtikbpchifcjomaaLatI
set_option linter.unusedVariables false
set_option linter.unusedSimpArgs false
set_option linter.unnecessarySimpa false
namespace Go.Lat
open Go.RowKit Go.Proofs
attribute [local irreducible] closeM rangeM pointM addBM cycleM holdsM validBM sameM madeM pickM plusM validM possM firstM tableM longerM boundsM ofM addM freeM
def vc_rpoint (b : Bd) (f : Int) (t : Int) (v : Int) (Post : (List Int) → Int → Prop) : Prop :=
  (b.most.length ≤ 1073741824) ∧ (∀ r ∈ b.most, r.length ≤ 1073741824) ∧ (((¬ (rangeM b f t).2.2 = (0 : Int)) ∨ ((v < ((rangeM b f t).1)) ∨ ((((rangeM b f t).2.1) < v) ∨ ((v < (-36028797018963968 : Int)) ∨ ((36028797018963968 : Int) < v))))) → Post [] (2 : Int)) ∧ (¬ ((¬ (rangeM b f t).2.2 = (0 : Int)) ∨ ((v < ((rangeM b f t).1)) ∨ ((((rangeM b f t).2.1) < v) ∨ ((v < (-36028797018963968 : Int)) ∨ ((36028797018963968 : Int) < v))))) → ∃ J1 : Bd → Prop, (∀ (b1 : Bd), J1 b1 → ∃ (I2 : Int → List Int → Prop) (μ2 : Int → List Int → Nat), I2 (0 : Int) [] ∧ ∀ (v19 : Int) (r2 : List Int), I2 v19 r2 → ((v19 < b1.n) → (0 ≤ f ∧ f < (b1.most.length : Int)) ∧ (0 ≤ v19 ∧ v19 < ((lat b1.most f).length : Int)) ∧ ∃ J3 : Int → Prop, (∀ (v20 : Int), J3 v20 → ((r2 ++ [v20]).length ≤ 1073741824) ∧ (inI (v19 + (1 : Int))) ∧ (I2 (v19 + (1 : Int)) (r2 ++ [v20]) ∧ μ2 (v19 + (1 : Int)) (r2 ++ [v20]) < μ2 v19 r2)) ∧ (((lat (lat b1.most f) v19 = (1152921504606846976 : Int)) → ∃ (I4 : Int → Int → Prop) (μ4 : Int → Int → Nat), I4 (0 : Int) (0 : Int) ∧ ∀ (v21 : Int) (v22 : Int), I4 v21 v22 → ((v22 < b1.n) → ∃ J5 : Int → Prop, (∀ (v21_1 : Int), J5 v21_1 → (inI (v22 + (1 : Int))) ∧ (I4 v21_1 (v22 + (1 : Int)) ∧ μ4 v21_1 (v22 + (1 : Int)) < μ4 v21 v22)) ∧ (((0 ≤ f ∧ f < (b1.most.length : Int)) ∧ (0 ≤ v22 ∧ v22 < ((lat b1.most f).length : Int)) ∧ ((lat (lat b1.most f) v22 = (1152921504606846976 : Int)) → (0 ≤ v22 ∧ v22 < (b1.most.length : Int)) ∧ (0 ≤ v19 ∧ v19 < ((lat b1.most v22).length : Int)) ∧ True) ∧ (¬ (lat (lat b1.most f) v22 = (1152921504606846976 : Int)) → True)) ∧ ((((lat (lat b1.most f) v22 = (1152921504606846976 : Int)) ∧ (¬ lat (lat b1.most v22) v19 = (1152921504606846976 : Int))) → (0 ≤ v22 ∧ v22 < (b1.most.length : Int)) ∧ (0 ≤ v19 ∧ v19 < ((lat b1.most v22).length : Int)) ∧ J5 (min v21 (lat (lat b1.most v22) v19))) ∧ (¬ ((lat (lat b1.most f) v22 = (1152921504606846976 : Int)) ∧ (¬ lat (lat b1.most v22) v19 = (1152921504606846976 : Int))) → J5 v21)))) ∧ (¬ (v22 < b1.n) → (inI ((576460752303423488 : Int) + v21)) ∧ J3 ((576460752303423488 : Int) + v21))) ∧ (¬ (lat (lat b1.most f) v19 = (1152921504606846976 : Int)) → J3 (lat (lat b1.most f) v19)))) ∧ (¬ (v19 < b1.n) → Post r2 (0 : Int))) ∧ (((¬ f = t) → (WithOk b f t v) ∧ ((¬ (((withM b f t v).2) = true)) → Post [] (2 : Int)) ∧ (¬ (¬ (((withM b f t v).2) = true)) → (inI (-v)) ∧ (WithOk ((withM b f t v).1) t f (-v)) ∧ ((¬ (((withM ((withM b f t v).1) t f (-v)).2) = true)) → Post [] (2 : Int)) ∧ (¬ (¬ (((withM ((withM b f t v).1) t f (-v)).2) = true)) → J1 ((withM ((withM b f t v).1) t f (-v)).1)))) ∧ (¬ (¬ f = t) → J1 b)))
set_option maxRecDepth 100000 in
set_option maxHeartbeats 4000000 in
theorem walk_rpoint {b : Bd} {f : Int} {t : Int} {v : Int} {Post : (List Int) → Int → Prop} (hv : vc_rpoint b f t v Post) : FnP Try.prog 24 [.agg ((e34 true) b), .int .i64 f, .int .i64 t, .int .i64 v] (fun x => ∃ q0 q1, x = .tup [.lst false q0.length (encL eInt q0), .int .i64 q1] ∧ Post q0 q1) := by
 refine FnP.of_walk (T := tt) (nt := 136) ttOk ttMix ⟨⟨Try.f24, Try.func24, rfl, rfl, rfl, rfl⟩⟩ (by simp) ?_
 unfold vc_rpoint at hv
 change W _ _ _ ⟨136, look [(0, .agg [.int .i64 b.n, .lst true b.most.length (encL (eSl eInt true) b.most)]), (1, .int .i64 f), (2, .int .i64 t), (3, .int .i64 v)], [], false⟩ _
 refine W.tr [(0, .agg _), (1, .int _ _), (2, .int _ _), (3, .int _ _)] [] ⟨rfl, rfl, rfl, rfl, trivial⟩ rfl ?_
 refine W.rL ?_
 refine cL rfl (o_box (v := .agg _) (p := 0) rfl rfl rfl ?_)
 refine cL rfl (o_assign (v := .nilS) rfl ?_)
 refine aI rfl rfl ?_
 refine eL ?_
 refine W.tr [(1, .int _ _), (2, .int _ _), (3, .int _ _), (4, .ptr _ _)] [.box _ [.int _ _, .lst _ _ _]] ⟨rfl, rfl, rfl, rfl, trivial⟩ rfl ?_
 refine W.rL ?_
 refine cL rfl (o_ldA (cs := [.int _ _, .lst _ _ _]) tt34 rfl rfl ⟨_, rfl⟩ rfl ?_)
 iterate 2 refine mI rfl rfl ?_
 obtain ⟨s1, s2, hv⟩ := hv
 refine cL rfl (o_callP1 (k := 22) (fst := []) (caps := []) (ys := [.agg _, .int _ _, .int _ _]) rfl rfl (spec_rrange b f t s1 s2) (Wks.cons (ag_agg 5 _ (Wks.cons (ag_int _ _ _ _) (Wks.cons (ag_lst _ _ _ _ _) (Wks.refl _)))) (Wks.cons (ag_int _ _ _ _) (Wks.cons (ag_int _ _ _ _) (Wks.refl _)))) ?_)
 refine cL rfl (o_move (v := .tup _) rfl ?_)
 iterate 3 refine cL rfl (o_ext (v := .int _ _) rfl rfl ?_)
 iterate 3 refine aI rfl rfl ?_
 refine eL ?_
 refine W.tr [(1, .int _ _), (2, .int _ _), (3, .int _ _), (4, .ptr _ _), (10, .int _ _), (11, .int _ _), (12, .int _ _)] [.box _ [.int _ _, .lst _ _ _]] ⟨rfl, rfl, rfl, rfl, rfl, rfl, rfl, trivial⟩ rfl ?_
 refine W.seq' ?_
 refine W.rLm ⟨136, look [(1, .int .i64 f), (2, .int .i64 t), (3, .int .i64 v), (4, .ptr 0 0), (50, .bool (decide ((¬ (rangeM b f t).2.2 = (0 : Int)) ∨ ((v < ((rangeM b f t).1)) ∨ ((((rangeM b f t).2.1) < v) ∨ ((v < (-36028797018963968 : Int)) ∨ ((36028797018963968 : Int) < v)))))))], [.box 34 [.int .i64 b.n, .lst true b.most.length (encL (eSl eInt true) b.most)]], false⟩ ?_ ?_
 refine mI rfl rfl ?_
 refine cL rfl (o_neI rfl rfl rfl ?_)
 refine mB rfl rfl ?_
 by_cases c1 : ¬ (rangeM b f t).2.2 = (0 : Int)
 iterate 3 refine cLs rfl rfl rfl (decide_eq_true c1) ?_
 refine cL rfl (o_pickT (v := .bool _) rfl (decide_eq_true c1) rfl ?_)
 refine mB rfl rfl ?_
 iterate 3 refine cLs rfl rfl rfl (rfl) ?_
 refine cL rfl (o_pickT (v := .bool _) rfl rfl rfl ?_)
 refine mB rfl rfl ?_
 iterate 2 refine cLs rfl rfl rfl (rfl) ?_
 refine cL rfl (o_pickT (v := .bool _) rfl rfl rfl ?_)
 refine mB rfl rfl ?_
 iterate 2 refine cLs rfl rfl rfl (rfl) ?_
 refine cL rfl (o_pickT (v := .bool _) rfl rfl rfl ?_)
 refine eL ?_
 exact le_mk ⟨rfl, rfl, rfl, rfl, (congrArg AV.bool (dOrT c1)).symm, trivial⟩ rfl
 refine cLg rfl rfl (decide_eq_false c1) ?_
 refine mI rfl rfl ?_
 refine cLg rfl rfl (decide_eq_false c1) ?_
 refine mI rfl rfl ?_
 refine cLg rfl rfl (decide_eq_false c1) ?_
 refine cL rfl (o_lss rfl rfl ?_)
 refine cL rfl (o_pickF (v := .bool _) rfl (decide_eq_false c1) rfl ?_)
 refine mB rfl rfl ?_
 by_cases c2 : v < ((rangeM b f t).1)
 iterate 3 refine cLs rfl rfl rfl (decide_eq_true c2) ?_
 refine cL rfl (o_pickT (v := .bool _) rfl (decide_eq_true c2) rfl ?_)
 refine mB rfl rfl ?_
 iterate 2 refine cLs rfl rfl rfl (rfl) ?_
 refine cL rfl (o_pickT (v := .bool _) rfl rfl rfl ?_)
 refine mB rfl rfl ?_
 iterate 2 refine cLs rfl rfl rfl (rfl) ?_
 refine cL rfl (o_pickT (v := .bool _) rfl rfl rfl ?_)
 refine eL ?_
 exact le_mk ⟨rfl, rfl, rfl, rfl, (congrArg AV.bool (dOrF c1 (dOrT c2))).symm, trivial⟩ rfl
 refine cLg rfl rfl (decide_eq_false c2) ?_
 refine mI rfl rfl ?_
 refine cLg rfl rfl (decide_eq_false c2) ?_
 refine mI rfl rfl ?_
 refine cLg rfl rfl (decide_eq_false c2) ?_
 refine cL rfl (o_gtr rfl rfl ?_)
 refine cL rfl (o_pickF (v := .bool _) rfl (decide_eq_false c2) rfl ?_)
 refine mB rfl rfl ?_
 by_cases c3 : ((rangeM b f t).2.1) < v
 iterate 2 refine cLs rfl rfl rfl (decide_eq_true c3) ?_
 refine cL rfl (o_pickT (v := .bool _) rfl (decide_eq_true c3) rfl ?_)
 refine mB rfl rfl ?_
 iterate 2 refine cLs rfl rfl rfl (rfl) ?_
 refine cL rfl (o_pickT (v := .bool _) rfl rfl rfl ?_)
 refine eL ?_
 exact le_mk ⟨rfl, rfl, rfl, rfl, (congrArg AV.bool (dOrF c1 (dOrF c2 (dOrT c3)))).symm, trivial⟩ rfl
 refine cLg rfl rfl (decide_eq_false c3) ?_
 refine mI rfl rfl ?_
 refine cLg rfl rfl (decide_eq_false c3) ?_
 refine cL rfl (o_lss rfl rfl ?_)
 refine cL rfl (o_pickF (v := .bool _) rfl (decide_eq_false c3) rfl ?_)
 refine mB rfl rfl ?_
 by_cases c4 : v < (-36028797018963968 : Int)
 iterate 2 refine cLs rfl rfl rfl (decide_eq_true c4) ?_
 refine cL rfl (o_pickT (v := .bool _) rfl (decide_eq_true c4) rfl ?_)
 refine eL ?_
 exact le_mk ⟨rfl, rfl, rfl, rfl, (congrArg AV.bool (dOrF c1 (dOrF c2 (dOrF c3 (dOrT c4))))).symm, trivial⟩ rfl
 refine cLg rfl rfl (decide_eq_false c4) ?_
 refine mI rfl rfl ?_
 refine cLg rfl rfl (decide_eq_false c4) ?_
 refine cL rfl (o_gtr rfl rfl ?_)
 refine cL rfl (o_pickF (v := .bool _) rfl (decide_eq_false c4) rfl ?_)
 refine eL ?_
 exact le_mk ⟨rfl, rfl, rfl, rfl, (congrArg AV.bool (dOrF c1 (dOrF c2 (dOrF c3 (dOrF c4 (rfl)))))).symm, trivial⟩ rfl
 refine W.cn rfl (fun hc => ?_) (fun hc => ?_)
 have hv := hv.1 hc
 refine W.rL ?_
 refine cL rfl (o_assign (v := .nilS) rfl ?_)
 refine aI rfl rfl ?_
 refine eL ?_
 refine W.tr [(8, .nilS), (9, .int _ _)] [.box _ [.int _ _, .lst _ _ _]] ⟨rfl, rfl, trivial⟩ rfl ?_
 refine W.ret ?_
 refine th_ret (rt ?_)
 refine rt_t (v := .nilS) rfl ?_
 refine rt_t (v := .int _ _) rfl ?_
 refine rt_n ?_
 exact ⟨_, rs_tup 5 _ (Wks.cons (rs_nil _ _ _ _ rfl) (Wks.cons (rs_int _ _ _ _) (Wks.refl _))), [], (2 : Int), rfl, hv⟩
 have hv := hv.2 hc
 refine W.skip ?_
 refine th_nrm ?_
 refine W.tr [(1, .int _ _), (2, .int _ _), (3, .int _ _), (4, .ptr _ _)] [.box _ [.int _ _, .lst _ _ _]] ⟨rfl, rfl, rfl, rfl, trivial⟩ rfl ?_
 refine W.rL ?_
 refine cL rfl (o_ldA (cs := [.int _ _, .lst _ _ _]) tt34 rfl rfl ⟨_, rfl⟩ rfl ?_)
 refine cL rfl (o_alloc (p := 1) tt34 rfl rfl ?_)
 refine cLn (o_stB (v := .agg _) (vs := [.int _ _, .lst _ _ _]) (cs2 := [.int _ _, .lst _ _ _]) tt34 rfl rfl rfl rfl rfl (Nat.le_of_ble_eq_true rfl) rfl ?_)
 refine eL ?_
 refine W.tr [(1, .int _ _), (2, .int _ _), (3, .int _ _), (4, .ptr _ _), (13, .ptr _ _)] [.box _ [.int _ _, .lst _ _ _], .box _ [.int _ _, .lst _ _ _]] ⟨rfl, rfl, rfl, rfl, rfl, trivial⟩ rfl ?_
 obtain ⟨J1, hj, hv⟩ := hv
 refine W.mid1 (fun b1 => ⟨136, look [(1, .int .i64 f), (13, .ptr 1 0)], [.dead, .box 34 [.int .i64 b1.n, .lst true b1.most.length (encL (eSl eInt true) b1.most)]], false⟩) J1 ?_ ?_
 intro b1
 intro hv
 replace hv := hj b1 hv
 refine W.rL ?_
 refine cL rfl (o_assign (v := .nilS) rfl ?_)
 refine eL ?_
 refine W.tr [(1, .int _ _), (13, .ptr _ _), (18, .nilS)] [.dead, .box _ [.int _ _, .lst _ _ _]] ⟨rfl, rfl, rfl, trivial⟩ rfl ?_
 refine W.seq' ?_
 refine W.rL ?_
 refine aI rfl rfl ?_
 refine eL ?_
 refine W.tr [(1, .int _ _), (13, .ptr _ _), (18, .nilS), (19, .int _ _)] [.dead, .box _ [.int _ _, .lst _ _ _]] ⟨rfl, rfl, rfl, rfl, trivial⟩ rfl ?_
 refine W.block ?_
 obtain ⟨I2, μ2, hp, hv⟩ := hv
 refine W.loop2 (fun v19 r2 => ⟨136, look [(1, .int .i64 f), (13, .ptr 1 0), (18, .ref true 2 r2.length), (19, .int .i64 v19)], [.dead, .box 34 [.int .i64 b1.n, .lst true b1.most.length (encL (eSl eInt true) b1.most)], .row 3 1 (encL eInt r2)], false⟩) I2 μ2 (0 : Int) [] (St.to_mk (φ := [none, some 1, none]) rfl (.inl rfl) ⟨Ren.int _ _, Ren.ptr rfl, Ren.nilR rfl rfl, Ren.int _ _, trivial⟩ ⟨rfl, .inr ⟨_, rfl, rfl, Rens.cons (Ren.int _ _) (Rens.cons (Ren.lst _ _ _) (Rens.nil))⟩, rfl, trivial⟩) hp ?_
 clear hp
 intro v19 r2 hI
 replace hv := hv v19 r2 hI
 clear hI
 refine W.seq' ?_
 refine W.rL ?_
 refine mI rfl rfl ?_
 refine cL rfl (o_fa tt34 rfl tt3 rfl ?_)
 refine cL rfl (o_ldS (v := .int _ _) tt3 rfl rfl ⟨_, rfl⟩ ?_)
 refine cL rfl (o_lss rfl rfl ?_)
 refine eL ?_
 refine W.tr [(1, .int _ _), (13, .ptr _ _), (18, .ref _ _ _), (19, .int _ _), (80, .bool _)] [.dead, .box _ [.int _ _, .lst _ _ _], .row _ _ _] ⟨rfl, rfl, rfl, rfl, rfl, trivial⟩ rfl ?_
 refine W.cn rfl (fun hc => ?_) (fun hc => ?_)
 have hv := hv.1 hc
 refine W.skip ?_
 refine th_nrm ?_
 refine W.tr [(1, .int _ _), (13, .ptr _ _), (18, .ref _ _ _), (19, .int _ _)] [.dead, .box _ [.int _ _, .lst _ _ _], .row _ _ _] ⟨rfl, rfl, rfl, rfl, trivial⟩ rfl ?_
 refine W.seq' ?_
 refine W.block ?_
 refine W.rL ?_
 refine cL rfl (o_fa tt34 rfl tt32 rfl ?_)
 refine cL rfl (o_ldS (v := .lst _ _ _) tt32 rfl rfl ⟨_, rfl⟩ ?_)
 refine mI rfl rfl ?_
 obtain ⟨s1910, hv⟩ := hv
 refine cL rfl (o_iaL tt32 tt35 rfl rfl ((encSl eInt).wd true) rfl s1910 ?_)
 intro rest1910
 refine cL rfl (o_ldS (v := .lst _ _ _) tt35 rfl rfl ⟨_, rfl⟩ ?_)
 refine mI rfl rfl ?_
 obtain ⟨s1911, hv⟩ := hv
 refine cL rfl (o_iaL tt35 tt3 rfl rfl (encInt.wd true) rfl s1911 ?_)
 intro rest1911
 refine cL rfl (o_ldS (v := .int _ _) tt3 rfl rfl ⟨_, rfl⟩ ?_)
 refine aI rfl rfl ?_
 refine eL ?_
 refine W.tr [(1, .int _ _), (13, .ptr _ _), (18, .ref _ _ _), (19, .int _ _), (20, .int _ _)] [.dead, .box _ [.int _ _, .lst _ _ _], .row _ _ _] ⟨rfl, rfl, rfl, rfl, rfl, trivial⟩ rfl ?_
 obtain ⟨J3, hj, hv⟩ := hv
 refine W.mid1 (fun v20 => ⟨136, look [(1, .int .i64 f), (13, .ptr 1 0), (18, .ref true 2 r2.length), (19, .int .i64 v19), (20, .int .i64 v20)], [.dead, .box 34 [.int .i64 b1.n, .lst true b1.most.length (encL (eSl eInt true) b1.most)], .row 3 1 (encL eInt r2)], false⟩) J3 ?_ ?_
 intro v20
 intro hv
 replace hv := hj v20 hv
 refine W.rL1 ?_
 refine cL rfl (o_move (v := .ref _ _ _) rfl ?_)
 refine mI rfl rfl ?_
 refine cL rfl (o_bs1 (v := .int _ _) (q := 3) tt35 tt3 rfl rfl rfl rfl rfl rfl rfl rfl ?_)
 obtain ⟨s1997, hv⟩ := hv
 refine cL rfl (o_apR (p := 4) (q := (r2 ++ [v20]).length) tt35 tt3 rfl rfl (src_ref rfl rfl) rfl rfl (encL_length (encInt.wd false) _) (Nat.le_trans (Nat.le_of_eq (@List.length_append _ (r2) ([v20])).symm) s1997) rfl (@List.length_append _ (r2) ([v20])).symm (encL_app eInt r2 [v20]) ?_)
 refine cL rfl (o_assign (v := .ref _ _ _) rfl ?_)
 refine eL ?_
 refine bl_nrm (th_nrm ?_)
 refine W.tr [(1, .int _ _), (13, .ptr _ _), (18, .ref _ _ _), (19, .int _ _)] [.dead, .box _ [.int _ _, .lst _ _ _], .dead, .row _ _ _, .row _ _ _] ⟨rfl, rfl, rfl, rfl, trivial⟩ rfl ?_
 refine W.rL1 ?_
 refine mI rfl rfl ?_
 obtain ⟨s1998, hv⟩ := hv
 refine cL rfl (o_add rfl rfl s1998 ?_)
 refine aI rfl rfl ?_
 refine eL ?_
 exact th_nrm (⟨(), (v19 + (1 : Int)), (r2 ++ [v20]), hv, St.to_mk (φ := [none, some 1, some 4]) rfl (.inl rfl) ⟨Ren.int _ _, Ren.ptr rfl, Ren.ref rfl (fun h => rfl), Ren.int _ _, trivial⟩ ⟨rfl, .inr ⟨_, rfl, rfl, Rens.cons (Ren.int _ _) (Rens.cons (Ren.lst _ _ _) (Rens.nil))⟩, .inr ⟨_, rfl, rfl, rfl, rfl, Rens.enc encInt false (r2 ++ [v20])⟩, trivial⟩⟩)
 clear hj
 refine W.rL ?_
 refine mI rfl rfl ?_
 refine cL rfl (o_eqI rfl rfl rfl ?_)
 refine eL ?_
 refine W.tr [(1, .int _ _), (13, .ptr _ _), (18, .ref _ _ _), (19, .int _ _), (20, .int _ _), (92, .bool _)] [.dead, .box _ [.int _ _, .lst _ _ _], .row _ _ _] ⟨rfl, rfl, rfl, rfl, rfl, rfl, trivial⟩ rfl ?_
 refine W.cn rfl (fun hc => ?_) (fun hc => ?_)
 have hv := hv.1 hc
 refine W.rL ?_
 refine aI rfl rfl ?_
 refine eL ?_
 refine W.tr [(1, .int _ _), (13, .ptr _ _), (18, .ref _ _ _), (19, .int _ _), (21, .int _ _)] [.dead, .box _ [.int _ _, .lst _ _ _], .row _ _ _] ⟨rfl, rfl, rfl, rfl, rfl, trivial⟩ rfl ?_
 refine W.seq' ?_
 refine W.rL ?_
 refine aI rfl rfl ?_
 refine eL ?_
 refine W.tr [(1, .int _ _), (13, .ptr _ _), (18, .ref _ _ _), (19, .int _ _), (21, .int _ _), (22, .int _ _)] [.dead, .box _ [.int _ _, .lst _ _ _], .row _ _ _] ⟨rfl, rfl, rfl, rfl, rfl, rfl, trivial⟩ rfl ?_
 refine W.block ?_
 obtain ⟨I4, μ4, hp, hv⟩ := hv
 refine W.loop2 (fun v21 v22 => ⟨136, look [(1, .int .i64 f), (13, .ptr 1 0), (18, .ref true 2 r2.length), (19, .int .i64 v19), (21, .int .i64 v21), (22, .int .i64 v22)], [.dead, .box 34 [.int .i64 b1.n, .lst true b1.most.length (encL (eSl eInt true) b1.most)], .row 3 1 (encL eInt r2)], false⟩) I4 μ4 (0 : Int) (0 : Int) (St.to_mk (φ := [none, some 1, some 2]) rfl (.inl rfl) ⟨Ren.int _ _, Ren.ptr rfl, Ren.ref rfl (fun h => rfl), Ren.int _ _, Ren.int _ _, Ren.int _ _, trivial⟩ ⟨rfl, .inr ⟨_, rfl, rfl, Rens.cons (Ren.int _ _) (Rens.cons (Ren.lst _ _ _) (Rens.nil))⟩, .inr ⟨_, rfl, rfl, rfl, rfl, Rens.enc encInt false r2⟩, trivial⟩) hp ?_
 clear hp
 intro v21 v22 hI
 replace hv := hv v21 v22 hI
 clear hI
 refine W.seq' ?_
 refine W.rL ?_
 refine mI rfl rfl ?_
 refine cL rfl (o_fa tt34 rfl tt3 rfl ?_)
 refine cL rfl (o_ldS (v := .int _ _) tt3 rfl rfl ⟨_, rfl⟩ ?_)
 refine cL rfl (o_lss rfl rfl ?_)
 refine eL ?_
 refine W.tr [(1, .int _ _), (13, .ptr _ _), (18, .ref _ _ _), (19, .int _ _), (21, .int _ _), (22, .int _ _), (96, .bool _)] [.dead, .box _ [.int _ _, .lst _ _ _], .row _ _ _] ⟨rfl, rfl, rfl, rfl, rfl, rfl, rfl, trivial⟩ rfl ?_
 refine W.cn rfl (fun hc => ?_) (fun hc => ?_)
 have hv := hv.1 hc
 refine W.skip ?_
 refine th_nrm ?_
 refine W.tr [(1, .int _ _), (13, .ptr _ _), (18, .ref _ _ _), (19, .int _ _), (21, .int _ _), (22, .int _ _)] [.dead, .box _ [.int _ _, .lst _ _ _], .row _ _ _] ⟨rfl, rfl, rfl, rfl, rfl, rfl, trivial⟩ rfl ?_
 obtain ⟨J5, hj, hv⟩ := hv
 refine W.mid1 (fun v21_1 => ⟨136, look [(1, .int .i64 f), (13, .ptr 1 0), (18, .ref true 2 r2.length), (19, .int .i64 v19), (21, .int .i64 v21_1), (22, .int .i64 v22)], [.dead, .box 34 [.int .i64 b1.n, .lst true b1.most.length (encL (eSl eInt true) b1.most)], .row 3 1 (encL eInt r2)], false⟩) J5 ?_ ?_
 intro v21_1
 intro hv
 replace hv := hj v21_1 hv
 refine W.rL1 ?_
 refine mI rfl rfl ?_
 obtain ⟨s2072, hv⟩ := hv
 refine cL rfl (o_add rfl rfl s2072 ?_)
 refine aI rfl rfl ?_
 refine eL ?_
 exact th_nrm (⟨(), v21_1, (v22 + (1 : Int)), hv, St.to_mk (φ := [none, some 1, some 2]) rfl (.inl rfl) ⟨Ren.int _ _, Ren.ptr rfl, Ren.ref rfl (fun h => rfl), Ren.int _ _, Ren.int _ _, Ren.int _ _, trivial⟩ ⟨rfl, .inr ⟨_, rfl, rfl, Rens.cons (Ren.int _ _) (Rens.cons (Ren.lst _ _ _) (Rens.nil))⟩, .inr ⟨_, rfl, rfl, rfl, rfl, Rens.enc encInt false r2⟩, trivial⟩⟩)
 clear hj
 refine W.block ?_
 obtain ⟨sd, hv⟩ := hv
 refine W.rLm ⟨136, look [(1, .int .i64 f), (13, .ptr 1 0), (18, .ref true 2 r2.length), (19, .int .i64 v19), (21, .int .i64 v21), (22, .int .i64 v22), (118, .bool (decide ((lat (lat b1.most f) v22 = (1152921504606846976 : Int)) ∧ (¬ lat (lat b1.most v22) v19 = (1152921504606846976 : Int)))))], [.dead, .box 34 [.int .i64 b1.n, .lst true b1.most.length (encL (eSl eInt true) b1.most)], .row 3 1 (encL eInt r2)], false⟩ ?_ ?_
 refine cL rfl (o_fa tt34 rfl tt32 rfl ?_)
 refine cL rfl (o_ldS (v := .lst _ _ _) tt32 rfl rfl ⟨_, rfl⟩ ?_)
 refine mI rfl rfl ?_
 obtain ⟨s2077, sd⟩ := sd
 refine cL rfl (o_iaL tt32 tt35 rfl rfl ((encSl eInt).wd true) rfl s2077 ?_)
 intro rest2077
 refine cL rfl (o_ldS (v := .lst _ _ _) tt35 rfl rfl ⟨_, rfl⟩ ?_)
 refine mI rfl rfl ?_
 obtain ⟨s2078, sd⟩ := sd
 refine cL rfl (o_iaL tt35 tt3 rfl rfl (encInt.wd true) rfl s2078 ?_)
 intro rest2078
 refine cL rfl (o_ldS (v := .int _ _) tt3 rfl rfl ⟨_, rfl⟩ ?_)
 refine cL rfl (o_eqI rfl rfl rfl ?_)
 refine mB rfl rfl ?_
 by_cases c1 : lat (lat b1.most f) v22 = (1152921504606846976 : Int)
 have sd := sd.1 c1
 refine cLg rfl rfl (decide_eq_true c1) ?_
 refine cL rfl (o_fa tt34 rfl tt32 rfl ?_)
 refine cLg rfl rfl (decide_eq_true c1) ?_
 refine cL rfl (o_ldS (v := .lst _ _ _) tt32 rfl rfl ⟨_, rfl⟩ ?_)
 refine cLg rfl rfl (decide_eq_true c1) ?_
 refine mI rfl rfl ?_
 refine cLg rfl rfl (decide_eq_true c1) ?_
 obtain ⟨s2079, sd⟩ := sd
 refine cL rfl (o_iaL tt32 tt35 rfl rfl ((encSl eInt).wd true) rfl s2079 ?_)
 intro rest2079
 refine cLg rfl rfl (decide_eq_true c1) ?_
 refine cL rfl (o_ldS (v := .lst _ _ _) tt35 rfl rfl ⟨_, rfl⟩ ?_)
 refine cLg rfl rfl (decide_eq_true c1) ?_
 refine mI rfl rfl ?_
 refine cLg rfl rfl (decide_eq_true c1) ?_
 obtain ⟨s2080, sd⟩ := sd
 refine cL rfl (o_iaL tt35 tt3 rfl rfl (encInt.wd true) rfl s2080 ?_)
 intro rest2080
 refine cLg rfl rfl (decide_eq_true c1) ?_
 refine cL rfl (o_ldS (v := .int _ _) tt3 rfl rfl ⟨_, rfl⟩ ?_)
 refine cLg rfl rfl (decide_eq_true c1) ?_
 refine cL rfl (o_neI rfl rfl rfl ?_)
 refine cL rfl (o_pickT (v := .bool _) rfl (decide_eq_true c1) rfl ?_)
 refine eL ?_
 exact le_mk ⟨rfl, rfl, rfl, rfl, rfl, rfl, (congrArg AV.bool (dAndT c1 (rfl))).symm, trivial⟩ rfl
 iterate 9 refine cLs rfl rfl rfl (decide_eq_false c1) ?_
 refine cL rfl (o_pickF (v := .bool _) rfl (decide_eq_false c1) rfl ?_)
 refine eL ?_
 exact le_mk ⟨rfl, rfl, rfl, rfl, rfl, rfl, (congrArg AV.bool (dAndF c1)).symm, trivial⟩ rfl
 refine W.cn rfl (fun hc => ?_) (fun hc => ?_)
 have hv := hv.1 hc
 refine W.rL1 ?_
 refine mI rfl rfl ?_
 refine cL rfl (o_fa tt34 rfl tt32 rfl ?_)
 refine cL rfl (o_ldS (v := .lst _ _ _) tt32 rfl rfl ⟨_, rfl⟩ ?_)
 refine mI rfl rfl ?_
 obtain ⟨s2081, hv⟩ := hv
 refine cL rfl (o_iaL tt32 tt35 rfl rfl ((encSl eInt).wd true) rfl s2081 ?_)
 intro rest2081
 refine cL rfl (o_ldS (v := .lst _ _ _) tt35 rfl rfl ⟨_, rfl⟩ ?_)
 refine mI rfl rfl ?_
 obtain ⟨s2082, hv⟩ := hv
 refine cL rfl (o_iaL tt35 tt3 rfl rfl (encInt.wd true) rfl s2082 ?_)
 intro rest2082
 refine cL rfl (o_ldS (v := .int _ _) tt3 rfl rfl ⟨_, rfl⟩ ?_)
 refine cL rfl (o_min rfl rfl ?_)
 refine aI rfl rfl ?_
 refine eL ?_
 exact bl_nrm (th_nrm (⟨(), (min v21 (lat (lat b1.most v22) v19)), hv, St.to_mk (φ := [none, some 1, some 2]) rfl (.inl rfl) ⟨Ren.int _ _, Ren.ptr rfl, Ren.ref rfl (fun h => rfl), Ren.int _ _, Ren.int _ _, Ren.int _ _, trivial⟩ ⟨rfl, .inr ⟨_, rfl, rfl, Rens.cons (Ren.int _ _) (Rens.cons (Ren.lst _ _ _) (Rens.nil))⟩, .inr ⟨_, rfl, rfl, rfl, rfl, Rens.enc encInt false r2⟩, trivial⟩⟩))
 have hv := hv.2 hc
 refine W.skip ?_
 exact bl_nrm (th_nrm (⟨(), v21, hv, St.to_mk (φ := [none, some 1, some 2]) rfl (.inl rfl) ⟨Ren.int _ _, Ren.ptr rfl, Ren.ref rfl (fun h => rfl), Ren.int _ _, Ren.int _ _, Ren.int _ _, trivial⟩ ⟨rfl, .inr ⟨_, rfl, rfl, Rens.cons (Ren.int _ _) (Rens.cons (Ren.lst _ _ _) (Rens.nil))⟩, .inr ⟨_, rfl, rfl, rfl, rfl, Rens.enc encInt false r2⟩, trivial⟩⟩))
 have hv := hv.2 hc
 refine W.exit ?_
 refine th_exit (th_exit (bl_hit (th_nrm ?_)))
 refine W.tr [(1, .int _ _), (13, .ptr _ _), (18, .ref _ _ _), (19, .int _ _), (21, .int _ _)] [.dead, .box _ [.int _ _, .lst _ _ _], .row _ _ _] ⟨rfl, rfl, rfl, rfl, rfl, trivial⟩ rfl ?_
 refine W.rL1 ?_
 refine mI rfl rfl ?_
 obtain ⟨s2083, hv⟩ := hv
 refine cL rfl (o_add rfl rfl s2083 ?_)
 refine aI rfl rfl ?_
 refine eL ?_
 exact th_nrm (⟨(), ((576460752303423488 : Int) + v21), hv, St.to_mk (φ := [none, some 1, some 2]) rfl (.inl rfl) ⟨Ren.int _ _, Ren.ptr rfl, Ren.ref rfl (fun h => rfl), Ren.int _ _, Ren.int _ _, trivial⟩ ⟨rfl, .inr ⟨_, rfl, rfl, Rens.cons (Ren.int _ _) (Rens.cons (Ren.lst _ _ _) (Rens.nil))⟩, .inr ⟨_, rfl, rfl, rfl, rfl, Rens.enc encInt false r2⟩, trivial⟩⟩)
 have hv := hv.2 hc
 refine W.skip ?_
 exact th_nrm (⟨(), (lat (lat b1.most f) v19), hv, St.to_mk (φ := [none, some 1, some 2]) rfl (.inl rfl) ⟨Ren.int _ _, Ren.ptr rfl, Ren.ref rfl (fun h => rfl), Ren.int _ _, Ren.int _ _, trivial⟩ ⟨rfl, .inr ⟨_, rfl, rfl, Rens.cons (Ren.int _ _) (Rens.cons (Ren.lst _ _ _) (Rens.nil))⟩, .inr ⟨_, rfl, rfl, rfl, rfl, Rens.enc encInt false r2⟩, trivial⟩⟩)
 have hv := hv.2 hc
 refine W.exit ?_
 refine th_exit (th_exit (bl_hit (th_nrm ?_)))
 refine W.tr [(18, .ref _ _ _)] [.dead, .box _ [.int _ _, .lst _ _ _], .row _ _ _] ⟨rfl, trivial⟩ rfl ?_
 refine W.rL ?_
 refine cL rfl (o_move (v := .ref _ _ _) rfl ?_)
 refine cL rfl (o_assign (v := .ref _ _ _) rfl ?_)
 refine aI rfl rfl ?_
 refine eL ?_
 refine W.tr [(8, .ref _ _ _), (9, .int _ _)] [.dead, .box _ [.int _ _, .lst _ _ _], .row _ _ _] ⟨rfl, rfl, trivial⟩ rfl ?_
 refine W.ret ?_
 refine rt ?_
 refine rt_t (v := .ref _ _ _) rfl ?_
 refine rt_t (v := .int _ _) rfl ?_
 refine rt_n ?_
 exact ⟨_, rs_tup 5 _ (Wks.cons (rs_ref encInt 3 _ rfl rfl) (Wks.cons (rs_int _ _ _ _) (Wks.refl _))), r2, (0 : Int), rfl, hv⟩
 clear hj
 refine W.rL ?_
 iterate 2 refine mI rfl rfl ?_
 refine cL rfl (o_neI rfl rfl rfl ?_)
 refine eL ?_
 refine W.tr [(1, .int _ _), (2, .int _ _), (3, .int _ _), (4, .ptr _ _), (13, .ptr _ _), (54, .bool _)] [.box _ [.int _ _, .lst _ _ _], .box _ [.int _ _, .lst _ _ _]] ⟨rfl, rfl, rfl, rfl, rfl, rfl, trivial⟩ rfl ?_
 refine W.cn rfl (fun hc => ?_) (fun hc => ?_)
 have hv := hv.1 hc
 refine W.rL ?_
 refine cL rfl (o_ldA (cs := [.int _ _, .lst _ _ _]) tt34 rfl rfl ⟨_, rfl⟩ rfl ?_)
 iterate 3 refine mI rfl rfl ?_
 obtain ⟨s2084, hv⟩ := hv
 refine cL rfl (o_callP1 (k := 42) (fst := []) (caps := []) (ys := [.agg _, .int _ _, .int _ _, .int _ _]) rfl rfl (spec_rwith b f t v s2084) (Wks.cons (ag_agg 5 _ (Wks.cons (ag_int _ _ _ _) (Wks.cons (ag_lst _ _ _ _ _) (Wks.refl _)))) (Wks.cons (ag_int _ _ _ _) (Wks.cons (ag_int _ _ _ _) (Wks.cons (ag_int _ _ _ _) (Wks.refl _))))) ?_)
 refine cL rfl (o_move (v := .tup _) rfl ?_)
 refine cL rfl (o_ext (v := .agg _) rfl rfl ?_)
 refine cL rfl (o_ext (v := .bool _) rfl rfl ?_)
 refine cL rfl (o_alloc (p := 2) tt34 rfl rfl ?_)
 refine cLn (o_stB (v := .agg _) (vs := [.int _ _, .lst _ _ _]) (cs2 := [.int _ _, .lst _ _ _]) tt34 rfl rfl rfl rfl rfl (Nat.le_of_ble_eq_true rfl) rfl ?_)
 refine aB rfl rfl ?_
 refine eL ?_
 refine W.tr [(1, .int _ _), (2, .int _ _), (3, .int _ _), (13, .ptr _ _), (14, .ptr _ _), (15, .bool _)] [.box _ [.int _ _, .lst _ _ _], .box _ [.int _ _, .lst _ _ _], .box _ [.int _ _, .lst _ _ _]] ⟨rfl, rfl, rfl, rfl, rfl, rfl, trivial⟩ rfl ?_
 refine W.seq' ?_
 refine W.rL ?_
 refine mB rfl rfl ?_
 refine cL rfl (o_notB rfl ?_)
 refine eL ?_
 refine W.tr [(1, .int _ _), (2, .int _ _), (3, .int _ _), (13, .ptr _ _), (14, .ptr _ _), (64, .bool _)] [.box _ [.int _ _, .lst _ _ _], .box _ [.int _ _, .lst _ _ _], .box _ [.int _ _, .lst _ _ _]] ⟨rfl, rfl, rfl, rfl, rfl, rfl, trivial⟩ rfl ?_
 refine W.cn rfl (fun hc => ?_) (fun hc => ?_)
 have hv := hv.1 hc
 refine W.rL ?_
 refine cL rfl (o_assign (v := .nilS) rfl ?_)
 refine aI rfl rfl ?_
 refine eL ?_
 refine W.tr [(8, .nilS), (9, .int _ _)] [.box _ [.int _ _, .lst _ _ _], .box _ [.int _ _, .lst _ _ _], .box _ [.int _ _, .lst _ _ _]] ⟨rfl, rfl, trivial⟩ rfl ?_
 refine W.ret ?_
 refine th_ret (th_ret (rt ?_))
 refine rt_t (v := .nilS) rfl ?_
 refine rt_t (v := .int _ _) rfl ?_
 refine rt_n ?_
 exact ⟨_, rs_tup 5 _ (Wks.cons (rs_nil _ _ _ _ rfl) (Wks.cons (rs_int _ _ _ _) (Wks.refl _))), [], (2 : Int), rfl, hv⟩
 have hv := hv.2 hc
 refine W.skip ?_
 refine th_nrm ?_
 refine W.tr [(1, .int _ _), (2, .int _ _), (3, .int _ _), (13, .ptr _ _), (14, .ptr _ _)] [.box _ [.int _ _, .lst _ _ _], .box _ [.int _ _, .lst _ _ _], .box _ [.int _ _, .lst _ _ _]] ⟨rfl, rfl, rfl, rfl, rfl, trivial⟩ rfl ?_
 refine W.rL ?_
 refine cL rfl (o_ldA (cs := [.int _ _, .lst _ _ _]) tt34 rfl rfl ⟨_, rfl⟩ rfl ?_)
 iterate 3 refine mI rfl rfl ?_
 obtain ⟨s2085, hv⟩ := hv
 refine cL rfl (o_neg rfl s2085 ?_)
 obtain ⟨s2086, hv⟩ := hv
 refine cL rfl (o_callP1 (k := 42) (fst := []) (caps := []) (ys := [.agg _, .int _ _, .int _ _, .int _ _]) rfl rfl (spec_rwith ((withM b f t v).1) t f (-v) s2086) (Wks.cons (ag_agg 5 _ (Wks.cons (ag_int _ _ _ _) (Wks.cons (ag_lst _ _ _ _ _) (Wks.refl _)))) (Wks.cons (ag_int _ _ _ _) (Wks.cons (ag_int _ _ _ _) (Wks.cons (ag_int _ _ _ _) (Wks.refl _))))) ?_)
 refine cL rfl (o_move (v := .tup _) rfl ?_)
 refine cL rfl (o_ext (v := .agg _) rfl rfl ?_)
 refine cL rfl (o_ext (v := .bool _) rfl rfl ?_)
 refine cL rfl (o_alloc (p := 3) tt34 rfl rfl ?_)
 refine cLn (o_stB (v := .agg _) (vs := [.int _ _, .lst _ _ _]) (cs2 := [.int _ _, .lst _ _ _]) tt34 rfl rfl rfl rfl rfl (Nat.le_of_ble_eq_true rfl) rfl ?_)
 refine aB rfl rfl ?_
 refine eL ?_
 refine W.tr [(1, .int _ _), (13, .ptr _ _), (16, .ptr _ _), (17, .bool _)] [.box _ [.int _ _, .lst _ _ _], .box _ [.int _ _, .lst _ _ _], .box _ [.int _ _, .lst _ _ _], .box _ [.int _ _, .lst _ _ _]] ⟨rfl, rfl, rfl, rfl, trivial⟩ rfl ?_
 refine W.seq' ?_
 refine W.rL ?_
 refine mB rfl rfl ?_
 refine cL rfl (o_notB rfl ?_)
 refine eL ?_
 refine W.tr [(1, .int _ _), (13, .ptr _ _), (16, .ptr _ _), (75, .bool _)] [.box _ [.int _ _, .lst _ _ _], .box _ [.int _ _, .lst _ _ _], .box _ [.int _ _, .lst _ _ _], .box _ [.int _ _, .lst _ _ _]] ⟨rfl, rfl, rfl, rfl, trivial⟩ rfl ?_
 refine W.cn rfl (fun hc => ?_) (fun hc => ?_)
 have hv := hv.1 hc
 refine W.rL ?_
 refine cL rfl (o_assign (v := .nilS) rfl ?_)
 refine aI rfl rfl ?_
 refine eL ?_
 refine W.tr [(8, .nilS), (9, .int _ _)] [.box _ [.int _ _, .lst _ _ _], .box _ [.int _ _, .lst _ _ _], .box _ [.int _ _, .lst _ _ _], .box _ [.int _ _, .lst _ _ _]] ⟨rfl, rfl, trivial⟩ rfl ?_
 refine W.ret ?_
 refine th_ret (th_ret (rt ?_))
 refine rt_t (v := .nilS) rfl ?_
 refine rt_t (v := .int _ _) rfl ?_
 refine rt_n ?_
 exact ⟨_, rs_tup 5 _ (Wks.cons (rs_nil _ _ _ _ rfl) (Wks.cons (rs_int _ _ _ _) (Wks.refl _))), [], (2 : Int), rfl, hv⟩
 have hv := hv.2 hc
 refine W.skip ?_
 refine th_nrm ?_
 refine W.tr [(1, .int _ _), (13, .ptr _ _), (16, .ptr _ _)] [.box _ [.int _ _, .lst _ _ _], .box _ [.int _ _, .lst _ _ _], .box _ [.int _ _, .lst _ _ _], .box _ [.int _ _, .lst _ _ _]] ⟨rfl, rfl, rfl, trivial⟩ rfl ?_
 refine W.rL1 ?_
 refine cL rfl (o_ldA (cs := [.int _ _, .lst _ _ _]) tt34 rfl rfl ⟨_, rfl⟩ rfl ?_)
 refine cLn (o_stB (v := .agg _) (vs := [.int _ _, .lst _ _ _]) (cs2 := [.int _ _, .lst _ _ _]) tt34 rfl rfl rfl rfl rfl (Nat.le_of_ble_eq_true rfl) rfl ?_)
 refine eL ?_
 exact th_nrm (⟨(), ((withM ((withM b f t v).1) t f (-v)).1), hv, St.to_mk (φ := [none, some 1]) rfl (.inl rfl) ⟨Ren.int _ _, Ren.ptr rfl, trivial⟩ ⟨rfl, .inr ⟨_, rfl, rfl, Rens.cons (Ren.int _ _) (Rens.cons (Ren.lstT _ _ _) (Rens.nil))⟩, trivial⟩⟩)
 have hv := hv.2 hc
 refine W.skip ?_
 exact th_nrm (⟨(), b, hv, St.to_mk (φ := [none, some 1]) rfl (.inl rfl) ⟨Ren.int _ _, Ren.ptr rfl, trivial⟩ ⟨rfl, .inr ⟨_, rfl, rfl, Rens.cons (Ren.int _ _) (Rens.cons (Ren.lst _ _ _) (Rens.nil))⟩, trivial⟩⟩)
theorem vcp_rpoint (b : Bd) (f : Int) (t : Int) (v : Int) (h0 : b.most.length ≤ 1073741824) (h1 : ∀ r ∈ b.most, r.length ≤ 1073741824) : vc_rpoint b f t v (fun q0 q1 => q0 = (pointM b f t v).1 ∧ q1 = (pointM b f t v).2) := by
  unfold vc_rpoint
  have hnb := hNB
  refine ⟨h0, h1, fun h => ?_, fun h => ?_⟩
  · rw [point_neg fun e => ?_]
    · exact ⟨rfl, rfl⟩
    · omega
  have hr : (rangeM b f t).2.2 = 0 ∧ max (rangeM b f t).1 (-36028797018963968) ≤ v ∧ v ≤ min (rangeM b f t).2.1 36028797018963968 := by omega
  rw [point_pos hr]
  obtain ⟨hv, hf, ht⟩ := range_ok hr.1
  have vb := validBM_iff.mp hv
  have hn := vb.n
  obtain ⟨f, rfl⟩ : ∃ k : Nat, f = k := ⟨f.toNat, by omega⟩
  obtain ⟨t, rfl⟩ : ∃ k : Nat, t = k := ⟨t.toNat, by omega⟩
  rw [range_pos hv (by omega) (by omega)] at hr
  obtain ⟨ha, hT⟩ := ptM_spec hv (by omega) (by omega) hr.2
  have hr2 := hr.2
  dsimp only at hr2
  have hcl := hT.cl
  -- both further bounds are taken
  have two : ¬ (f : Int) = t → WithOk b f t v ∧ (withM b f t v).2 = true ∧ WithOk (withM b f t v).1 t f (-v) ∧ (withM (withM b f t v).1 t f (-v)).2 = true ∧ (withM (withM b f t v).1 t f (-v)).1 = boundsM (ptM b f t v) b.n := fun hne => by
    obtain ⟨a1, a2, a3⟩ := vb.cl.add (f := (f : Int)) (t := (t : Int)) (w := v) (by omega) (by omega) (by omega) (by omega)
    simp only [Int.toNat_natCast] at a1 a2 a3
    have hof : mm (ofM b) t f = bm b t f := by rw [of_at vb (by omega) (by omega), if_pos (by omega)]
    have k1 : (addM (ofM b) f t v).1 = true := a3.mpr (.inr (by rw [hof]; omega))
    obtain ⟨b1, b2⟩ := a1 k1
    have w1 : withM b f t v = (boundsM (addM (ofM b) f t v).2 b.n, true) := by rw [vb.with (by omega) (by omega) (by omega), if_pos k1]
    have k2 : (addM (addM (ofM b) f t v).2 t f (-v)).1 = true := by
      rcases Classical.em ((addM (addM (ofM b) f t v).2 t f (-v)).1 = true) with e | e
      · exact e
      · exfalso
        obtain ⟨p1, p2⟩ := b1.bad (f := t) (t := f) (w := -v) (by omega) (by omega) (by omega) e
        obtain ⟨-, -, s⟩ := hcl.pt (by omega) (f := f) (by omega)
        obtain ⟨s1, s2⟩ := (hT.sol _).mp s
        have s3 := (b2 _).mpr ⟨s1, Int.le_of_eq s2⟩ f t (by omega) (by omega) p1
        omega
    have w2 := with_bounds b1 (by omega) (n := b.n) ⟨hn.1, hn.2.1⟩ (f := t) (t := f) (w := -v) (by omega) (by omega) (by omega)
    rw [if_pos k2] at w2
    rw [w1]
    dsimp only
    rw [w2]
    refine ⟨vb.wok (by omega) (by omega) (by omega), rfl, bounds_wok b1 (by omega) ⟨hn.1, hn.2.1⟩ (by omega) (by omega) (by omega), rfl, ?_⟩
    unfold ptM; rw [if_neg hne]
  have one : (f : Int) = t → b = boundsM (ptM b f t v) b.n := fun e => by unfold ptM; rw [if_pos e, vb.bounds]
  generalize ptM b f t v = m at two one hcl ⊢
  simp only [Int.toNat_natCast]
  refine ⟨fun b1 => b1 = boundsM m b.n, ?_, fun k => ?_, fun k => one (Classical.not_not.mp k)⟩
  rotate_left
  · obtain ⟨q1, q2, q3, q4, q5⟩ := two k
    rw [q2, q4]
    exact ⟨q1, fun h => (h rfl).elim, fun _ => ⟨by unfold inI; omega, q3, fun h => (h rfl).elim, fun _ => q5⟩⟩
  intro b1 hb1
  subst hb1
  have hN : (boundsM m b.n).n = b.n := bounds_n
  rw [hN]
  have hL : ((boundsM m b.n).most.length : Int) = b.n := by rw [bounds_len]; omega
  have hrow : ∀ i : Nat, (i : Int) < b.n → ((lat (boundsM m b.n).most (i : Int)).length : Int) = b.n := fun i hi => by
    have := bounds_row (m := m) (n := b.n) (by omega) (i := i) (by omega)
    rw [lat_nat]
    show (((boundsM m b.n).most.getD i []).length : Int) = _
    omega
  have hE : ∀ i j : Nat, (i : Int) < b.n → (j : Int) < b.n → lat (lat (boundsM m b.n).most (i : Int)) (j : Int) = mm m i j := fun i j hi hj => by rw [lat_lat, bm_bounds (by omega) (by omega)]
  rw [pointV_eq]
  refine ⟨fun v r => ∃ j : Nat, v = j ∧ j ≤ b.n.toNat ∧ r = (List.range j).map (ptF m f b.n.toNat), fun v _ => b.n.toNat - v.toNat, ⟨0, rfl, by omega, rfl⟩, ?_⟩
  rintro _ _ ⟨j, rfl, hj, rfl⟩
  refine ⟨fun k1 => ?_, fun k1 => ?_⟩
  · have hfr := hrow f (by omega)
    rw [hE f j (by omega) (by omega)]
    have hbj := hcl.bd f j (by omega) (by omega)
    refine ⟨by omega, by omega, fun v => v = ptF m f b.n.toNat j, fun v hv => ⟨by simp; omega, by unfold inI; omega, ⟨j + 1, by omega, by omega, ?_⟩, by first | omega | (dsimp only; omega)⟩, fun k2 => ?_, fun k2 => ?_⟩
    · rw [hv, List.range_succ, List.map_append]; rfl
    · refine ⟨fun less v => ∃ i : Nat, v = i ∧ i ≤ b.n.toNat ∧ (-108086391056891904 ≤ less ∧ less ≤ 0) ∧ 576460752303423488 + less = (List.range i).foldl (fun o i => if mm m f i = NB ∧ ¬ mm m i j = NB then min o (576460752303423488 + mm m i j) else o) 576460752303423488, fun _ v => b.n.toNat - v.toNat, ⟨0, rfl, by omega, by omega, rfl⟩, ?_⟩
      rintro less _ ⟨i, rfl, hi, hlb, hls⟩
      refine ⟨fun k3 => ?_, fun k3 => ⟨by unfold inI; omega, ?_⟩⟩
      · have hir := hrow i (by omega)
        rw [hE f i (by omega) (by omega), hE i j (by omega) (by omega)]
        have hbi := hcl.bd i j (by omega) (by omega)
        refine ⟨fun less' => (-108086391056891904 ≤ less' ∧ less' ≤ 0) ∧ 576460752303423488 + less' = (List.range (i + 1)).foldl (fun o i => if mm m f i = NB ∧ ¬ mm m i j = NB then min o (576460752303423488 + mm m i j) else o) 576460752303423488, fun less' h' => ⟨by unfold inI; omega, ⟨i + 1, by omega, by omega, h'⟩, by first | omega | (dsimp only; omega)⟩, ⟨by omega, by omega, fun _ => ⟨by omega, by omega, trivial⟩, fun _ => trivial⟩, fun k4 => ⟨by omega, by omega, by omega, ?_⟩, fun k4 => ⟨hlb, ?_⟩⟩
        · rw [List.range_succ, List.foldl_append, ← hls]
          simp only [List.foldl_cons, List.foldl_nil]
          have k4' : mm m f i = NB ∧ ¬ mm m i j = NB := k4
          rw [if_pos k4']; omega
        · rw [List.range_succ, List.foldl_append, ← hls]
          simp only [List.foldl_cons, List.foldl_nil]
          have k4' : ¬ (mm m f i = NB ∧ ¬ mm m i j = NB) := k4
          rw [if_neg k4']
      · obtain rfl : i = b.n.toNat := by omega
        have k2' : mm m f j = NB := k2
        unfold ptF
        rw [if_pos k2', ← hls]
    · have k2' : ¬ mm m f j = NB := k2
      unfold ptF
      rw [if_neg k2']
  · obtain rfl : j = b.n.toNat := by omega
    exact ⟨rfl, trivial⟩
theorem spec_rpoint (b : Bd) (f : Int) (t : Int) (v : Int) (h0 : b.most.length ≤ 1073741824) (h1 : ∀ r ∈ b.most, r.length ≤ 1073741824) : FnP Try.prog 24 [.agg ((e34 true) b), .int .i64 f, .int .i64 t, .int .i64 v] (fun xR => xR = .tup [.lst false ((pointM b f t v).1).length (encL eInt ((pointM b f t v).1)), .int .i64 ((pointM b f t v).2)]) :=
  (walk_rpoint (vcp_rpoint b f t v h0 h1)).mono (by rintro _ ⟨_, _, rfl, rfl, rfl⟩; rfl)
end Go.Lat
